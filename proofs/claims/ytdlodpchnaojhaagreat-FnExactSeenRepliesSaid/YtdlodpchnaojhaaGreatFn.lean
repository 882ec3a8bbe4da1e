import Derived.Test.YtdlodpchnaojhaaGreatDraw
namespace Go.Kx
open Go Go.RowKit
set_option linter.unusedVariables false
set_option linter.unusedSimpArgs false
def iter {σ ρ:Type} (body:σ→Option (σ⊕ρ)):Nat→σ→Option ρ
  | 0,_=>none
  | n+1,s=>(body s).bind fun o=>match o with
    | .inl s'=>iter body n s'
    | .inr r=>some r
theorem pA {α β:Type} {x:Option α} {f:α→Option β} {b:β} (h:x.bind f=some b):∃ a,x=some a∧f a=some b:=Option.bind_eq_some_iff.1 h
theorem NU {α:Type} {c:Bool} {a b:Option α} {r:α} (h:(bif c then a else b)=some r) (hc:c=true):a=some r:=by subst hc;exact h
theorem NP {α:Type} {c:Bool} {a b:Option α} {r:α} (h:(bif c then a else b)=some r) (hc:c=false):b=some r:=by subst hc;exact h
section
variable {P:Program} {n:Nat} {e:Env} {w:World}
theorem CW.iter {σ ρ:Type} {c:Code} {body:σ→Option (σ⊕ρ)} (R:σ→Env→World→Prop) (Q:ρ→kN)
    (hb:∀ (s:σ) (e:Env) (w:World) (o:σ⊕ρ),R s e w→body s=some o→CW P n c (fun x e' w'=>match o with
      | .inl s'=>x=.normal∧R s' e' w'
      | .inr r=>(match x with | .normal=>False | _=>True)∧Q r x e' w') e w)
    (N:Nat) (s:σ) (e:Env) (w:World) (r:ρ) (hR:R s e w) (h:Kx.iter body N s=some r):CW P n (.loop c) (Q r) e w:=by
  have key:∀ (N:Nat) (s:σ) (e:Env) (w:World),R s e w→Kx.iter body N s=some r→∀ a,Is a n e→Code.rounds P c (lift n (Q r)) N a w:=by
    intro N
    induction N with
    | zero=>intro s e w _ h;cases h
    | succ N ih =>
      intro s e w hR h a ha;obtain ⟨o,ho,h2⟩:=pA h;rw [rounds_succ];refine Code.wp_mono ?_ (hb s e w o hR ho a ha);rintro x a' w' ⟨hc,e',he',hq⟩
      cases o with
      | inl s' =>
        obtain ⟨rfl,hR'⟩:=hq;exact ih s' e' w' hR' h2 a' he'
      | inr r' =>
        cases h2
        cases x with
        | normal=>exact hq.1.elim
        | _=>exact ⟨hc,e',he',hq.2⟩
  exact fun a ha=>wp_loop_rounds N (key N s e w hR h a ha)
def CC (args:Array Value):Env:=fun i=>args.getD i undef
def ib (P:Program) (e:Env) (w:World):ResultVar→Value→Prop
  | .tmp t,v=>e t=v
  | .cell a T,v=>∃ ad,e a=.pointer (some ad)∧(loadVar T ad).run P w=.ok v w
def kt (P:Program) (rs:Array ResultVar) (e:Env) (w:World) (v:Value):Prop:=∀ (fn:Func) (tmps:Array Value),fn.results=rs→(∀ i,tmps.getD i undef=e i)→(results fn tmps).run P w=.ok v w
def AY (tmps:Array Value):ResultVar→Sem Value
  | .tmp t=>pure (tmps.getD t undef)
  | .cell a t=>do loadVar t (← asAddr (tmps.getD a undef))
theorem tD (fn:Func) (tmps:Array Value):results fn tmps=(do
    let vs ← fn.results.mapM (AY tmps)
    pure (if h:vs.size=1 then vs[0] else .tuple vs)):=by
  unfold results;congr 2
theorem qi {tmps:Array Value} (h2:∀ i,tmps.getD i undef=e i) {r:ResultVar} {v:Value} (h:ib P e w r v):(AY tmps r).run P w=.ok v w:=by
  cases r with
  | tmp t=>rw [← (show e t=v from h), ← h2 t];simp [AY]
  | cell a t =>
    obtain ⟨ad,h1,h3⟩:=h;rw [← h2 a] at h1;simp only [AY,h1,asAddr];simpa using h3
theorem kt.zero:kt P #[] e w (.tuple #[]):=fun fn tmps h1 h2=>by simp [tD,h1]
theorem kt.one {r:ResultVar} {v:Value} (h:ib P e w r v):kt P #[r] e w v:=fun fn tmps h1 h2=>by
  have:=qi h2 h;simp [tD,h1,this]
theorem kt.two {r s:ResultVar} {u v:Value} (h:ib P e w r u) (k:ib P e w s v):kt P #[r,s] e w (.tuple #[u,v]):=fun fn tmps h1 h2=>by
  have:=qi h2 h;have:=qi h2 k;simp [tD,h1, *]
theorem kt.three {r s t:ResultVar} {u v x:Value} (h:ib P e w r u) (k:ib P e w s v) (l:ib P e w t x):kt P #[r,s,t] e w (.tuple #[u,v,x]):=fun fn tmps h1 h2=>by
  have:=qi h2 h;have:=qi h2 k;have:=qi h2 l;simp [tD,h1, *]
theorem kt.four {r s t q:ResultVar} {u v x y:Value} (h:ib P e w r u) (k:ib P e w s v) (l:ib P e w t x) (m:ib P e w q y):kt P #[r,s,t,q] e w (.tuple #[u,v,x,y]):=fun fn tmps h1 h2=>by
  have:=qi h2 h;have:=qi h2 k;have:=qi h2 l;have:=qi h2 m;simp [tD,h1, *]
theorem ib.t {t:Nat} {v:Value} (h:e t=v):ib P e w (.tmp t) v:=h
theorem ib.b {w0:World} {F0:List Nat} {L:List Item} {a T:Nat} {m g:Nat} {bt:TypeId} {cs:List Value} (hS:St w0 F0 w L) (i:Nat) (hi:L[i]?=some (bx g bt cs)) (ht:jl P T=some (some m)) (ha:e a=.pointer (some ⟨g,0,none⟩)) (hm:cs.length=m):ib P e w (.cell a T) (.agg cs.toArray):=by
  have hl:=jf.agg (P:=P) (ρ:=ev e) (x:=.tmp a) (o:=0) (cs:=cs) ht ha hm;refine ⟨_,ha,?_⟩;have h1:=hl none 0 "" #[] none w (fun j u hu=>by rw [cell_of_row w g _ cs.toArray bt (0,0) (St.cell (h:=hS) hi)];simpa using hu);have ha':ev e (.tmp a)=.pointer (some ⟨g,0,none⟩):=ha;simp only [execOp,Instr.loadAt,ha',Instr.sureAddr] at h1
  cases hr:(loadVar T ⟨g,0,none⟩).run P w with
  | ok v w'=>simp [hr] at h1;obtain ⟨h2,h3⟩:=h1;subst h2;subst h3;rfl
  | halt x w'=>simp [hr] at h1
theorem gV.of {f:FuncId} {fn:Func} {c:Code} {args:Array Value} {K:Value→World→Prop} (hf:P.funcs[f]?=some fn) (hb:fn.body=some c) (hn:fn.ntmps=n) (ha:Nat.ble args.size n=true)
    (h:CW P n c (fun x e' w'=>(match x with | .ret=>True | .normal=>True | _=>False)∧∃ v,kt P fn.results e' w' v∧K v w') (CC args) w):gV P f args w K:=by
  have ha:=Nat.le_of_ble_eq_true ha;refine calls_of_wp hf hb (Code.wp_mono ?_ (h _ ⟨rfl,?_,fun i=>?_⟩))
  · rintro x a w' ⟨hc,e',he',hx,v,hr,hk⟩;have hres:=hr fn a.tmps rfl he'.get
    cases x with
    | normal=>exact ⟨he'.defers,v,hres,hk⟩
    | ret=>exact ⟨he'.defers,v,hres,hk⟩
    | _=>exact hx.elim
  · simp [hn];omega
  · unfold CC;simp only [Array.getD_eq_getD_getElem?,Array.getElem?_append];split
    · rfl
    · rename_i hi;rw [Array.getElem?_eq_none (xs:=args) (by omega)]
      by_cases hj:i - args.size<fn.ntmps - args.size
      · rw [Array.getElem?_replicate,if_pos hj];rfl
      · rw [Array.getElem?_replicate,if_neg hj]
end
theorem iP.lY {α:Type} [hD α] {M:List Item} {w:World} {F:List Nat} {S:Nat→Prop} (h:iP M w F) (i:Nat) {a:Option Addr} {c:Nat} {l:List α} (hi:M[i]?=some (sl a c l)) (hS:∀ b,b ∈ F→S b):iM S w a c l:=by
  obtain ⟨Fi,q1,q2⟩:=h.at_ i hi;exact mc.rd q1 fun b hb=>hS b (q2 b hb)
def dz (b:Int):Option Unit:=if b=0 then none else some ()
theorem Kk {b:Int} {u:Unit} (h:dz b=some u):b ≠ 0:=by unfold dz at h;split at h<;>simp_all
theorem Ao {w:World} {b o:Nat} {cs:List Value} (h:∀ (j:Nat) (u:Value),cs[j]?=some u→w.cell? ⟨b,o+j,none⟩=some u) (k:Nat) {m j:Nat} {u:Value} (hu:((cs.drop k).take m)[j]?=some u):w.cell? ⟨b,o+k+j,none⟩=some u:=by
  rw [List.getElem?_take] at hu;split at hu
  · rw [List.getElem?_drop] at hu;rw [Nat.add_assoc];exact h _ u hu
  · cases hu
theorem gZ {α:Type} {l y:List α} {k:Nat} {x:α} (h:l.set k x=y):l.length=y.length:=by rw [← h,List.length_set]
section
variable {P:Program} {w0 w:World} {F0:List Nat} {L:List Item} {α:Type} [hD α]
theorem St.rB {a:Option Addr} {c:Nat} {l:List α} (h:St w0 F0 w L) (hr:iM (jo w0 F0) w0 a c l):iM (jo w []) w a c l :=
  (h.MW hr).mono fun b hb=>⟨Nat.lt_of_lt_of_le hb.1 h.size,by simp⟩
theorem St.rI {a:Option Addr} {c:Nat} {l:List α} (h:St w0 F0 w L) (i:Nat) (hi:L[i]?=some (sl a c l)):iM (jo w []) w a c l:=by
  obtain ⟨F,hF,_,hb⟩:=h.own;obtain ⟨Fi,q,q2⟩:=hF.at_ i hi;exact mc.rd q fun b hbm=>⟨(hb b (q2 b hbm)).2,by simp⟩
theorem St.nil (h:St w0 F0 w L):St w0 F0 w (sl none 0 ([]:List α)::L):=by
  obtain ⟨F,hF,hn,hb⟩:=h.own;exact ⟨h.os,h.tape,h.output,h.size,h.same,F,⟨[],F,rfl,.inl ⟨rfl,rfl,rfl,rfl⟩,hF⟩,hn,hb⟩
def lR {β:Type} (L:List β):List Nat→Option (List β)
  | []=>some []
  | i::r=>match L[i]?,lR L r with
    | some x,some m=>some (x::m)
    | _,_=>none
def pU:List Nat→Bool
  | []=>true
  | i::r=>(r.all fun j=>!Nat.beq i j)&&pU r
theorem iP.parts:∀ {L:List Item} {w:World} {F:List Nat},iP L w F→F.Nodup→∃ G:Nat→List Nat,
    (∀ (i:Nat) (it:Item),L[i]?=some it→it.p w (G i)∧(G i).Nodup∧∀ b,b ∈ G i→b ∈ F)∧∀ (i j:Nat),i ≠ j→i<L.length→j<L.length→∀ b,b ∈ G i→b ∉ G j
  | [],w,F,_,_=>⟨fun _=>[],fun i it h=>by simp at h,fun i j _ h=>by simp at h⟩
  | x::L,w,F,⟨F1,F2,hF,h1,h2⟩,hn=>by
    subst hF;obtain ⟨n1,n2,nd⟩:=List.nodup_append.1 hn;obtain ⟨G,g1,g2⟩:=iP.parts h2 n2;have gin:∀ (i:Nat),i<L.length→∀ b,b ∈ G i→b ∈ F2:=fun i hi b hb=>(g1 i _ (List.getElem?_eq_getElem hi)).2.2 b hb;refine ⟨fun i=>match i with | 0=>F1 | i+1=>G i,fun i it hi=>?_,fun i j hij hi hj b hb=>?_⟩
    · cases i with
      | zero=>simp at hi;subst hi;exact ⟨h1,n1,fun b hb=>List.mem_append_left _ hb⟩
      | succ i =>
        obtain ⟨q1,q2,q3⟩:=g1 i it (by simpa using hi);exact ⟨q1,q2,fun b hb=>List.mem_append_right _ (q3 b hb)⟩
    · cases i with
      | zero =>
        cases j with
        | zero=>exact absurd rfl hij
        | succ j=>exact fun hb2=>nd b hb b (gin j (by simpa using hj) b hb2) rfl
      | succ i =>
        cases j with
        | zero=>exact fun hb2=>nd b hb2 b (gin i (by simpa using hi) b hb) rfl
        | succ j=>exact g2 i j (fun e=>hij (by rw [e])) (by simpa using hi) (by simpa using hj) b hb
theorem St.pick (is:List Nat) {M:List Item} (h:St w0 F0 w L) (hp:lR L is=some M) (hn:pU is=true):St w0 F0 w M:=by
  obtain ⟨F,hF,hnd,hb⟩:=h.own;obtain ⟨G,g1,g2⟩:=hF.parts hnd
  have key:∀ (is:List Nat) (M:List Item),lR L is=some M→pU is=true→∃ F',iP M w F'∧F'.Nodup∧(∀ b,b ∈ F'→b ∈ F)∧(∀ b,b ∈ F'→∃ i,i ∈ is∧i<L.length∧b ∈ G i):=by
    intro is
    induction is with
    | nil =>
      intro M hp _;cases hp;exact ⟨[],rfl,List.nodup_nil,by simp,by simp⟩
    | cons i r ih =>
      intro M hp hn;simp only [pU,Oq,List.all_eq_true] at hn;simp only [lR] at hp;split at hp
      · rename_i x m hx hm;cases hp;obtain ⟨F',q1,q2,q3,q4⟩:=ih m hm hn.2;obtain ⟨p1,p2,p3⟩:=g1 i x hx;have hlt:=ja hx;refine ⟨G i++F',⟨G i,F',rfl,p1,q1⟩,List.nodup_append.2 ⟨p2,q2,fun a ha b hb e=>?_⟩,fun b hb=>?_,fun b hb=>?_⟩
        · subst e;obtain ⟨j,hj,hjl,hja⟩:=q4 a hb
          have hne:i ≠ j:=by
            rintro rfl;have:=hn.1 i hj;simp at this
          exact g2 i j hne hlt hjl a ha hja
        · rcases List.mem_append.1 hb with h | h
          · exact p3 b h
          · exact q3 b h
        · rcases List.mem_append.1 hb with h | h
          · exact ⟨i,by simp,hlt,h⟩
          · obtain ⟨j,hj,hjl,hja⟩:=q4 b h;exact ⟨j,by simp [hj],hjl,hja⟩
      · cases hp
  obtain ⟨F',q1,q2,q3,_⟩:=key is M hp hn;exact ⟨h.os,h.tape,h.output,h.size,h.same,F',q1,q2,fun b hbm=>hb b (q3 b hbm)⟩
end
theorem CW.cut {P:Program} {n:Nat} {c:Code} {Q:kN} {e:Env} {w:World} (M:Env→World→Prop) (h1:CW P n c (yL M Q) e w) (h2:∀ e w,M e w→Q .normal e w):CW P n c Q e w :=
  h1.mono fun x e w hq=>by cases x<;>first | exact h2 _ _ hq | exact hq
def fz (w1:World) (F:List Nat):Item:=⟨fun w G=>G=F∧∀ b,b ∈ F→w.heap[b]?=w1.heap[b]?,fun w w' G h hb=>⟨h.1,fun b hm=>(hb b (h.1 ▸ hm)).trans (h.2 b hm)⟩⟩
section
variable {P:Program} {w0 w w1:World} {F0 F:List Nat} {L:List Item} {α:Type} [hD α]
theorem St.freeze {a:Option Addr} {c:Nat} {l:List α} (h:St w0 F0 w L) (i:Nat) (hi:L[i]?=some (sl a c l)):∃ F,mc w a c F l∧St w0 F0 w (L.set i (fz w F)):=by
  have h':St w0 F0 w ([sl a c l]++L.eraseIdx i):=h.front i hi;obtain ⟨F,hF,hn,hlt,_,_,hm⟩:=h'.share;obtain ⟨F1,F2,rfl,q1,q2⟩:=hF;cases (show F2=[] from q2);rw [List.append_nil] at hn hlt hm;exact ⟨F1,q1,(hm w [fz w F1] (St.init ⟨F1,[],by simp,⟨rfl,fun _ _=>rfl⟩,rfl⟩ hn hlt)).perm (eraseIdx_set L i _ (ja hi))⟩
theorem St.iz {a:Option Addr} {c:Nat} {l:List α} (h:St w0 F0 w L) (i:Nat) (hi:L[i]?=some (fz w1 F)) (ho:mc w1 a c F l):St w0 F0 w (L.set i (sl a c l)) :=
  h.setAt hi fun G hG hn hlt=>by
    obtain ⟨rfl,hb⟩:=hG;exact St.init ⟨G,[],by simp,ho.frame hb,rfl⟩ hn hlt
theorem St.zC (h:St w0 F0 w L) (i:Nat) (hi:L[i]?=some (fz w1 F)) {b:Nat} (hb:b ∈ F):w.heap[b]?=w1.heap[b]?:=by
  obtain ⟨G,hG,_,_⟩:=h.own;obtain ⟨Fi,q,_⟩:=hG.at_ i hi;exact q.2 b hb
theorem St.rZ {a:Option Addr} {c:Nat} {l:List α} (h:St w0 F0 w L) (i:Nat) (hi:L[i]?=some (fz w1 F)) (hr:iM (fun b=>b ∈ F) w1 a c l):iM (jo w []) w a c l:=by
  obtain ⟨G,hG,_,hb⟩:=h.own;obtain ⟨Fi,q,q2⟩:=hG.at_ i hi;obtain ⟨rfl,q3⟩:=q;exact (hr.mf fun b hm=>q3 b hm).mono fun b hm=>⟨(hb b (q2 b hm)).2,by simp⟩
theorem mc.jk {a:Option Addr} {c:Nat} {l:List α} (h:mc w1 a c F l):iM (fun b=>b ∈ F) w1 a c l:=h.rd fun b hb=>hb
end
theorem whole {α:Type} [hD α] {M:List Item} {vs:List Value} {z y:α} (h:∀ (w:World) (G:List Nat),iP M w G→hD.own w vs G y) :
    ∀ (w:World) (cs:List Value) (F G:List Nat),hD.own w cs F z→iP M w G→∃ F',hD.own w (cs.take 0++vs++cs.drop (0+vs.length)) F' y∧(∀ b,b ∈ F'→b ∈ F∨b ∈ G)∧(F.Nodup→G.Nodup→(∀ b,b ∈ F→b ∉ G)→F'.Nodup):=by
  intro w cs F G hF hG;have h1:=h w G hG
  have e:cs.take 0++vs++cs.drop (0+vs.length)=vs:=by
    rw [List.drop_eq_nil_of_le (by rw [hD.iU h1,hD.iU hF];omega)];simp
  exact ⟨G,by rw [e];exact h1,fun b hb=>.inr hb,fun _ hn _=>hn⟩
theorem je {α:Type} [hD α] {o:Nat} {vs:List Value} {z y:α} (h:∀ (w:World) (cs:List Value) (F:List Nat),hD.own w cs F z→hD.own w (cs.take o++vs++cs.drop (o+vs.length)) F y) :
    ∀ (w:World) (cs:List Value) (F G:List Nat),hD.own w cs F z→iP [] w G→∃ F',hD.own w (cs.take o++vs++cs.drop (o+vs.length)) F' y∧(∀ b,b ∈ F'→b ∈ F∨b ∈ G)∧(F.Nodup→G.Nodup→(∀ b,b ∈ F→b ∉ G)→F'.Nodup) :=
  fun w cs F G hF _=>⟨F,h w cs F hF,fun b hb=>.inl hb,fun hn _ _=>hn⟩
theorem Kept.n {ops:Array Oper} {i:Nat} {w w':World}:Kept ops i [] w w':=fun p hp=>by cases hp
theorem Kept.c {ops:Array Oper} {i j:Nat} {C:World→Prop} {E:o4} {w w':World} (h:C w') (k:Kept ops i E w w'):Kept ops i ((j,C)::E) w w':=fun p hp hw hc=>by
  rcases List.mem_cons.1 hp with rfl | hp
  · exact h
  · exact k p hp hw hc
theorem Kept.w {ops:Array Oper} {i j:Nat} {C:World→Prop} {E:o4} {w w':World} (h:waits ops i j=true) (k:Kept ops i E w w'):Kept ops i ((j,C)::E) w w':=fun p hp hw hc=>by
  rcases List.mem_cons.1 hp with rfl | hp
  · rw [h] at hw;cases hw
  · exact k p hp hw hc
section
variable {P:Program} {n:Nat} {t:TypeId} {xs ys:Array Value} {u v a b:Value} {r q:Bool}
def rL (P:Program) (n:Nat) (t:TypeId) (u v:Value) (r:Bool):Prop:=∀ (d:Nat) (w:World),(Op.equalIn (d+n+1) t u v).run P w=.ok r w
def sY (P:Program) (n:Nat) (xs ys:Array Value) (fs:List Field) (r:Bool):Prop:=∀ (d:Nat) (w:World),(Op.eqFields (d+n+1) xs ys fs).run P w=.ok r w
theorem rL.int {k k':IntKind} {x y:Int} (h:P.underlying t=some (.int k')):rL P n t (.int k x) (.int k y) (x==y):=fun _ w=>run_equalIn_int w _ t k k' x y h
theorem rL.bool {x y:Bool} (h:P.underlying t=some .bool):rL P n t (.bool x) (.bool y) (x==y):=fun _ w=>run_equalIn_bool' w _ t x y h
theorem rL.agg {fs:Array Field} (h:P.underlying t=some (.struct fs)) (hp:P.stoodInHeld t=false) (hf:sY P n xs ys fs.toList r):rL P (n+1) t (.agg xs) (.agg ys) r:=fun d w=>by
  have e:P.fieldsOf t=fs:=by simp [Program.fieldsOf,h]
  have:=run_equalIn_agg (P:=P) w (d+n+1) t xs ys (by rw [e];exact h) hp;rw [e,hf d w] at this;exact this
theorem sY.nil:sY P n xs ys [] true:=fun _ _=>rfl
theorem sY.one {f:Field} {fs:List Field} (hn:(f.name=="_")=false) (ha:jl P f.type=some none) (hx:v8 xs.toList f.offset=some a) (hy:v8 ys.toList f.offset=some b) (h:rL P n f.type a b r)
    (h2:sY P n xs ys fs q):sY P n xs ys (f::fs) (r&&q):=fun d w=>by
  have hx:xs[f.offset]?=some a:=by rw [yw] at hx;simpa using hx
  have hy:ys[f.offset]?=some b:=by rw [yw] at hy;simpa using hy
  have hn:f.name ≠ "_":=by simpa using hn
  have:=h d w;have:=h2 d w;cases r<;>simp_all [Op.eqFields,part,(pt (w:=w) ha).1]
theorem sY.more {f:Field} {fs:List Field} {m:Nat} (hn:(f.name=="_")=false) (ha:jl P f.type=some (some m))
    (h:rL P n f.type (.agg (xs.extract f.offset (f.offset+m))) (.agg (ys.extract f.offset (f.offset+m))) r) (h2:sY P n xs ys fs q):sY P n xs ys (f::fs) (r&&q):=fun d w=>by
  have hn:f.name ≠ "_":=by simpa using hn
  have:=h d w;have:=h2 d w;have h3:=pt (w:=w) ha;cases r<;>simp_all [Op.eqFields,part]
theorem rL.top {p:Prop} [Decidable p] (h:rL P n t u v r) (hn:n<10000) (hp:r=decide p) (w:World):(Op.equalIn 10000 t u v).run P w=.ok (decide p) w:=by
  have h:=h (10000 - n - 1) w;rw [show 10000 - n - 1+n+1=10000 from by omega,hp] at h;exact h
end
theorem CW.fresh {P:Program} {n:Nat} {c:Code} {Q:kN} {e:Env} {w:World} {l:List (Nat×Value)} (h:En e l) (k:∀ e',CW P n c Q (im e' l) w):CW P n c Q e w:=by
  obtain ⟨e',rfl⟩:=h.out;exact k e'
theorem LW.fresh {P:Program} {n:Nat} {oa:Array Oper} {ops:List Oper} {Q:kN} {e:Env} {w:World} {l:List (Nat×Value)} (h:En e l) (k:∀ e',LW P n oa Q ops (im e' l) w):LW P n oa Q ops e w:=by
  obtain ⟨e',rfl⟩:=h.out;exact k e'
theorem AW.fresh {P:Program} {n:Nat} {ops:Array Oper} {Q:kN} {f:Nat} {E:o4} {li:Array Bool} {e:Env} {w:World} {l:List (Nat×Value)} (h:En e l) (k:∀ e',AW P n ops Q f E li (im e' l) w):AW P n ops Q f E li e w:=by
  obtain ⟨e',rfl⟩:=h.out;exact k e'
end Go.Kx
