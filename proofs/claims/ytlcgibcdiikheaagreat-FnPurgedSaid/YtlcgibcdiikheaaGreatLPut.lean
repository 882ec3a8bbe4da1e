import Derived.Test.YtlcgibcdiikheaaGreatLSum
namespace Go.Kx
open Go
open Go.IntKind (i64)
set_option linter.unusedVariables false
set_option linter.unusedSimpArgs false
set_option maxRecDepth 10000
theorem pM {α:Type} {f:α→Nat} {c:Nat}:∀ {l:List α},(∀ y,y ∈ l→f y≤c)→mT f l≤c * l.length
  | [],_=>Nat.zero_le _
  | y::l,h=>by
    have h1:=h y (by simp);have h2:=pM (l:=l) fun z hz=>h z (by simp [hz]);simp only [mT,List.length_cons,Nat.mul_add];omega
theorem xU {α:Type} {f:α→Nat} {y:α}:∀ {l:List α} {k:Nat},mT f (l.set k y)≤mT f l+f y
  | [],k=>by simp [mT]
  | z::l,0=>by simp only [List.set_cons_zero,mT];omega
  | z::l,k+1=>by
    have:=xU (f:=f) (y:=y) (l:=l) (k:=k);simp only [List.set_cons_succ,mT];omega
theorem su {α:Type} {f:α→Nat} {y:α} {l:List α} {k:Nat}:iL f (l.set k y)≤iL f l+f y:=by
  have:=xU (f:=f) (y:=y) (l:=l) (k:=k);unfold iL;simp only [List.length_set];omega
theorem sF {o:cd} (h:kK o=true):gX o≤12:=by
  have hl:=(sj h).1;unfold kK at h;unfold gX;cases hk:o.HA==0
  · simp only [hk,HX,H3] at h;obtain ⟨_,_,_,_,_,hp,hl2,_⟩:=h;unfold qY at hl2;simp only [H3,decide_eq_true_eq,beq_iff_eq] at hl2;obtain ⟨_,_,_,_,hd,hq⟩:=hl2;rw [iG] at hp
    have:o.HI.length≤8:=by
      cases h2:o.HA==2
      · rw [h2] at hd;simp only [HX] at hd;omega
      · rw [h2] at hd;simp only [HY] at hd;omega
    have:o.HE.length≤2:=by
      cases h3:o.HA==3
      · rw [h3] at hq;simp only [HX] at hq;omega
      · rw [h3] at hq;simp only [HY] at hq;omega
    omega
  · simp only [hk,HY,H3,decide_eq_true_eq] at h;rw [h.2.2];simp [blank]
theorem Ar.sz {l:List cd} (h:Ar l):iL gX l≤130:=by
  have h1:=pM (f:=gX) (c:=12) fun y hy=>sF (h.ok y hy);have h2:=h.len;unfold iL;rw [h2] at h1 ⊢;omega
theorem jL {l:List cd} {k:Nat} {o:cd} (h:wA l) (ho:lN o):wA (l.set k o):=fun y hy=>by
  rcases List.mem_or_eq_of_mem_set hy with q | q
  · exact h y q
  · rw [q];exact ho
def kJ (o:cd) (g:Int):cd:=cd.mk g o.HA o.box o.HP o.iK o.gE o.HK o.iF o.iE o.HM o.g5 o.HI o.HE
def putAt (l:List cd) (o:cd) (k:Nat) (x:cd):List cd×Int:=if kg (l.set k (kJ o (i64.wrap (x.HR+1))))&&(o.HA != 0) then (l.set k (kJ o (i64.wrap (x.HR+1))),(k:Int)) else (l, -1)
def qq (l:List cd) (o:cd):Nat→List cd→List cd×Int
  | _,[]=>(l, -1)
  | k,x::m=>if x.HA != 0 || decide (x.HR ≥ 999) then qq l o (k+1) m else putAt l o k x
def jX (l:List cd) (o:cd):List cd×Int:=if kg l then qq l o 1 (l.drop 1) else (l, -1)
theorem C8 {ρ:Type} {body:Int→Option (Int⊕ρ)} (l:List cd) (p:cd→Bool) (g:Nat→cd→ρ) (r:ρ) {N:Nat} (hN:l.length+1<N) (hl:1≤l.length)
    (hs:∀ (k:Nat) (x:cd),l[k]?=some x→1≤k→k<l.length→body (k:Int)=some (if p x then .inl ((k+1:Nat):Int) else .inr (g k x))) (he:body (l.length:Int)=some (.inr r)) :
    iter body N 1=some (ly (fun k (_:Unit) x=>if p x then .inl () else .inr (g (k+1) x)) (fun _=>r) 0 () (l.drop 1)):=by
  have hd:(l.drop 1).length+1=l.length:=by simp;omega
  rw [show (1:Int)=(fun (k:Nat) (_:Unit)=>((k+1:Nat):Int)) 0 () from rfl,
    mP (l.drop 1) (fun (k:Nat) (_:Unit)=>((k+1:Nat):Int)) (fun k _ x=>if p x then .inl () else .inr (g (k+1) x)) (fun _=>r) (fun _ _=>True) ?_ ?_ (by omega) trivial]
  · intro k _ x hx hk _
    have hx:l[k+1]?=some x:=by rw [← hx,List.getElem?_drop,Nat.add_comm]
    refine ⟨?_,fun _ _=>trivial⟩
    show body ((k+1:Nat):Int)=_
    rw [hs (k+1) x hx (by omega) (by omega)];cases p x<;>rfl
  · intro _ _;simp only [hd];exact he
theorem zQ {ρ:Type} (l:List cd) (o:cd) (r:ρ) (c:ρ→Option (List cd×Int)) (g:Nat→cd→ρ) (hr:c r=some (l, -1)) (hg:∀ k x,c (g k x)=some (putAt l o k x)):∀ (m:List cd) (k:Nat),
    c (ly (fun k (_:Unit) x=>if x.HA != 0 || decide (x.HR ≥ 999) then .inl () else .inr (g (k+1) x)) (fun _=>r) k () m)=some (qq l o (k+1) m)
  | [],k=>hr
  | x::m,k=>by
    unfold ly qq;cases h:(x.HA != 0 || decide (x.HR ≥ 999))
    · simp only [Bool.false_eq_true,if_false];exact hg _ _
    · simp only [if_true];exact zQ l o r c g hr hg m (k+1)
theorem BY (o:cd) (g:Int):gX (kJ o g)=gX o:=rfl
theorem sO {o:cd} {g:Int} (h:lN o):lN (kJ o g):=h
theorem Fu {l:List cd} (h:Ar l) {o:cd} (ho:gX o≤100000) (k:Nat):iL gX (l.set k o)<gS:=by
  have h1:=h.sz;have h2:=su (f:=gX) (y:=o) (l:=l) (k:=k);have:(16777216:Nat)=gS:=rfl;omega
theorem vE {N:Nat} (hN:gS≤N) {l:List cd} (hb:iL gX l<gS) (hw:wA l) {o:cd} (ho:gX o≤100000) (hwo:lN o):mH N l o=some (jX l o):=by
  have hB:(16777216:Nat)=gS:=rfl
  have hoB:gX o<gS:=by omega
  unfold mH jX;simp only [uY hN hb,nQ hN hb hw,HW];cases ha:kg l
  · rfl
  have h:=km.1 ha;have hl:=h.len;simp only [HZ,HX,if_true];rw [C8 l (fun x=>x.HA != 0 || decide (x.HR ≥ 999)) (fun k x=>Sum.inr (putAt l o k x)) (Sum.inl (l.length:Int)) (by omega) (by omega)]
  · simp only [HW];exact zQ l o (Sum.inl (l.length:Int)) (fun o84=>Sum.elim (fun o84=>some (l, -1)) (fun r87=>some r87) o84) (fun k x=>Sum.inr (putAt l o k x)) rfl (fun k x=>rfl) _ 0
  · intro k x hx hk1 hkl;simp only [iX hkl,HY,iz,hx,HW,lB,i5 (show k<gS by omega),zN hoB,Int.toNat_natCast];rw [show cd.mk (i64.wrap (x.HR+1)) o.HA o.box o.HP o.iK o.gE o.HK o.iF o.iE o.HM o.g5 o.HI o.HE=kJ o (i64.wrap (x.HR+1)) from rfl,nQ hN (Fu h (by rw [BY];exact ho) k) (jL hw (sO hwo))];simp only [HW,lB];unfold putAt
    have hk:(o.HA==0)=!(o.HA != 0):=by simp [bne]
    rw [hk];cases (x.HA != 0 || decide (x.HR ≥ 999))
    · cases kg (l.set k (kJ o (i64.wrap (x.HR+1))))<;>cases (o.HA != 0)<;>rfl
    · rfl
  · simp only [iW,HX]
def marked (o:cd) (m:Bool):cd:=cd.mk o.HR o.HA o.box o.HP o.iK o.gE o.HK o.iF o.iE m o.g5 o.HI o.HE
def m8 (h:g7) (i:Int):g7:=if ki h&&(ia i 0 9&&((nth h.ag i).HA != 0)) then g7.mk (h.ag.set i.toNat (marked (nth h.ag i) ((h.gc.HD==0) || decide (i ≥ h.gc.HL)))) h.gc else h
theorem yQ {N:Nat} (hN:gS≤N) {h:g7} (h1:iL gX h.ag<gS) (h2:h.gc.gQ.length<gS) (hw:wA h.ag) (i:Int):ot N h i=some (m8 h i):=by
  unfold ot m8;simp only [rX hN h1 h2,sI hN h1 h2 hw,ny,HW,bne];cases q:ki h
  · rfl
  cases hi:ia i 0 9
  · rfl
  have hr:=iG.1 hi;simp only [HZ,HX,((oh q).at hr.1 hr.2).1,HW,H0];cases (nth h.ag i).HA==0
  · cases h.gc.HD==0<;>rfl
  · rfl
end Go.Kx
namespace Go.Kx
open Go
open Go.IntKind (i64)
set_option linter.unusedVariables false
set_option linter.unusedSimpArgs false
set_option maxRecDepth 10000
def nW:List cd:=(List.replicate 10 (blank 0)).set 0 (cd.mk 0 1 (-1) 0 1000000 0 0 0 0 false [-1, -1] [] [])
def sx:cd:=cd.mk 0 4 0 0 1000000 0 0 0 0 false [-1, -1] [] []
def vX:List cd:=nW.set 1 (kJ sx 1)
def Bz:List cd:=nW.set 1 (marked (kJ sx 1) true)
theorem AX (N:Nat):pU N=some nW:=rfl
theorem xW:jX nW sx=(vX,1):=by decide
theorem Bk:wA nW:=by
  intro o ho
  have:∀ o ∈ nW, -9223372036854775808≤o.HK:=by decide
  exact this o ho
theorem CL:wA vX:=by
  intro o ho
  have:∀ o ∈ vX, -9223372036854775808≤o.HK:=by decide
  exact this o ho
def qi:g7:=g7.mk Bz (jK.mk 0 0 0 [0])
theorem AO:m8 (g7.mk vX (jK.mk 0 0 0 [0])) 1=qi:=by decide
def sw (a:ig):List gW:=(List.replicate 5 sN).set 0 (gW.mk true (-1) a)
theorem Ce (N:Nat) (a:ig):o9 N a=some (if iT a then (sw a,true) else ([],false)):=by
  unfold o9;rw [nq,HW];cases iT a<;>rfl
def Gf:bh:=bh.mk (iO.mk []) [] [] (g7.mk [] (jK.mk 0 0 0 [])) [] 0 0 (ig.mk 0 0 0) 0 0
def uj (b:iu):bh:=bh.mk b.HB b.own (sw b.i7) qi [] 0 0 (ig.mk 0 0 0) 0 0
def sZ (b:iu):Bool:=iT b.i7&&(iU b.HB&&kp b.own)
def pF (b:iu):bh×Bool:=if sZ b then (uj b,true) else (Gf,false)
theorem CB:lN sx:=by show (-9223372036854775808:Int)≤0;decide
theorem vP (b:iu):ib (uj b)=iR b+20:=by
  show jJ b.HB+(b.own.length+((sw b.i7).length+((iL gX qi.ag+((qi.gc.gQ.length+0)+0))+(([]:List iS).length+0))))=jJ b.HB+(b.own.length+0)+20
  have h1:iL gX qi.ag=14:=by decide
  have h2:qi.gc.gQ.length=1:=by decide
  have h3:(sw b.i7).length=5:=rfl;have h4:([]:List iS).length=0:=rfl;simp only [h1,h2,h3,h4];omega
theorem Cw {N:Nat} (hN:gS≤N) {b:iu} (hb:iR b≤1048576):oK N b=some (pF b):=by
  have h1:b.HB.Hz.length<gS∧b.own.length<gS:=by have:(16777216:Nat)=gS:=rfl;unfold iR jJ at hb;omega
  unfold oK pF sZ;simp only [Ce,qD hN h1.1,uf hN h1.2,HW,lB];cases iT b.i7
  · cases iU b.HB<;>cases kp b.own<;>rfl
  cases iU b.HB
  · rfl
  cases kp b.own
  · rfl
  simp only [if_true,HZ,Bool.or_self,HX,Bool.and_self,AX,HW];rw [show cd.mk 0 4 0 0 1000000 0 0 0 0 false ([-1, -1]:List Int) [] []=sx from rfl,vE hN (by decide) Bk (by decide) CB,xW];simp only [HW];rw [show rP N=some (jK.mk 0 0 0 [0]) from rfl];simp only [HW];rw [yQ hN (by decide) (by decide) CL,AO];simp only [HW];rw [show bh.mk b.HB b.own (sw b.i7) qi [] 0 0 (ig.mk 0 0 0) 0 0=uj b from rfl,nS hN (by rw [vP];have:(16777216:Nat)=gS:=rfl;omega)];rfl
end Go.Kx
namespace Go.Kx
open Go
open Go.IntKind (i64)
set_option linter.unusedVariables false
set_option linter.unusedSimpArgs false
set_option maxRecDepth 10000
def pj (b:List iu):List bh:=b.map fun x=>(pF x).1
def nT (b:List iu):g6:=if lC b then ⟨0,pj b⟩ else ⟨0,[]⟩
theorem D3 {N:Nat} (hN:gS≤N) {b:List iu} (hl:b.length<gS) {F:iu→Option (bh×Bool)} (hF:∀ y,y ∈ b→F y=some (pF y)) :
    iter (fun (s10:Int×(List bh))=>(bif (decide (s10.1<(b.length:Int))) then ((idx b s10.1).bind fun y13=>(F y13).bind fun y28=>(app s10.2 [y28.1]).bind fun y45=>some (.inl (i64.wrap (s10.1+1),y45))) else (some (.inr (s10.1,s10.2))):Option ((Int×(List bh))⊕(Int×(List bh))))) N (0,[])=some ((b.length:Int),pj b):=by
  have e:∀ (l:List iu) (k:Nat) (acc:List bh),foldI (fun _ (acc:List bh) y=>acc++[(pF y).1]) k acc l=acc++pj l:=by
    intro l
    induction l with
    | nil=>intro k acc;simp [foldI,pj]
    | cons y l ih=>intro k acc;unfold foldI;rw [ih];simp [pj]
  rw [show ((0:Int),([]:List bh))=(fun (k:Nat) (t:List bh)=>((k:Int),t)) 0 [] from rfl,
    jQ b (fun (k:Nat) (t:List bh)=>((k:Int),t)) (fun _ acc y=>acc++[(pF y).1]) (fun t=>((b.length:Int),t)) (fun k t=>t.length≤k) ?_ ?_ (Nat.lt_of_lt_of_le hl hN) (by simp),e]
  · simp
  · intro k t y hy hk ht;refine ⟨?_,by simp;omega⟩;simp only [iX hk,HY,iz,hy,HW,hF y (List.mem_of_getElem? hy),i5 (Nat.lt_trans hk hl),kr ht (Nat.lt_of_le_of_lt hk hl)]
  · intro t _;simp only [iW,HX]
theorem AY {N:Nat} (hN:gS≤N) {b:List iu} (hb:iL iR b≤1048576):od N b=some (nT b):=by
  have hb':iL iR b<gS:=small hb;unfold od nT;rw [yt hN hb',HW];cases lC b
  · rfl
  · simp only [HZ,HX,if_true];rw [D3 hN (lr hb') fun y hy=>Cw hN (Nat.le_of_lt_succ (jG (Nat.lt_succ_of_le hb) hy))];rfl
end Go.Kx
namespace Go.Kx
open Go
open Go.IntKind (i64)
set_option linter.unusedVariables false
set_option linter.unusedSimpArgs false
set_option maxRecDepth 10000
def better (p:bh) (v i:Int):Int:=if decide ((rL p i).hY≤(rL p v).hY) then i else v
def pR (p:bh) (now:Int):Int:=match threads p now with
  | a::b::l=>(b::l).foldl (better p) a
  | _=>-1
theorem vG {p:bh} {m:List Int}:∀ (l:List Int) (v:Int),v ∈ m→(∀ y,y ∈ l→y ∈ m)→l.foldl (better p) v ∈ m
  | [],v,hv,_=>hv
  | y::l,v,hv,h=>by
    rw [List.foldl_cons];refine vG l _ ?_ fun z hz=>h z (by simp [hz]);unfold better;split
    · exact h y (by simp)
    · exact hv
theorem vY {p:bh} {now:Int} (h:decide (pR p now ≥ 0)=true):pR p now ∈ threads p now:=by
  unfold pR at h ⊢
  cases ht:threads p now with
  | nil=>rw [ht] at h;simp at h
  | cons a l=>cases l with
    | nil=>rw [ht] at h;simp at h
    | cons b l=>exact vG (b::l) a (by simp) fun y hy=>by simp at hy ⊢;exact .inr hy
theorem vJ {p:bh} {now y:Int} (h:y ∈ threads p now):jr p=true∧0≤y∧y≤9:=ni h
theorem C2 {N:Nat} (hN:gS≤N) {p:bh} (hb:ib p<gS) (hw:wP p) (now:Int):qb N p now=some (pR p now):=by
  have hl:=so p now;have hB:(16777216:Nat)=gS:=rfl;unfold qb pR;rw [r7 hN hb hw,HW]
  cases ht:threads p now with
  | nil=>rfl
  | cons a l=>cases l with
    | nil=>rfl
    | cons b l =>
      have hm:∀ y,y ∈ a::b::l→jr p=true∧0≤y∧y≤9:=fun y hy=>vJ (by rw [ht];exact hy);rw [ht] at hl;rw [show decide ((((a::b::l).length:Nat):Int)<2)=false by simp;omega];simp only [HX];obtain ⟨hpa,a0,a9⟩:=hm a (by simp)
      have step:∀ (k:Nat) (v y:Int),(a::b::l)[k]?=some y→k<(a::b::l).length→(v=-1∨0≤v∧v≤9) →
          (bif (decide ((k:Int)<(((a::b::l).length:Nat):Int))) then ((bif (decide (v<0)) then (some true) else ((idx (a::b::l) (k:Int)).bind fun y14=>(idx p.py.ag y14).bind fun y27=>(idx p.py.ag v).bind fun y45=>(kR N p y27.HP).bind fun y63=>(idx p.HC y63).bind fun y65=>(kR N p y45.HP).bind fun y74=>(idx p.HC y74).bind fun y76=>some (decide (y65.iB.hY≤y76.iB.hY))):Option Bool).bind fun j11=>bif j11 then ((idx (a::b::l) (k:Int)).bind fun y87=>some (.inl (y87,i64.wrap ((k:Int)+1)))) else (some (.inl (v,i64.wrap ((k:Int)+1))))) else (some (.inr (v,(k:Int)))):Option ((Int×Int)⊕(Int×Int))) =
          some (.inl (if decide (v<0) then y else better p v y,((k+1:Nat):Int))):=by
        intro k v y hy hk hv;obtain ⟨hp,y0,y9⟩:=hm y (List.mem_of_getElem? hy);simp only [iX hk,HY,iz,hy,HW,i5 (Nat.lt_trans hk hl)];cases hd:decide (v<0)
        · have hv:0≤v∧v≤9:=by simp at hd;omega
          obtain ⟨r0,r4⟩:=r8 p (nth p.py.ag y).HP;obtain ⟨q0,q4⟩:=r8 p (nth p.py.ag v).HP;simp only [HX,((jU hp).at y0 y9).1,((jU hp).at hv.1 hv.2).1,sr hN,uo hp r0 r4,uo hp q0 q4,HW,Bool.false_eq_true,if_false];unfold better;rw [show (nth p.HC (nv p (nth p.py.ag y).HP)).iB.hY=(rL p y).hY from rfl,show (nth p.HC (nv p (nth p.py.ag v).HP)).iB.hY=(rL p v).hY from rfl];cases decide ((rL p y).hY≤(rL p v).hY)<;>rfl
        · rfl
      rw [show ((-1:Int),(0:Int))=(fun (k:Nat) (v:Int)=>(v,(k:Int))) 0 (-1) from rfl,
        jQ (a::b::l) (fun (k:Nat) (v:Int)=>(v,(k:Int))) (fun _ v y=>if decide (v<0) then y else better p v y) (fun v=>(v,(((a::b::l).length:Nat):Int))) (fun _ v=>v=-1∨0≤v∧v≤9) ?_ ?_ (by omega) (.inl rfl),lK]
      · simp only [HW];congr 1
        have key:∀ (m:List Int) (v:Int),0≤v→(∀ y,y ∈ m→0≤y)→m.foldl (fun v y=>if decide (v<0) then y else better p v y) v=m.foldl (better p) v:=by
          intro m
          induction m with
          | nil=>intro v _ _;rfl
          | cons y m ih =>
            intro v hv hy
            have hd:decide (v<0)=false:=by simp;omega
            simp only [List.foldl_cons,hd,Bool.false_eq_true,if_false];refine ih _ ?_ fun z hz=>hy z (by simp [hz]);unfold better;split
            · exact hy y (by simp)
            · exact hv
        rw [List.foldl_cons];exact key (b::l) a a0 fun y hy=>(hm y (by simp at hy ⊢;exact .inr hy)).2.1
      · intro k v y hy hk hI;refine ⟨step k v y hy hk hI,.inr ?_⟩;obtain ⟨hp,y0,y9⟩:=hm y (List.mem_of_getElem? hy);split
        · exact ⟨y0,y9⟩
        · rename_i hd;unfold better;split
          · exact ⟨y0,y9⟩
          · simp at hd;omega
      · intro v _;simp only [iW,HX]
def mW (p:bh) (l:List cd):bh:=bh.mk p.HB p.own p.HC (g7.mk l p.py.gc) p.gR p.HH p.HJ p.gP p.g8 p.HG
def Ck (o:cd) (t:Int):cd:=cd.mk o.HR o.HA o.box o.HP t o.gE o.HK o.iF o.iE o.HM o.g5 o.HI o.HE
def rC (p:bh) (now:Int):List cd:=if decide (pR p now ≥ 0) then p.py.ag.set (pR p now).toNat (Ck (nth p.py.ag (pR p now)) (i64.wrap (now - 1))) else p.py.ag
def kt (p:bh) (now:Int):bh:=if jr p&&(ia now 1 1000000&&!decide (p.g8<3)) then bh.mk p.HB p.own p.HC (g7.mk (rC p now) p.py.gc) p.gR p.HH p.HJ p.gP 0 p.HG else p
theorem AB {N:Nat} (hN:gS≤N) {p:bh} (hb:ib p<gS) (hw:wP p) (now:Int):nD N p now=some (kt p now):=by
  unfold nD kt rC;simp only [nS hN hb,ph hN hb hw,ke,C2 hN hb hw,HW,lB];cases hp:jr p
  · rfl
  cases ia now 1 1000000
  · rfl
  cases decide (p.g8<3)
  · cases hv:decide (pR p now ≥ 0)
    · rfl
    · obtain ⟨_,v0,v9⟩:=ni (vY hv);simp only [HZ,Bool.or_self,HX,HY,((jU hp).at v0 v9).1,HW,if_true];rfl
  · rfl
def xJ (l:List cd) (now part h:Int):Bool:=(kg l&&(nU h&&(nt h==part)))&&(((nth l (nu h)).HA != 0)&&(((nth l (nu h)).HR==AJ h)&&nth (reach l now) (nu h)))
def hO (l:List cd) (now part h:Int):Int:=bif xJ l now part h then nu h else -1
theorem yV {h:Int} (q:nU h=true):0≤nu h∧nu h≤9:=(Cj (h:=h) (by unfold nt;rw [q,if_pos rfl];rw [wM] at q;omega)).2
theorem qW {N:Nat} (hN:gS≤N) {l:List cd} (hb:iL gX l<gS) (hw:wA l) (now part h:Int):lh N l now part h=some (hO l now part h):=by
  unfold lh hO xJ;simp only [nQ hN hb hw,Ap hN hb hw,oz,rF,ye,zw,HW,lB];cases ha:kg l
  · rfl
  have har:=km.1 ha;have hl:=pG har now;rw [show ia h 0 29999=nU h from rfl];cases hh:nU h
  · rfl
  obtain ⟨s0,s9⟩:=yV hh;simp only [bne,(har.at s0 s9).1,je (l:=reach l now) s0 (by omega),HW];cases nt h==part<;>cases (nth l (nu h)).HA==0<;>cases (nth l (nu h)).HR==AJ h<;>cases nth (reach l now) (nu h)<;>rfl
def xN (p:bh) (me now:Int) (o:cd):Bool:=decide (o.HK > 0)&&decide (hO p.py.ag now me (i64.wrap (o.HK - 1))<0)
def DE (o:cd):cd:=cd.mk o.HR o.HA o.box o.HP o.iK o.gE 0 (-1) o.iE o.HM o.g5 o.HI o.HE
def xL (p:bh) (me now:Int):List cd:=p.py.ag.map fun o=>if xN p me now o then DE o else o
def lv (p:bh) (me now:Int):bh:=if jr p&&ia me 0 2 then mW p (xL p me now) else p
theorem vc {α:Type} {body:List α×Int→Option ((List α×Int)⊕(List α×Int))} (x:List α) (f:α→α) {N:Nat} (hN:x.length<N)
    (hs:∀ (k:Nat) (t:List α) (y:α),t.length=x.length→t[k]?=some y→x[k]?=some y→k<x.length→body (t,(k:Int))=some (.inl (t.set k (f y),((k+1:Nat):Int))))
    (he:∀ t,t.length=x.length→body (t,(x.length:Int))=some (.inr (t,(x.length:Int)))):iter body N (x,0)=some (x.map f,(x.length:Int)):=by
  have key:∀ (r:List α) (d d':List α) (M:Nat),d'.length=d.length→x=d'++r→r.length<M→iter body M (d++r,(d.length:Int))=some (d++r.map f,(x.length:Int)):=by
    intro r
    induction r with
    | nil =>
      intro d d' M hd hx hM
      cases M with
      | zero=>simp at hM
      | succ M =>
        have e:d.length=x.length:=by rw [hx];simp [hd]
        unfold iter;rw [List.append_nil,e,he d e];simp
    | cons y r ih =>
      intro d d' M hd hx hM
      cases M with
      | zero=>simp at hM
      | succ M =>
        have hlen:(d++y::r).length=x.length:=by rw [hx];simp [hd]
        unfold iter;rw [hs d.length (d++y::r) y hlen (by rw [List.getElem?_append_right (Nat.le_refl _)];simp) (by rw [hx,List.getElem?_append_right (by omega)];simp [hd]) (by rw [← hlen];simp)]
        have e:(d++y::r).set d.length (f y)=(d++[f y])++r:=by rw [List.set_append_right _ _ (Nat.le_refl _)];simp
        have e2:d.length+1=(d++[f y]).length:=by simp
        simp only [HW,e];rw [e2,ih (d++[f y]) (d'++[y]) M (by simp [hd]) (by rw [hx];simp) (by simp at hM;omega)];simp
  exact key x [] [] N rfl rfl hN
theorem pK {α:Type} {l:List α} {k:Nat} {y:α} (h:l[k]?=some y):l.set k y=l:=by
  apply List.ext_getElem? fun i=>?_;rw [List.getElem?_set];split
  · rename_i e;subst e;rw [if_pos (iQ h),h]
  · rfl
theorem A2 {N:Nat} (hN:gS≤N) {p:bh} (hb:ib p<gS) (hw:wP p) (me now:Int):oe N p me now=some (lv p me now):=by
  have h4:=(kc hb).2.2.2.1;have hl:=lr h4;unfold oe lv xL mW;simp only [nS hN hb,ph hN hb hw,ke,HW,lB];cases hp:jr p
  · rfl
  cases ia me 0 2
  · rfl
  simp only [HZ,Bool.or_self,HX,Bool.and_self,if_true];rw [vc p.py.ag (fun o=>if xN p me now o then DE o else o) (Nat.lt_of_lt_of_le hl hN)]
  · rfl
  · intro k t y ht hty hy hk;simp only [ht,iX hk,HY,iz,hy,hty,HW,qW hN h4 hw,ns,i5 (Nat.lt_trans hk hl),Int.toNat_natCast,List.getElem?_set_self (show k<t.length by omega),List.set_set];rw [show (decide (y.HK > 0)&&decide (hO p.py.ag now me (i64.wrap (y.HK - 1))<0))=xN p me now y from rfl];cases xN p me now y
    · simp [pK hty]
    · rfl
  · intro t ht;simp only [ht,iW,HX]
theorem yC {f:cd→Nat} {g:cd→cd} (h:∀ o,f (g o)=f o):∀ l:List cd,mT f (l.map g)=mT f l
  | []=>rfl
  | o::l=>by simp only [List.map_cons,mT,h,yC h l]
theorem Ag {f:cd→Nat} {g:cd→cd} (h:∀ o,f (g o)=f o) (l:List cd):iL f (l.map g)=iL f l:=by
  unfold iL;rw [yC h,List.length_map]
theorem zP (p:bh) (me now:Int):ib (lv p me now)=ib p:=by
  unfold lv;split
  · unfold ib mW ks xL;simp only;rw [Ag fun o=>by split<;>rfl]
  · rfl
theorem Aa (p:bh) (now:Int):ib (kt p now)≤ib p+100:=by
  unfold kt;split
  · rename_i h;simp only [H3] at h
    have hsz:iL gX (rC p now)≤iL gX p.py.ag+12:=by
      unfold rC;split
      · rename_i hv;obtain ⟨_,v0,v9⟩:=ni (vY hv);have:=sF ((jU h.1).ok _ ((jU h.1).at v0 v9).2);exact Nat.le_trans su (Nat.add_le_add_left this _)
      · omega
    unfold ib ks;simp only;omega
  · omega
end Go.Kx
