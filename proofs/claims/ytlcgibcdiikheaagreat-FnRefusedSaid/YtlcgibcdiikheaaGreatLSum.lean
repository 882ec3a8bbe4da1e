import Derived.Test.YtlcgibcdiikheaaGreatLReach
namespace Go.Kx
open Go
open Go.IntKind (i64)
set_option linter.unusedVariables false
set_option linter.unusedSimpArgs false
set_option maxRecDepth 10000
def NA (a:ic):Prop:=i64.wrap a.bh=a.bh∧i64.wrap a.ib=a.ib∧i64.wrap a.ij=a.ij
theorem wrap_wrap (n:Int):i64.wrap (i64.wrap n)=i64.wrap n:=by
  have:-9223372036854775808≤i64.wrap n∧i64.wrap n≤9223372036854775807:=by
    simp only [IntKind.wrap,IntKind.signed,IntKind.bits];simp;omega
  exact iE this.1 this.2
theorem NA.sum (a b:ic):NA (iV a b):=⟨wrap_wrap _,wrap_wrap _,wrap_wrap _⟩
theorem NA.zero:NA ⟨0,0,0⟩:=⟨by decide,by decide,by decide⟩
theorem Kq {a:ic} (h:NA a):iV a ⟨0,0,0⟩=a:=by
  obtain ⟨h1,h2,h3⟩:=h;unfold iV;simp only [Int.add_zero,h1,h2,h3]
def ka (t:List im):ic:=if kj t then ju ⟨0,0,0⟩ t else ⟨0,0,0⟩
theorem Jf {N:Nat} (hN:ir≤N) {t:List im} (hB:t.length<ir):sX N t=some (ka t):=by
  unfold sX ka;rw [xS hN,PT,By hN hB];cases kj t<;>rfl
theorem Ew:∀ (t:List im) (s:ic),NA s→(∀ r,r ∈ t→r.PN=false→r.iI=⟨0,0,0⟩)→t.foldl (fun s r=>iV s r.iI) s=ju s t
  | [],s,_,_=>rfl
  | r::t,s,hs,h=>by
    unfold ju;simp only [List.foldl_cons];cases hl:r.PN
    · rw [h r (by simp) hl,Kq hs];exact Ew t s hs fun x hx=>h x (by simp [hx])
    · exact Ew t _ (NA.sum _ _) fun x hx=>h x (by simp [hx])
structure Tr (t:List im):Prop where
  len:t.length=5
  rl:(nth t 0).PN=true
  Bm:(nth t 0).PM=-1
  dead:∀ r,r ∈ t→r.PN=false→r=oo
  iI:∀ r,r ∈ t→iU r.iI=true
  lead:∀ (k:Nat) (r:im),t[k]?=some r→r.PN=true→leads t 5 (k:Int)=true
  sum:iU (ju ⟨0,0,0⟩ t)=true
theorem El:iU oo.iI=true:=by decide
theorem jG {t:List im}:kj t=true ↔ Tr t:=by
  unfold kj;simp only [PY,Bool.not_eq_true',bne_eq_false_iff_eq,nN,Nat.zero_add];constructor
  · rintro ⟨h1,h2,h3,h4,h5⟩;have hm:∀ r,r ∈ t→∃ k:Nat,t[k]?=some r:=fun o ho=>List.getElem?_of_mem ho;refine ⟨by omega,h2,h3,fun r hr hl=>?_,fun r hr=>?_,fun k r hk hl=>?_,h5⟩
    · obtain ⟨k,hk⟩:=hm r hr;have:=h4 k r hk;unfold qc at this;simpa [hl] using this
    · obtain ⟨k,hk⟩:=hm r hr;have:=h4 k r hk;unfold qc at this;split at this
      · simp only [PY] at this;exact this.1
      · simp only [decide_eq_true_eq] at this;rw [this];exact El
    · have:=h4 k r hk;unfold qc at this;rw [if_pos hl] at this;simp only [PY] at this;exact this.2
  · intro h;refine ⟨by have:=h.len;omega,h.rl,h.Bm,fun k r hr=>?_,h.sum⟩;unfold qc;have hm:=List.mem_of_getElem? hr;cases hl:r.PN
    · simp [h.dead r hm hl]
    · simp [h.iI r hm,h.lead k r hr hl]
theorem B6 {N:Nat} (hN:ir≤N) {t:List im} (hB:t.length<ir):qY N t=some (ka t):=by
  unfold qY ka;rw [vb hN,PT];cases h:kj t
  · rfl
  have ht:=jG.1 h;simp only [PW,PU,if_true]
  rw [show ((0:Int),(0:Int),(0:Int),(0:Int))=(fun (k:Nat) (s:ic)=>((k:Int),s.bh,s.ib,s.ij)) 0 ⟨0,0,0⟩ from rfl,
    mf t (fun (k:Nat) (s:ic)=>((k:Int),s.bh,s.ib,s.ij)) (fun _ s r=>iV s r.iI) (fun s=>((t.length:Int),s.bh,s.ib,s.ij)) (fun _ _=>True) ?_ ?_ (Nat.lt_of_lt_of_le hB hN) trivial,nv,Ew t _ NA.zero fun r hr hl=>by rw [ht.dead r hr hl];rfl]
  · rfl
  · intro k s r hy hk _;simp only [jy hk,PV,iY,hy,PT,uU,jB (Nat.lt_trans hk hB)];exact ⟨trivial,trivial⟩
  · intro s _;simp only [jz,PU]
def held (p:cd):Int:=((p.py.ag.take 10).filter ja).foldl (fun n o=>i64.wrap (n+o.bh)) 0
theorem foldl_filter {α β:Type} (p:α→Bool) (g:β→α→β):∀ (l:List α) (b:β),(l.filter p).foldl g b=l.foldl (fun b y=>if p y then g b y else b) b
  | [],_=>rfl
  | y::l,b=>by
    rw [List.filter_cons,List.foldl_cons];cases h:p y
    · simp [foldl_filter p g l]
    · simp [foldl_filter p g l]
theorem foldl_map' {α β γ:Type} (f:α→γ) (g:β→γ→β):∀ (l:List α) (b:β),(l.map f).foldl g b=l.foldl (fun b y=>g b (f y)) b
  | [],_=>rfl
  | y::l,b=>by simp [foldl_map' f g l]
theorem Cc {α β:Type} (p:α→Bool) (h:α→β):∀ (l:List α) (k:Nat),kP (fun _ y=>p y) (fun _ y=>h y) k l=(l.filter p).map h
  | [],_=>rfl
  | y::l,k=>by
    unfold kP;rw [Cc p h l,List.filter_cons];split<;>simp
theorem Nk {N:Nat} (hN:ir≤N) {p:cd} (hb:iH p<ir) (hw:wP p):wi N p=some (held p):=by
  have h4:=(kS hb).2.2.2.1;have hl:=mG h4;have hN':16777216≤N:=hN;unfold wi held
  rw [foldl_filter,show ((0:Int),(0:Int))=(fun (k:Nat) (n:Int)=>(n,(k:Int))) 0 0 from rfl,
    mf (p.py.ag.take 10) (fun (k:Nat) (n:Int)=>(n,(k:Int))) (fun _ n o=>if ja o then i64.wrap (n+o.bh) else n) (fun n=>(n,(((p.py.ag.take 10).length:Nat):Int))) (fun _ _=>True) ?_ ?_ (by simp;omega) trivial,nv]
  · rfl
  · intro k n y hy hk _
    have hk2:k<10∧k<p.py.ag.length:=by simp at hk;omega
    rw [List.getElem?_take_of_lt hk2.1] at hy;have hm:=List.mem_of_getElem? hy
    have h3:decide ((k:Int)<10)=true:=by simp;omega
    refine ⟨?_,trivial⟩;simp only [jy hk2.2,h3,PV,iY,hy,PT,Gf hN (jY h4 hm) (hw y hm),jB (show k<ir from Nat.lt_trans hk2.1 (by decide))];cases ja y<;>rfl
  · intro n _;simp only [List.length_take]
    rcases Nat.lt_or_ge 10 p.py.ag.length with h | h
    · have e:min 10 p.py.ag.length=10:=by omega
      have h3:decide (((10:Nat):Int)<(p.py.ag.length:Int))=true:=by simp;omega
      simp only [e,h3,PV];rfl
    · have e:min 10 p.py.ag.length=p.py.ag.length:=by omega
      simp only [e,jz,PU,PT]
def view (o:gE):pY:=pY.mk o.PO o.Pz o.box o.res o.iK o.bh o.PK o.iP o.iM o.mark
theorem Ol (n:Nat):(if (10:Int)<(n:Int) then (10:Int) else (n:Int))=((min 10 n:Nat):Int):=by split<;>omega
theorem CV {N:Nat} (hN:ir≤N) {p:cd} (hb:iH p<ir):oW N p=some (((p.py.ag.take 10).filter ja).map view):=by
  have h4:=(kS hb).2.2.2.1;have h10:jr iz (p.py.ag.take 10)<ir:=Nat.lt_of_le_of_lt (K1 _ _ _) h4;have hl:=mG h10;unfold oW
  have e:p.py.ag.take (min 10 p.py.ag.length)=p.py.ag.take 10:=by
    rcases Nat.lt_or_ge 10 p.py.ag.length with h | h
    · rw [show min 10 p.py.ag.length=10 by omega]
    · rw [show min 10 p.py.ag.length=p.py.ag.length by omega,List.take_of_length_le h,List.take_length]
  rw [Ol,xG (by omega),e,PT,tT (p.py.ag.take 10) (fun _ o=>ja o) (fun _ o=>view o) hl hN,Cc]
  · rfl
  · intro k t y hy hk ht;have hz:=jY h10 (List.mem_of_getElem? hy);simp only [jy hk,PV,iY,hy,PT,Gj hN hz,jB (Nat.lt_trans hk hl),l5 ht (Nat.lt_of_le_of_lt hk hl)];cases ja y<;>rfl
  · intro t;simp only [jz,PU]
theorem NF {N:Nat} (hN:ir≤N) {p:cd} (hb:iH p<ir):wy N p=some (held p):=by
  unfold wy held;rw [CV hN hb,PT]
  have hl:(((p.py.ag.take 10).filter ja).map view).length<ir:=by
    have h1:=List.length_filter_le ja (p.py.ag.take 10);have h2:(16777216:Nat)=ir:=rfl;simp only [List.length_map];simp only [List.length_take] at h1;omega
  have e:=foldl_map' view (fun (n:Int) (o:pY)=>i64.wrap (n+o.bh)) ((p.py.ag.take 10).filter ja) 0;generalize ((p.py.ag.take 10).filter ja).map view=v at *
  rw [show ((0:Int),(0:Int))=(fun (k:Nat) (n:Int)=>(n,(k:Int))) 0 0 from rfl,
    mf v (fun (k:Nat) (n:Int)=>(n,(k:Int))) (fun _ n o=>i64.wrap (n+o.bh)) (fun n=>(n,(v.length:Int))) (fun _ _=>True) ?_ ?_ (Nat.lt_of_lt_of_le hl hN) trivial,nv,e]
  · rfl
  · intro k n y hy hk _;simp only [jy hk,PV,iY,hy,PT,jB (Nat.lt_trans hk hl)];exact ⟨trivial,trivial⟩
  · intro n _;simp only [jz,PU]
def kW (p:cd):ic:=if iU p.hY then iV ⟨i64.wrap ((ka p.PC).bh+held p),(ka p.PC).ib,(ka p.PC).ij⟩ p.hY else ka p.PC
theorem JL {N:Nat} (hN:ir≤N) {p:cd} (hb:iH p<ir):td N p=some (kW p):=by
  unfold td kW;simp only [B6 hN (kS hb).2.2.1,so,NF hN hb,uU,PT];cases iU p.hY<;>rfl
theorem IS {N:Nat} (hN:ir≤N) {p:cd} (hb:iH p<ir) (hw:wP p):sS N p=some (kW p):=by
  unfold sS kW;simp only [Jf hN (kS hb).2.2.1,sm,Nk hN hb hw,PT];cases iU p.hY<;>rfl
def pX (s:ic) (l:List cd):ic:=l.foldl (fun s p=>iV s (kW p)) s
def j8 (w:iC):Bool:=iA w.PQ 0 1000000&&(iA (w.parts.length:Int) 1 3&&(w.parts.all iO&&iU (pX ⟨0,0,0⟩ w.parts)))
def wW (l:List cd):Prop:=∀ p,p ∈ l→wP p
theorem Kn {N:Nat} (hN:ir≤N) {l:List cd} (hb:jr iH l<ir) (hw:wW l):uh N l=some (pX ⟨0,0,0⟩ l):=by
  have hB:=mG hb;unfold uh pX
  rw [show ((0:Int),(0:Int),(0:Int),(0:Int))=(fun (k:Nat) (s:ic)=>((k:Int),s.bh,s.ib,s.ij)) 0 ⟨0,0,0⟩ from rfl,
    mf l (fun (k:Nat) (s:ic)=>((k:Int),s.bh,s.ib,s.ij)) (fun _ s p=>iV s (kW p)) (fun s=>((l.length:Int),s.bh,s.ib,s.ij)) (fun _ _=>True) ?_ ?_ (Nat.lt_of_lt_of_le hB hN) trivial,nv]
  · rfl
  · intro k s p hy hk _;have hm:=List.mem_of_getElem? hy;simp only [jy hk,PV,iY,hy,PT,IS hN (jY hb hm) (hw p hm),jB (Nat.lt_trans hk hB)];exact ⟨rfl,trivial⟩
  · intro s _;simp only [jz,PU]
theorem Cy {N:Nat} (hN:ir≤N) {w:iC} (hb:jr iH w.parts<ir) (hw:wW w.parts):qZ N w=some (j8 w):=by
  have hB:=mG hb;unfold qZ j8;simp only [nE,PT,lq];cases iA w.PQ 0 1000000
  · rfl
  cases iA (w.parts.length:Int) 1 3
  · rfl
  simp only [PW,Bool.or_self,PU,PX];rw [kz w.parts (fun _ p=>iO p) (.inl (w.parts.length:Int)) (.inr false) (Nat.lt_of_lt_of_le hB hN),lp]
  · simp only [PT,Kn hN hb hw,sm];cases w.parts.all iO<;>rfl
  · intro k y hy hk;have hm:=List.mem_of_getElem? hy;simp only [jy hk,PV,iY,hy,PT,z6 hN (jY hb hm) (hw y hm),jB (Nat.lt_trans hk hB)];cases iO y<;>rfl
  · simp only [jz,PU]
theorem JJ {N:Nat} (hN:ir≤N) {w:iC} (hb:jr iH w.parts<ir):sH N w=some (j8 w):=by
  have hB:=mG hb;unfold sH j8;simp only [wF,nO,PT,lq];cases iA w.PQ 0 1000000
  · rfl
  cases iA (w.parts.length:Int) 1 3
  · rfl
  simp only [PW,Bool.or_self,PU,PX]
  rw [show ((0:Int),(0:Int),(0:Int),(0:Int))=(fun (k:Nat) (s:ic)=>((k:Int),s.bh,s.ib,s.ij)) 0 ⟨0,0,0⟩ from rfl,
    n8 w.parts (fun (k:Nat) (s:ic)=>((k:Int),s.bh,s.ib,s.ij)) (fun _ s p=>if iO p then .inl (iV s (kW p)) else .inr (.inr false)) (fun s=>.inl ((w.parts.length:Int),s.bh,s.ib,s.ij)) (fun _ _=>True) ?_ ?_ (Nat.lt_of_lt_of_le hB hN) trivial]
  · simp only [PT,so]
    have key:∀ (l:List cd) (k:Nat) (s:ic),Sum.elim (fun (o56:Int×Int×Int×Int)=>some (iU (ic.mk o56.2.1 o56.2.2.1 o56.2.2.2))) (fun r61=>some r61) (m7 (fun _ s p=>if iO p then .inl (iV s (kW p)) else .inr (.inr false)) (fun s=>.inl ((w.parts.length:Int),s.bh,s.ib,s.ij)) k s l)=some (l.all iO&&iU (pX s l)):=by
      intro l
      induction l with
      | nil=>intro k s;rfl
      | cons p l ih =>
        intro k s;unfold m7;rw [List.all_cons];cases hp:iO p
        · rfl
        · simpa [pX] using ih (k+1) (iV s (kW p))
    exact key w.parts 0 _
  · intro k s p hy hk _;have hm:=List.mem_of_getElem? hy;refine ⟨?_,fun _ _=>trivial⟩;simp only [jy hk,PV,iY,hy,PT,zT hN (jY hb hm),JL hN (jY hb hm),uU,jB (Nat.lt_trans hk hB)];cases iO p<;>rfl
  · intro s _;simp only [jz,PU]
end Go.Kx
namespace Go.Kx
open Go
open Go.IntKind (i64)
set_option linter.unusedVariables false
set_option linter.unusedSimpArgs false
set_option maxRecDepth 10000
def nG (h:Int):Bool:=iA h 0 29999
def nW (h:Int):Int:=if nG h then h % 3 else -1
def nT (h:Int):Int:=if nG h then h / 3 % 10 else -1
def Aj (h:Int):Int:=if nG h then h / 3 / 10 else -1
theorem zd {h:Int}:nG h=true ↔ 0≤h∧h≤29999:=iS
theorem hdiv {h:Int} (q:nG h=true):i64.wrap (Int.tdiv h 3)=h / 3∧Int.tmod h 3=h % 3∧Int.tmod (h / 3) 10=h / 3 % 10∧i64.wrap (Int.tdiv (h / 3) 10)=h / 3 / 10:=by
  rw [zd] at q
  have h3:0≤h / 3:=by omega
  refine ⟨?_,Int.tmod_eq_emod_of_nonneg q.1,Int.tmod_eq_emod_of_nonneg h3,?_⟩
  · rw [Int.tdiv_eq_ediv_of_nonneg q.1,iE (by omega) (by omega)]
  · rw [Int.tdiv_eq_ediv_of_nonneg h3,iE (by omega) (by omega)]
theorem wg (N:Nat) (h:Int):nm N h=some (nW h):=by
  unfold nm nW;rw [pZ,PT];cases q:iA h 0 29999
  · simp [nG,q]
  · simp [nG,q,(hdiv (h:=h) q).2.1]
theorem wB (N:Nat) (h:Int):ni N h=some (nW h):=by
  unfold ni nW;rw [r8,PT];cases q:iA h 0 29999
  · simp [nG,q]
  · simp [nG,q,(hdiv (h:=h) q).2.1]
theorem Dl (N:Nat) (h:Int):pK N h=some (nT h):=by
  unfold pK nT;rw [pZ,PT];cases q:iA h 0 29999
  · simp [nG,q]
  · simp [nG,q,(hdiv (h:=h) q).1,(hdiv (h:=h) q).2.2.1]
theorem Eh (N:Nat) (h:Int):pI N h=some (nT h):=by
  unfold pI nT;rw [r8,PT];cases q:iA h 0 29999
  · simp [nG,q]
  · simp [nG,q,(hdiv (h:=h) q).1,(hdiv (h:=h) q).2.2.1]
theorem E3 (N:Nat) (h:Int):ql N h=some (Aj h):=by
  unfold ql Aj;rw [pZ,PT];cases q:iA h 0 29999
  · simp [nG,q]
  · simp [nG,q,(hdiv (h:=h) q).1,(hdiv (h:=h) q).2.2.2]
theorem Fo (N:Nat) (h:Int):qw N h=some (Aj h):=by
  unfold qw Aj;rw [r8,PT];cases q:iA h 0 29999
  · simp [nG,q]
  · simp [nG,q,(hdiv (h:=h) q).1,(hdiv (h:=h) q).2.2.2]
def ox (p i g:Int):Int:=if iA p 0 2&&(iA i 0 9&&iA g 0 999) then i64.wrap ((i64.wrap ((i64.wrap ((i64.wrap (g * 10))+i)) * 3))+p) else -1
theorem A7 (N:Nat) (p i g:Int):pO N p i g=some (ox p i g):=by
  unfold pO ox;simp only [Aa,u9,nO,PT,lq];cases iA p 0 2<;>cases iA i 0 9<;>cases iA g 0 999<;>rfl
theorem vJ (N:Nat) (p i g:Int):nB N p i g=some (ox p i g):=by
  unfold nB ox;simp only [tA,nE,PT,lq];cases iA p 0 2<;>cases iA i 0 9<;>cases iA g 0 999<;>rfl
theorem Il {h:Int} (q:0≤nW h):nG h=true∧0≤nT h∧nT h≤9:=by
  unfold nW at q;unfold nT;cases hk:nG h
  · simp [hk] at q
  · rw [zd] at hk;simp only [if_true];exact ⟨trivial,by omega,by omega⟩
def jA (w:iC) (p:Int):Bool:=iA p 0 ((w.parts.length:Int) - 1)
theorem Cf {N:Nat} {w:iC} (hl:w.parts.length<ir) (p:Int):qU N w p=some (jA w p):=by
  have hl:w.parts.length<16777216:=hl;unfold qU jA;rw [nO,iE (by omega) (by omega)];rfl
theorem ki {w:iC} {p:Int} (h:jA w p=true):idx w.parts p=some (nth w.parts p)∧nth w.parts p ∈ w.parts:=by
  unfold jA at h;rw [iS] at h;exact ⟨jC h.1 (by omega),lh h.1 (by omega)⟩
end Go.Kx
namespace Go.Kx
open Go
open Go.IntKind (i64)
set_option linter.unusedVariables false
set_option linter.unusedSimpArgs false
set_option maxRecDepth 10000
theorem xL {N:Nat} (hN:ir≤N) {own:List Int} {a b:jE} (ho:own.length<ir) (ha:a.PA.length<ir) (hb:b.PA.length<ir):ot N own a b=some (ru own a b):=by
  unfold ot ru;simp only [zk hN ho,vl hN ha,vl hN hb,PT,lq];cases h1:mQ own
  · rfl
  cases h2:jH a
  · rfl
  cases h3:jH b
  · rfl
  have l2:=(vg.1 h2).1;have l3:=(vg.1 h3).1;simp only [PW,Bool.or_self,PU,PX];rw [Nh a.PA l2 (fun k y=>!decide (y > (b.PA[k]?).getD 0) || own.contains (k:Int)) (.inl 4) (.inr false) hN]
  · simp only [PT];cases allI _ 0 a.PA<;>rfl
  · intro k y hy hk hd;have hz:b.PA[k]?=some (b.PA[k]'(by omega)):=List.getElem?_eq_getElem _;simp only [hd,PV,iY,hy,hz,PT,Option.getD_some,xl hN ho,jB (show k<ir from Nat.lt_trans hk (by decide))];cases decide (y > b.PA[k]'(by omega))<;>cases own.contains (k:Int)<;>rfl
  · rfl
def target (p:Int) (c:iJ):Int:=if (c.Pz==7) || (c.Pz==17) then nW c.a else if c.Pz==16 then c.b else p
def other (w:iC) (p:Int) (c:iJ):Int:=if jA w (target p c) then target p c else -1
theorem Fb {N:Nat} {w:iC} (hl:w.parts.length<ir) (p:Int) (c:iJ):qv N w p c=some (other w p c):=by
  unfold qv other target;simp only [wg,Cf hl,PT]
  cases c.Pz==7<;>cases c.Pz==17<;>cases c.Pz==16<;>simp only [PV,PU,PT,Bool.or_self,Bool.or_true,Bool.true_or,Bool.or_false,if_true,if_false,Bool.false_eq_true] <;>
    first | (cases jA w (nW c.a)<;>rfl) | (cases jA w c.b<;>rfl) | (cases jA w p<;>rfl)
theorem Fp {N:Nat} {w:iC} (hl:w.parts.length<ir) (p:Int) (c:iJ):qu N w p c=some (other w p c):=by
  have hl:w.parts.length<16777216:=hl;unfold qu other target jA;simp only [wB,nE,PT];rw [iE (by omega) (by omega)]
  cases c.Pz==7<;>cases c.Pz==17<;>cases c.Pz==16<;>simp only [PV,PU,PT,Bool.or_self,Bool.or_true,Bool.true_or,Bool.or_false,if_true,if_false,Bool.false_eq_true] <;>
    first | (cases iA (nW c.a) 0 ((w.parts.length:Int) - 1)<;>rfl) | (cases iA c.b 0 ((w.parts.length:Int) - 1)<;>rfl) | (cases iA p 0 ((w.parts.length:Int) - 1)<;>rfl)
theorem tN {w:iC} {p:Int} {c:iJ} (h:decide (other w p c<0)=false):jA w (other w p c)=true:=by
  unfold other at h ⊢;cases hp:jA w (target p c)
  · simp [hp] at h
  · simp [hp]
end Go.Kx
namespace Go.Kx
open Go
open Go.IntKind (i64)
set_option linter.unusedVariables false
set_option linter.unusedSimpArgs false
set_option maxRecDepth 10000
theorem sb {t:List im} (h:kj t=true):t.length=5:=(jG.1 h).len
def kJ (p:cd) (i:Int):Int:=if kj p.PC&&iW p.PC i then i else 0
theorem kM {t:List im} {i:Int} (h:iW t i=true):0≤i∧i≤4:=by
  unfold iW at h;simp only [PY,iS] at h;exact h.1
theorem wM (p:cd) (i:Int):0≤kJ p i∧kJ p i≤4:=by
  unfold kJ;split
  · rename_i h;simp only [PY] at h;exact kM h.2
  · omega
theorem FW {N:Nat} (hN:ir≤N) (p:cd) (i:Int):tK N p i=some (kJ p i):=by
  unfold tK kJ;rw [vb hN,PT];cases h:kj p.PC
  · rfl
  · simp only [PW,PU,tz N (sb h),PT,PX];cases iW p.PC i<;>rfl
theorem vd {N:Nat} (hN:ir≤N) (t:List im) (i:Int):ny N t i=some (kj t&&iW t i):=by
  unfold ny iW;simp only [xS hN,vR,PT];cases h:kj t
  · rfl
  have hl:=sb h;cases hi:iA i 0 4
  · rfl
  · simp only [PV,A6 hi (by omega) (show (4:Int)<(t.length:Int) by omega),PT,PX]
theorem Gq {N:Nat} (hN:ir≤N) (p:cd) (i:Int):tW N p i=some (kJ p i):=by
  unfold tW kJ;rw [vd hN,PT];cases (kj p.PC&&iW p.PC i)<;>rfl
theorem kY {p:cd} (h:iO p=true):kj p.PC=true:=by
  unfold iO at h;simp only [PY] at h;exact h.2.2.1
theorem Gy {p:cd} (h:iO p=true) {i:Int} (h0:0≤i) (h4:i≤4):idx p.PC i=some (nth p.PC i):=jC h0 (by have:=sb (kY h);omega)
def si (p:cd) (i:Int):ic:=(nth p.PC (kJ p (nth p.py.ag i).res)).iI
theorem Md {N:Nat} (hN:ir≤N) {p:cd} (h:iO p=true) {i:Int} (h0:0≤i) (h9:i≤9):vu N p i=some (si p i):=by
  unfold vu si;obtain ⟨r0,r4⟩:=wM p (nth p.py.ag i).res;simp only [((kf h).at h0 h9).1,PT,FW hN,Gy h r0 r4]
def vm (p:cd) (i:Int):Bool:=((nth p.py.ag i).PK==0)&&decide ((si p i).ij > 0)
def runnable (p:cd) (now:Int):List Int:=(threads p now).filter (vm p)
end Go.Kx
namespace Go.Kx
open Go
open Go.IntKind (i64)
set_option linter.unusedVariables false
set_option linter.unusedSimpArgs false
set_option maxRecDepth 10000
def better (p:cd) (v i:Int):Int:=if decide ((si p i).ij≤(si p v).ij) then i else v
def uq (p:cd) (now:Int):Int:=match threads p now with
  | a::b::l=>(b::l).foldl (better p) a
  | _=>-1
theorem Ay {p:cd} {m:List Int}:∀ (l:List Int) (v:Int),v ∈ m→(∀ y,y ∈ l→y ∈ m)→l.foldl (better p) v ∈ m
  | [],v,hv,_=>hv
  | y::l,v,hv,h=>by
    rw [List.foldl_cons];refine Ay l _ ?_ fun z hz=>h z (by simp [hz]);unfold better;split
    · exact h y (by simp)
    · exact hv
theorem Bg {p:cd} {now:Int} (h:decide (uq p now ≥ 0)=true):uq p now ∈ threads p now:=by
  unfold uq at h ⊢
  cases ht:threads p now with
  | nil=>rw [ht] at h;simp at h
  | cons a l=>cases l with
    | nil=>rw [ht] at h;simp at h
    | cons b l=>exact Ay (b::l) a (by simp) fun y hy=>by simp at hy ⊢;exact .inr hy
theorem xz {p:cd} {now y:Int} (h:y ∈ threads p now):iO p=true∧0≤y∧y≤9:=sF h
def nf (p:cd) (l:List gE):cd:=cd.mk p.PB p.own p.PC (il.mk l p.py.gc) p.ia p.PJ p.PI p.hY p.ik p.PH
def AX (o:gE) (t:Int):gE:=gE.mk o.PO o.Pz o.box o.res t o.bh o.PK o.iP o.iM o.mark o.ig o.PG o.PE
def sP (p:cd) (now:Int):List gE:=if decide (uq p now ≥ 0) then p.py.ag.set (uq p now).toNat (AX (nth p.py.ag (uq p now)) (i64.wrap (now - 1))) else p.py.ag
def mX (p:cd) (now:Int):cd:=if iO p&&(iA now 1 1000000&&!decide (p.ik<3)) then cd.mk p.PB p.own p.PC (il.mk (sP p now) p.py.gc) p.ia p.PJ p.PI p.hY 0 p.PH else p
def Az (l:List gE) (now part h:Int):Bool:=(kp l&&(nG h&&(nW h==part)))&&(((nth l (nT h)).Pz != 0)&&(((nth l (nT h)).PO==Aj h)&&nth (reach l now) (nT h)))
def iy (l:List gE) (now part h:Int):Int:=bif Az l now part h then nT h else -1
theorem Am {h:Int} (q:nG h=true):0≤nT h∧nT h≤9:=(Il (h:=h) (by unfold nW;rw [q,if_pos rfl];rw [zd] at q;omega)).2
theorem xU {N:Nat} (hN:ir≤N) {l:List gE} (hb:jr iz l<ir) (now part h:Int):oq N l now part h=some (iy l now part h):=by
  unfold oq iy Az;simp only [F6 hN hb,pZ,wg,Dl,E3,PT,lq];cases ha:kp l
  · have e:reach l now=[]:=by unfold reach;rw [ha];rfl
    rw [e];rfl
  have har:=j7.1 ha;have hl:=rV har now;rw [show (((reach l now).length:Int)==0)=false by rw [hl];rfl,show iA h 0 29999=nG h from rfl];cases hh:nG h
  · rfl
  obtain ⟨s0,s9⟩:=Am hh;simp only [bne,(har.at s0 s9).1,jC (l:=reach l now) s0 (by omega),PT];cases nW h==part<;>cases (nth l (nT h)).Pz==0<;>cases (nth l (nT h)).PO==Aj h<;>cases nth (reach l now) (nT h)<;>rfl
theorem xT {N:Nat} (hN:ir≤N) {l:List gE} (hb:jr iz l<ir) (hw:wA l) (now part h:Int):oG N l now part h=some (iy l now part h):=by
  unfold oG iy Az;simp only [rA hN hb hw,Gs hN hb hw,r8,wB,Eh,Fo,PT,lq];cases ha:kp l
  · rfl
  have har:=j7.1 ha;have hl:=rV har now;rw [show iA h 0 29999=nG h from rfl];cases hh:nG h
  · rfl
  obtain ⟨s0,s9⟩:=Am hh;simp only [bne,(har.at s0 s9).1,jC (l:=reach l now) s0 (by omega),PT];cases nW h==part<;>cases (nth l (nT h)).Pz==0<;>cases (nth l (nT h)).PO==Aj h<;>cases nth (reach l now) (nT h)<;>rfl
def C0 (p:cd) (me now:Int) (o:gE):Bool:=decide (o.PK > 0)&&decide (iy p.py.ag now me (i64.wrap (o.PK - 1))<0)
def AO (o:gE):gE:=gE.mk o.PO o.Pz o.box o.res o.iK o.bh 0 (-1) o.iM o.mark o.ig o.PG o.PE
def sq (p:cd) (me now:Int):List gE:=p.py.ag.map fun o=>if C0 p me now o then AO o else o
def ng (p:cd) (me now:Int):cd:=if iO p&&iA me 0 2 then nf p (sq p me now) else p
theorem z4 {α:Type} {body:List α×Int→Option ((List α×Int)⊕(List α×Int))} (x:List α) (f:α→α) {N:Nat} (hN:x.length<N)
    (hs:∀ (k:Nat) (t:List α) (y:α),t.length=x.length→t[k]?=some y→x[k]?=some y→k<x.length→body (t,(k:Int))=some (.inl (t.set k (f y),((k+1:Nat):Int))))
    (he:∀ t,t.length=x.length→body (t,(x.length:Int))=some (.inr (t,(x.length:Int)))):iter body N (x,0)=some (x.map f,(x.length:Int)):=by
  have key:∀ (r:List α) (d d':List α) (M:Nat),d'.length=d.length→x=d'++r→r.length<M→iter body M (d++r,(d.length:Int))=some (d++r.map f,(x.length:Int)):=by
    intro r
    induction r with
    | nil =>
      intro d d' M hd hx hM
      cases M with
      | zero=>simp at hM
      | succ M =>
        have e:d.length=x.length:=by rw [hx];simp [hd]
        unfold iter;rw [List.append_nil,e,he d e];simp
    | cons y r ih =>
      intro d d' M hd hx hM
      cases M with
      | zero=>simp at hM
      | succ M =>
        have hlen:(d++y::r).length=x.length:=by rw [hx];simp [hd]
        unfold iter;rw [hs d.length (d++y::r) y hlen (by rw [List.getElem?_append_right (Nat.le_refl _)];simp) (by rw [hx,List.getElem?_append_right (by omega)];simp [hd]) (by rw [← hlen];simp)]
        have e:(d++y::r).set d.length (f y)=(d++[f y])++r:=by rw [List.set_append_right _ _ (Nat.le_refl _)];simp
        have e2:d.length+1=(d++[f y]).length:=by simp
        simp only [PT,e];rw [e2,ih (d++[f y]) (d'++[y]) M (by simp [hd]) (by rw [hx];simp) (by simp at hM;omega)];simp
  exact key x [] [] N rfl rfl hN
theorem oe {α:Type} {l:List α} {k:Nat} {y:α} (h:l[k]?=some y):l.set k y=l:=by
  apply List.ext_getElem? fun i=>?_;rw [List.getElem?_set];split
  · rename_i e;subst e;rw [if_pos (jl h),h]
  · rfl
theorem D8 {f:gE→Nat} {g:gE→gE} (h:∀ o,f (g o)=f o):∀ l:List gE,pe f (l.map g)=pe f l
  | []=>rfl
  | o::l=>by simp only [List.map_cons,pe,h,D8 h l]
theorem GP {f:gE→Nat} {g:gE→gE} (h:∀ o,f (g o)=f o) (l:List gE):jr f (l.map g)=jr f l:=by
  unfold jr;rw [D8 h,List.length_map]
theorem Mz (p:cd) (me now:Int):iH (ng p me now)=iH p:=by
  unfold ng;split
  · unfold iH nf nj sq;simp only;rw [GP fun o=>by split<;>rfl]
  · rfl
theorem LR (p:cd) (now:Int):iH (mX p now)≤iH p+100:=by
  unfold mX;split
  · rename_i h;simp only [PY] at h
    have hsz:jr iz (sP p now)≤jr iz p.py.ag+12:=by
      unfold sP;split
      · rename_i hv;obtain ⟨_,v0,v9⟩:=sF (Bg hv);have:=xy ((kf h.1).ok _ ((kf h.1).at v0 v9).2);exact Nat.le_trans va (Nat.add_le_add_left this _)
      · omega
    unfold iH nj;simp only;omega
  · omega
end Go.Kx
namespace Go.Kx
open Go
open Go.IntKind (i64)
set_option linter.unusedVariables false
set_option linter.unusedSimpArgs false
set_option maxRecDepth 10000
def lF (w n:Int):ic:=if w==0 then ⟨n,0,0⟩ else if w==1 then ⟨0,n,0⟩ else if w==2 then ⟨0,0,n⟩ else ⟨0,0,0⟩
theorem Ke (N:Nat) (w n:Int):uO N w n=some (lF w n):=by
  unfold uO lF;cases w==0<;>cases w==1<;>cases w==2<;>rfl
theorem Kr (N:Nat) (w n:Int):uK N w n=some (lF w n):=by
  unfold uK lF;cases w==0<;>cases w==1<;>cases w==2<;>rfl
def lI (a b:ic):Bool:=iU a&&(iU b&&(decide (a.bh≤b.bh)&&(decide (a.ib≤b.ib)&&decide (a.ij≤b.ij))))
theorem Ji (N:Nat) (a b:ic):sB N a b=some (lI a b):=by
  unfold sB lI;simp only [so,PT,mj]
theorem H8 (N:Nat) (a b:ic):tc N a b=some (lI a b):=by
  unfold tc lI;simp only [sm,PT,mj]
def uY (a b:ic):ic:=⟨i64.wrap (a.bh - b.bh),i64.wrap (a.ib - b.ib),i64.wrap (a.ij - b.ij)⟩
def xk (a b:ic):ic×Bool:=if lI b a then (uY a b,true) else (a,false)
theorem KU (N:Nat) (a b:ic):uy N a b=some (xk a b):=by
  unfold uy xk;rw [Ji,PT];cases lI b a<;>rfl
theorem Kg (N:Nat) (a b:ic):uQ N a b=some (xk a b):=by
  unfold uQ xk;rw [H8,PT];cases lI b a<;>rfl
def mg (r:im) (b:ic):im:=im.mk r.PN r.PM b
theorem jM {α:Type} [iw α] {l:List α} {i:Int} (h0:0≤i) (h1:i<(l.length:Int)):l[i.toNat]?=some (nth l i):=by
  have:=jC (l:=l) h0 h1;unfold idx at this
  rwa [if_pos h0] at this
def iX (t:List im) (f:Int) (a:ic):List im×Bool :=
  if kj t&&iW t f then (if lI a (nth t f).iI then (t.set f.toNat (mg (nth t f) (uY (nth t f).iI a)),true) else (t,false)) else (t,false)
theorem yh {N:Nat} (hN:ir≤N) {t:List im} (hB:t.length<ir) (f:Int) (a:ic):pc N t f a=some (iX t f a):=by
  unfold pc iX;simp only [qe hB,vb hN,PT];cases ht:kj t
  · rfl
  have hl:=sb ht;simp only [PW,PU,tz N hl,PT];cases hv:iW t f
  · rfl
  obtain ⟨f0,f4⟩:=kM hv;simp only [PW,PU,jC (l:=t) f0 (by omega),KU,PT,Bool.and_self,if_true];unfold xk;cases lI a (nth t f).iI
  · have:t.set f.toNat (im.mk (nth t f).PN (nth t f).PM (ic.mk (nth t f).iI.bh (nth t f).iI.ib (nth t f).iI.ij))=t:=oe (jM f0 (by omega));simp only [Bool.false_eq_true,if_false];rw [this]
  · rfl
theorem w5 {N:Nat} (hN:ir≤N) {t:List im} (hB:t.length<ir) (f:Int) (a:ic):oc N t f a=some (iX t f a):=by
  unfold oc iX;simp only [rJ hB,vd hN,PT];cases h:(kj t&&iW t f)
  · rfl
  rw [PY] at h;have hl:=sb h.1;obtain ⟨f0,f4⟩:=kM h.2;simp only [PW,PU,jC (l:=t) f0 (by omega),Kg,PT,if_true];unfold xk;cases lI a (nth t f).iI<;>rfl
theorem mq (t:List im) (f:Int) (a:ic):(iX t f a).1.length=t.length:=by
  unfold iX;split
  · split<;>simp
  · rfl
def xH (last pick:Int):Int→Int→List Int→Int
  | least,next,[]=>if decide (next ≥ 0) then next else least
  | least,next,y::l=>if decide (y<0) then xH last pick least next l else if y==pick then y else
      xH last pick (if decide (least<0) || decide (y<least) then y else least) (if decide (y > last)&&(decide (next<0) || decide (y<next)) then y else next) l
def tE (l:List Int) (last pick:Int):Int:=xH last pick (-1) (-1) l
theorem z5 {last pick:Int} {P:Int→Prop}:∀ (l:List Int) (a b:Int),P a→P b→(∀ y,y ∈ l→P y)→P (xH last pick a b l)
  | [],a,b,ha,hb,_=>by unfold xH;split<;>assumption
  | y::l,a,b,ha,hb,h=>by
    have hy:=h y (by simp);have hl:∀ z,z ∈ l→P z:=fun z hz=>h z (by simp [hz]);unfold xH;split
    · exact z5 l a b ha hb hl
    · split
      · exact hy
      · refine z5 l _ _ ?_ ?_ hl
        · split<;>assumption
        · split<;>assumption
theorem zv (l:List Int) (last pick:Int) (h:decide (tE l last pick<0)=false):tE l last pick ∈ l:=by
  have:=z5 (last:=last) (pick:=pick) (P:=fun y=>y=-1∨y ∈ l) l (-1) (-1) (.inl rfl) (.inl rfl) fun y hy=>.inr hy
  rcases this with q | q
  · unfold tE at h;rw [q] at h;simp at h
  · exact q
def r7 (o:gE):gE:=gE.mk o.PO o.Pz o.box o.res o.iK o.bh o.PK o.iP (i64.wrap (o.iM+1)) o.mark o.ig o.PG o.PE
def kq (p:cd) (now:Int):Int:=tE (runnable p now) p.PJ (i64.wrap (p.PI - 1))
def sg (p:cd) (now:Int):Bool:=decide (kq p now<0) || (decide (p.hY.ij ≥ 1000000) || decide ((nth p.py.ag (kq p now)).iM ≥ 1000000))
def mZ (p:cd) (now:Int):cd×Int :=
  if iO p then
    (if sg p now then (cd.mk p.PB p.own p.PC p.py p.ia p.PJ 0 p.hY p.ik p.PH, -1) else
      (cd.mk p.PB p.own (iX p.PC (kJ p (nth p.py.ag (kq p now)).res) ⟨0,0,1⟩).1 (il.mk (p.py.ag.set (kq p now).toNat (r7 (nth p.py.ag (kq p now)))) p.py.gc) p.ia (kq p now) 0
        (ic.mk p.hY.bh p.hY.ib (i64.wrap (p.hY.ij+1))) p.ik p.PH,kq p now))
  else (p, -1)
theorem Ig {p:cd} {now:Int} (h:decide (kq p now<0)=false):iO p=true∧0≤kq p now∧kq p now≤9:=by
  have:=zv _ _ _ h;unfold runnable at this;exact sF (List.mem_filter.1 this).1
theorem NW {o:gE} (h:ja o=true):0≤o.iM∧o.iM≤1000000:=by
  unfold ja at h;cases hk:o.Pz==0
  · simp only [hk,PU,PY] at h;have h:=h.2.2.2.2.2.2.2;cases h4:o.Pz != 4
    · rw [h4] at h;simp only [PU,PY] at h;exact iS.1 h.2.2
    · rw [h4] at h;simp only [PV,PY,beq_iff_eq] at h;omega
  · simp only [hk,PV,PY,decide_eq_true_eq] at h;rw [h.2.2];exact ⟨Int.le_refl _,by show (0:Int)≤1000000;decide⟩
theorem vr {a:ic} (h:iU a=true):(0≤a.bh∧a.bh≤1000000)∧(0≤a.ib∧a.ib≤1000000)∧(0≤a.ij∧a.ij≤1000000):=by
  unfold iU v7 at h;simpa only [PY,iS] using h
theorem oC {p:cd} (h:iO p=true):iU p.hY=true:=by
  unfold iO rq at h;simp only [PY] at h;exact h.2.2.2.2.2.2.2.2.1
theorem Jl (p:cd) (now:Int):iH (mZ p now).1≤iH p+100:=by
  unfold mZ;split
  · rename_i hp;split
    · exact Nat.le_add_right _ _
    · rename_i hn;unfold sg at hn;simp only [Bool.or_eq_true,not_or,Bool.not_eq_true] at hn;obtain ⟨_,n0,n9⟩:=Ig hn.1;have h1:=xy ((kf hp).ok _ ((kf hp).at n0 n9).2);have h2:jr iz (p.py.ag.set (kq p now).toNat (r7 (nth p.py.ag (kq p now))))≤jr iz p.py.ag+12:=Nat.le_trans va (Nat.add_le_add_left h1 _);have h3:=mq p.PC (kJ p (nth p.py.ag (kq p now)).res) ⟨0,0,1⟩;unfold iH nj;simp only [h3];omega
  · exact Nat.le_add_right _ _
end Go.Kx
namespace Go.Kx
open Go
open Go.IntKind (i64)
set_option linter.unusedVariables false
set_option linter.unusedSimpArgs false
set_option maxRecDepth 10000
def xZ (i:Int) (x:Int):Int:=if x==i then -1 else x
def pU (i:Int) (o:gE):gE:=if o.Pz==0 then o else gE.mk o.PO o.Pz (if o.box==i then -1 else o.box) o.res o.iK o.bh o.PK o.iP o.iM o.mark (o.ig.map (xZ i)) o.PG o.PE
def mK (l:List gE) (i:Int):List gE×Bool:=if kp l&&(iA i 1 9&&((nth l i).Pz != 0)) then ((l.set i.toNat (blank (nth l i).PO)).map (pU i),true) else (l,false)
theorem Kk {l:List gE} (h:Ar l) {i g:Int} {k:Nat} {y:gE} (hy:(l.set i.toNat (blank g))[k]?=some y) (hk:(y.Pz==0)=false):ja y=true:=by
  rcases List.mem_or_eq_of_mem_set (List.mem_of_getElem? hy) with q | q
  · exact h.ok y q
  · rw [q] at hk;simp [blank] at hk
theorem yQ {o:gE} (h:ja o=true) (hk:(o.Pz==0)=false):o.ig.length=2:=by
  unfold ja at h;simp only [hk,PU,PY] at h;obtain ⟨_,_,_,_,_,_,hl,_⟩:=h;unfold lH at hl;simp only [PY,beq_iff_eq] at hl;omega
theorem zJ {N:Nat} (hN:ir≤N) {l:List gE} (hb:jr iz l<ir) (hw:wA l) (i:Int):oL N l i=some (mK l i):=by
  unfold oL mK;simp only [Al hN hb,rA hN hb hw,nE,PT];cases ha:kp l
  · rfl
  have h:=j7.1 ha;cases hi:iA i 1 9
  · rfl
  have hr:=iS.1 hi;simp only [PW,PU,(h.at (i:=i) (by omega) hr.2).1,PT,bne,PX];cases hk:(nth l i).Pz==0
  · simp only [PU,Bool.not_false,if_true];rw [show gE.mk (nth l i).PO 0 0 0 0 0 0 0 0 false [] [] []=blank (nth l i).PO from rfl];have hlen:(l.set i.toNat (blank (nth l i).PO)).length=l.length:=List.length_set;rw [z4 (l.set i.toNat (blank (nth l i).PO)) (pU i) (by rw [hlen];exact Nat.lt_of_lt_of_le h.xO hN)]
    · rfl
    · intro k t y ht hty hy hkl
      have hk10:k<10:=by rw [hlen,h.len] at hkl;exact hkl
      have hkt:k<t.length:=jl hty;simp only [jy hkt,PV,iY,hty,PT,jB (show k<ir from Nat.lt_trans hk10 (by decide))];unfold pU;cases hyk:y.Pz==0
      · have ho:=Kk h hy hyk;have h2:=yQ ho hyk;simp only [PU,Bool.false_eq_true,if_false]
        have inner:∀ (t2:List gE) (z:gE),t2.length=t.length→t2[k]?=some z→z.ig.length=2→iter (fun (s90:(List gE)×Int)=>(bif (decide (s90.2<2)) then ((idx s90.1 (k:Int)).bind fun y93=>(idx y93.ig s90.2).bind fun y115=>bif (y115==i) then (some (.inl ((s90.1.set (k:Int).toNat (gE.mk y93.PO y93.Pz y93.box y93.res y93.iK y93.bh y93.PK y93.iP y93.iM y93.mark (y93.ig.set (s90.2:Int).toNat (-1)) y93.PG y93.PE)),i64.wrap (s90.2+1)))) else (some (.inl (s90.1,i64.wrap (s90.2+1))))) else (some (.inr (s90.1,s90.2))):Option (((List gE)×Int)⊕((List gE)×Int)))) N (t2,0) =
            some (t2.set k (gE.mk z.PO z.Pz z.box z.res z.iK z.bh z.PK z.iP z.iM z.mark (z.ig.map (xZ i)) z.PG z.PE),2):=by
          intro t2 z hl2 hz hz2
          have hk2:k<t2.length:=by omega
          obtain ⟨a,b,hab⟩:∃ a b,z.ig=[a,b]:=by
            match hq:z.ig with
            | []=>simp [hq] at hz2
            | [a]=>simp [hq] at hz2
            | [a,b]=>exact ⟨a,b,rfl⟩
            | a::b::c::r=>simp [hq] at hz2
          obtain ⟨M,rfl⟩:∃ M,N=M+3:=⟨N - 3,by have:16777216≤N:=hN;omega⟩;have hset:∀ u:gE,(t2.set k u)[k]?=some u:=fun u=>List.getElem?_set_self hk2
          have hid:t2.set k (gE.mk z.PO z.Pz z.box z.res z.iK z.bh z.PK z.iP z.iM z.mark [a,b] z.PG z.PE)=t2:=by rw [← hab];exact oe hz
          have w1:i64.wrap (0+1)=1:=by decide
          have w2:i64.wrap (1+1)=2:=by decide
          unfold iter;simp only [show decide ((0:Int)<2)=true from rfl,PV,iY,hz,PT,hab,show idx [a,b] 0=some a from rfl,w1,Int.toNat_natCast];cases hA:a==i
          · simp only [PU,PT];unfold iter;simp only [show decide ((1:Int)<2)=true from rfl,PV,iY,hz,PT,hab,show idx [a,b] 1=some b from rfl,w2,Int.toNat_natCast];cases hB:b==i
            · simp only [PU,PT];unfold iter;simp [xZ,hA,hB,hid]
            · simp only [PV,PT];unfold iter;simp [xZ,hA,hB]
          · simp only [PV,PT];unfold iter;simp only [show decide ((1:Int)<2)=true from rfl,PV,iY,hset,PT,w2,Int.toNat_natCast];rw [show idx ([a,b].set (0:Int).toNat (-1)) 1=some b from rfl];simp only [PT];cases hB:b==i
            · simp only [PU,PT];unfold iter;simp [xZ,hA,hB]
            · simp only [PV,PT,List.set_set];unfold iter;simp [xZ,hA,hB]
        simp only [iY,Int.toNat_natCast] at inner ⊢;cases hbx:y.box==i
        · simp only [PU,PT,Bool.false_eq_true,if_false];rw [inner t y rfl hty h2];rfl
        · simp only [PV,PT,Int.toNat_natCast,if_true];have e:=inner (t.set k (gE.mk y.PO y.Pz (-1) y.res y.iK y.bh y.PK y.iP y.iM y.mark y.ig y.PG y.PE)) (gE.mk y.PO y.Pz (-1) y.res y.iK y.bh y.PK y.iP y.iM y.mark y.ig y.PG y.PE) List.length_set (List.getElem?_set_self hkt) h2;rw [e];simp only [PT,List.set_set]
      · simp only [PV,if_true];rw [oe hty]
    · intro t ht;rw [← ht];simp only [jz,PU]
  · rfl
def ma (t:List im) (f:Int) (a:ic):List im×Bool :=
  if kj t&&(iU a&&iU (iV (ka t) a)) then
    (t.set (if iW t f then f else 0).toNat (mg (nth t (if iW t f then f else 0)) (iV (nth t (if iW t f then f else 0)).iI a)),true)
  else (t,false)
theorem vZ (t:List im) (f:Int) (a:ic):(ma t f a).1.length=t.length:=by
  unfold ma;split<;>simp
theorem HC {N:Nat} (hN:ir≤N) {t:List im} (hB:t.length<ir) (f:Int) (a:ic):rN N t f a=some (ma t f a):=by
  unfold rN ma;simp only [qe hB,vb hN,so,B6 hN hB,uU,PT,lq];cases ht:kj t
  · rfl
  have hl:=sb ht;cases iU a
  · rfl
  cases iU (iV (ka t) a)
  · rfl
  simp only [PW,Bool.or_self,PU,tz N hl,PT,Bool.and_self,if_true];cases hv:iW t f
  · simp only [Bool.not_false,PV,PT,jC (l:=t) (i:=0) (by omega) (by omega),Bool.false_eq_true,if_false];rfl
  · obtain ⟨f0,f4⟩:=kM hv;simp only [PW,PU,PT,jC (l:=t) f0 (by omega),if_true];rfl
theorem My {n:Int}:v7 n=true ↔ 0≤n∧n≤1000000:=iS
theorem jd {a:ic}:iU a=true ↔ (0≤a.bh∧a.bh≤1000000)∧(0≤a.ib∧a.ib≤1000000)∧(0≤a.ij∧a.ij≤1000000):=by
  unfold iU;simp only [PY,My]
theorem sf:∀ (t:List im) (s:ic) (B:Int),(∀ r,r ∈ t→iU r.iI=true)→0≤B→B+1000000 * (t.length:Int)≤1000000000→(0≤s.bh∧s.bh≤B)→(0≤s.ib∧s.ib≤B)→(0≤s.ij∧s.ij≤B) →
    (s.bh≤(ju s t).bh∧s.ib≤(ju s t).ib∧s.ij≤(ju s t).ij) ∧
      ∀ r,r ∈ t→r.PN=true→r.iI.bh≤(ju s t).bh∧r.iI.ib≤(ju s t).ib∧r.iI.ij≤(ju s t).ij
  | [],s,B,_,_,_,_,_,_=>⟨⟨Int.le_refl _,Int.le_refl _,Int.le_refl _⟩,fun r hr=>by simp at hr⟩
  | r::t,s,B,h,hB,hL,h1,h2,h3=>by
    have hr:=jd.1 (h r (by simp));simp only [List.length_cons] at hL;have e:ju s (r::t)=ju (if r.PN then iV s r.iI else s) t:=rfl;rw [e];cases hv:r.PN
    · obtain ⟨q1,q2⟩:=sf t s B (fun x hx=>h x (by simp [hx])) hB (by omega) h1 h2 h3;refine ⟨q1,fun x hx hl=>?_⟩
      rcases List.mem_cons.1 hx with rfl | hx
      · rw [hv] at hl;cases hl
      · exact q2 x hx hl
    · simp only [if_true];have w1:(iV s r.iI).bh=s.bh+r.iI.bh:=iE (by omega) (by omega);have w2:(iV s r.iI).ib=s.ib+r.iI.ib:=iE (by omega) (by omega);have w3:(iV s r.iI).ij=s.ij+r.iI.ij:=iE (by omega) (by omega);obtain ⟨⟨a1,a2,a3⟩,q2⟩:=sf t (iV s r.iI) (B+1000000) (fun x hx=>h x (by simp [hx])) (by omega) (by omega) (by omega) (by omega) (by omega);refine ⟨⟨by omega,by omega,by omega⟩,fun x hx hl=>?_⟩
      rcases List.mem_cons.1 hx with rfl | hx
      · exact ⟨by omega,by omega,by omega⟩
      · exact q2 x hx hl
theorem BX {t:List im} (h:Tr t) {a:ic} (ha:iU a=true) (hs:iU (iV (ju ⟨0,0,0⟩ t) a)=true) {i:Int} (hi:0≤i∧i≤4) (hv:(nth t i).PN=true):kv (nth t i).iI a=(iV (nth t i).iI a,true):=by
  have hl:=h.len;have hm:nth t i ∈ t:=lh hi.1 (by omega);obtain ⟨_,q⟩:=sf t ⟨0,0,0⟩ 0 h.iI (by omega) (by omega) ⟨by decide,by decide⟩ ⟨by decide,by decide⟩ ⟨by decide,by decide⟩;obtain ⟨q1,q2,q3⟩:=q _ hm hv;have hb:=jd.1 (h.iI _ hm);have ha':=jd.1 ha;have hS:=jd.1 h.sum;have w1:(iV (ju ⟨0,0,0⟩ t) a).bh=(ju ⟨0,0,0⟩ t).bh+a.bh:=iE (by omega) (by omega);have w2:(iV (ju ⟨0,0,0⟩ t) a).ib=(ju ⟨0,0,0⟩ t).ib+a.ib:=iE (by omega) (by omega);have w3:(iV (ju ⟨0,0,0⟩ t) a).ij=(ju ⟨0,0,0⟩ t).ij+a.ij:=iE (by omega) (by omega);have hs':=jd.1 hs;have v1:(iV (nth t i).iI a).bh=(nth t i).iI.bh+a.bh:=iE (by omega) (by omega);have v2:(iV (nth t i).iI a).ib=(nth t i).iI.ib+a.ib:=iE (by omega) (by omega);have v3:(iV (nth t i).iI a).ij=(nth t i).iI.ij+a.ij:=iE (by omega) (by omega);have:iU (iV (nth t i).iI a)=true:=jd.2 ⟨by omega,by omega,by omega⟩;unfold kv;rw [h.iI _ hm,ha,this];rfl
theorem G9 {N:Nat} (hN:ir≤N) {t:List im} (hB:t.length<ir) (f:Int) (a:ic):rO N t f a=some (ma t f a):=by
  unfold rO ma;simp only [rJ hB,xS hN,By hN hB,wI,vd hN,PT];cases ht:kj t
  · rfl
  have hT:=jG.1 ht;have hl:=hT.len
  have e:(kv (ju ⟨0,0,0⟩ t) a).2=(iU a&&iU (iV (ka t) a)):=by
    unfold kv ka;rw [hT.sum,ht];simp only [if_true,PX];cases iU a&&iU (iV (ju ⟨0,0,0⟩ t) a)<;>rfl
  rw [e];simp only [PW,PU,PX];cases hc:(iU a&&iU (iV (ka t) a))
  · rfl
  rw [PY] at hc
  have hs:iU (iV (ju ⟨0,0,0⟩ t) a)=true:=by
    have:=hc.2;unfold ka at this
    rwa [ht,if_pos rfl] at this
  simp only [PW,PU,if_true];cases hv:iW t f
  · simp only [Bool.not_false,PV,PT,jC (l:=t) (i:=0) (by omega) (by omega),BX hT hc.1 hs (i:=0) ⟨by omega,by omega⟩ hT.rl,Bool.false_eq_true,if_false];rfl
  · obtain ⟨f0,f4⟩:=kM hv
    have hlv:(nth t f).PN=true:=by unfold iW at hv;rw [PY] at hv;exact hv.2
    simp only [PW,PU,PT,jC (l:=t) f0 (by omega),BX hT hc.1 hs (i:=f) ⟨f0,f4⟩ hlv,if_true];rfl
end Go.Kx
namespace Go.Kx
open Go
open Go.IntKind (i64)
set_option linter.unusedVariables false
set_option linter.unusedSimpArgs false
set_option maxRecDepth 10000
def mb (h:il) (k:Int):il :=
  if (h.gc.PD==0)&&(((nth h.ag k).Pz != 0)&&!(nth h.ag k).mark) then
    il.mk (h.ag.set k.toNat (marked (nth h.ag k) true)) (jv.mk h.gc.PD h.gc.PL h.gc.PF (if h.gc.hZ.contains k then h.gc.hZ else h.gc.hZ++[k]))
  else h
theorem DS {l:List Int} {k:Int} (h:l.length+1<ir):app l [k]=some (l++[k]):=by
  unfold app;rw [if_pos (by simpa using h)]
theorem MJ {N:Nat} (hN:ir≤N) {h:il} {k:Int} (h0:0≤k) (h1:k<(h.ag.length:Int)) (hg:h.gc.hZ.length+1<ir):vz N h k=some (mb h k):=by
  have hg':h.gc.hZ.length<ir:=by omega
  unfold vz mb;rw [← Bool.cond_eq_ite];simp only [jC (l:=h.ag) h0 h1,uG hN hg',DS hg,PT,bne];cases h.gc.PD==0
  · rfl
  cases (nth h.ag k).Pz==0
  · cases (nth h.ag k).mark
    · cases h.gc.hZ.contains k<;>rfl
    · rfl
  · rfl
theorem AG {N:Nat} (hN:ir≤N) {h:il} {k:Int} (h0:0≤k) (h1:k<(h.ag.length:Int)) (hg:h.gc.hZ.length+1<ir):pL N h k=some (mb h k):=by
  have hg':h.gc.hZ.length<ir:=by omega
  unfold pL mb;rw [← Bool.cond_eq_ite];simp only [jC (l:=h.ag) h0 h1,xl hN hg',DS hg,PT,bne];cases h.gc.PD==0
  · rfl
  cases (nth h.ag k).Pz==0
  · cases (nth h.ag k).mark
    · cases h.gc.hZ.contains k<;>rfl
    · rfl
  · rfl
theorem zo (h:il) (k:Int):(mb h k).ag.length=h.ag.length:=by
  unfold mb;split<;>simp
theorem xY (h:il) (k:Int):(mb h k).gc.hZ.length≤h.gc.hZ.length+1:=by
  unfold mb;split
  · simp only;split
    · exact Nat.le_succ _
    · simp
  · exact Nat.le_succ _
theorem tH {l:List gE} {i j:Int} {o:gE} (h0:0≤i) (h1:i<(l.length:Int)) (hj:0≤j):nth (l.set i.toNat o) j=if i=j then o else nth l j:=by
  unfold nth;rw [List.getElem?_set]
  by_cases e:i=j
  · subst e;rw [if_pos rfl,if_pos (by omega),if_pos rfl];rfl
  · rw [if_neg (by omega),if_neg e]
theorem Ju {h:il} {k j:Int} {now:Int} (h0:0≤k) (h1:k<(h.ag.length:Int)) (hj:0≤j):jF (nth (mb h k).ag j) now=jF (nth h.ag j) now:=by
  unfold mb;split
  · simp only;rw [tH h0 h1 hj];split
    · rename_i e;subst e;rfl
    · rfl
  · rfl
def kN (l:List gE) (now:Int) (h:il) (k:Int):il:=if jF (nth l k) now then h else mb h k
def jm (h:il):Int:=nth h.gc.hZ ((h.gc.hZ.length:Int) - 1)
def oB (h:il):List Int:=h.gc.hZ.take (h.gc.hZ.length - 1)
def rC (h:il) (now:Int):il :=
  if h.gc.hZ.length=0 then il.mk h.ag (jv.mk 1 0 h.gc.PF h.gc.hZ)
  else if (jm h != 0)&&jF (nth h.ag (jm h)) now then il.mk h.ag (jv.mk h.gc.PD h.gc.PL h.gc.PF (oB h))
  else (lU h.ag (jm h)).foldl (kN h.ag now) (il.mk (h.ag.set (jm h).toNat (marked (nth h.ag (jm h)) true)) (jv.mk h.gc.PD h.gc.PL h.gc.PF (oB h)))
def ht (h:il):List gE×Int×Int×Int×List Int:=(h.ag,h.gc.PD,h.gc.PL,h.gc.PF,h.gc.hZ)
theorem II {N:Nat} (hN:ir≤N) {l:List gE} {now:Int} {e:List Int} (he:∀ y,y ∈ e→0≤y∧y≤9) (hel:e.length≤10) {h:il} (hl:h.ag.length=10) {G:Nat} (hg:h.gc.hZ.length≤G) (hG:G+20<ir)
    (hx:∀ j,0≤j→jF (nth h.ag j) now=jF (nth l j) now)
    {body:Int×List gE×Int×Int×Int×List Int→Option ((Int×List gE×Int×Int×Int×List Int)⊕(Int×List gE×Int×Int×Int×List Int))}
    (hs:∀ (k:Nat) (t:il) (y:Int),e[k]?=some y→k<e.length→t.ag.length=10→t.gc.hZ.length+1<ir→(∀ j,0≤j→jF (nth t.ag j) now=jF (nth l j) now)→0≤y→y≤9→body ((k:Int),ht t)=some (.inl (((k+1:Nat):Int),ht (kN l now t y))))
    (hend:∀ t,body ((e.length:Int),ht t)=some (.inr ((e.length:Int),ht t))) :
    iter body N (0,ht h)=some ((e.length:Int),ht (e.foldl (kN l now) h)):=by
  have hB:e.length<ir:=by omega
  rw [show ((0:Int),ht h)=(fun (k:Nat) (t:il)=>((k:Int),ht t)) 0 h from rfl,
    mf e (fun (k:Nat) (t:il)=>((k:Int),ht t)) (fun _ t y=>kN l now t y) (fun t=>((e.length:Int),ht t)) (fun k t=>t.ag.length=10∧t.gc.hZ.length≤G+k∧∀ j,0≤j→jF (nth t.ag j) now=jF (nth l j) now) ?_ ?_ (Nat.lt_of_lt_of_le hB hN) ⟨hl,hg,hx⟩,nv]
  · intro k t y hy hk ⟨i1,i2,i3⟩;obtain ⟨y0,y9⟩:=he y (List.mem_of_getElem? hy);refine ⟨hs k t y hy hk i1 (by omega) i3 y0 y9,?_⟩;unfold kN;split
    · exact ⟨i1,by omega,i3⟩
    · have:=xY t y;exact ⟨by rw [zo,i1],by omega,fun j hj=>by rw [Ju y0 (by omega) hj,i3 j hj]⟩
  · intro t _;exact hend t
theorem Fq {h:il} (q:kB h=true):∀ y,y ∈ h.gc.hZ→0≤y∧y≤9:=by
  unfold kB at q;simp only [PY,nN] at q;intro y hy;obtain ⟨k,hk⟩:=List.getElem?_of_mem hy;have:=q.2.2.2 k y hk;unfold r6 at this;rw [PY,iS] at this;exact this.1
theorem uM {h:il} (q:kB h=true) (hg:h.gc.hZ.length ≠ 0):0≤jm h∧jm h≤9:=Fq q _ (lh (by omega) (by omega))
theorem Kj {g:List Int} (hg:g.length ≠ 0) (hB:g.length<ir):i64.wrap ((g.length:Int) - 1)=((g.length - 1:Nat):Int)∧sub g 0 ((g.length - 1:Nat):Int)=some (g.take (g.length - 1)):=by
  have:g.length<16777216:=hB;exact ⟨by rw [iE (by omega) (by omega)];omega,xG (by omega)⟩
def As (l:List gE):List gE:=l.set 0 (marked (nth l 0) true)
def mF (h:il) (now:Int):Bool:=(h.gc.PL != 0)&&(((nth h.ag h.gc.PL).Pz != 0)&&(jF (nth h.ag h.gc.PL) now || !(nth h.ag h.gc.PL).mark))
def mu (h:il) (now:Int):List gE:=if mF h now then (mK h.ag h.gc.PL).1 else h.ag.set h.gc.PL.toNat (marked (nth h.ag h.gc.PL) false)
def nC (h:il) (now:Int):il×Int :=
  (if h.gc.PL==9 then il.mk (As (mu h now)) (jv.mk 0 0 (if 1000000<i64.wrap (h.gc.PF+1) then 1000000 else i64.wrap (h.gc.PF+1)) [0])
    else il.mk (mu h now) (jv.mk h.gc.PD (h.gc.PL+1) h.gc.PF h.gc.hZ),if mF h now then h.gc.PL else -1)
def kA (h:il) (now:Int):il×Int:=if kB h then (if h.gc.PD==1 then nC h now else (rC h now, -1)) else (h, -1)
theorem yT {h:il} (q:kB h=true):(h.gc.PD=0)∨(h.gc.PD=1∧0≤h.gc.PL∧h.gc.PL≤9):=by
  unfold kB nI at q;simp only [PY,Bool.or_eq_true,beq_iff_eq,iS] at q
  rcases q.2.1 with ⟨h1,_⟩ | ⟨h1,h2,_⟩
  · exact .inl h1
  · exact .inr ⟨h1,h2⟩
theorem CQ (l:List gE) (i:Int):(mK l i).1.length=l.length:=by
  unfold mK;split<;>simp
theorem wU (h:il) (now:Int):(mu h now).length=h.ag.length:=by
  unfold mu;split
  · exact CQ _ _
  · simp
theorem Ok {n:Int} (h0:0≤n) (h9:n≤9):((n+1:Int)==10)=(n==9)∧i64.wrap (n+1)=n+1:=by
  rw [iE (by omega) (by omega)];exact ⟨by rw [Bool.eq_iff_iff];simp;omega,rfl⟩
theorem Oe (t:il):il.mk t.ag (jv.mk t.gc.PD t.gc.PL t.gc.PF t.gc.hZ)=t:=rfl
theorem C4 {o:gE} (h:ja o=true) (hk:(o.Pz==0)=true):marked o false=o:=by
  unfold ja at h;simp only [hk,PV,PY,decide_eq_true_eq] at h;rw [h.2.2];rfl
theorem I3 {N:Nat} (hN:ir≤N) {h:il} (q:kB h=true) (h1:jr iz h.ag<ir) (hw:wA h.ag) (h2:h.gc.hZ.length+20<ir) (now:Int):sA N h now=some (rC h now):=by
  have h2':h.gc.hZ.length<ir:=by omega
  have hB:h.gc.hZ.length<16777216:=h2';have ha:=o6 q;unfold sA rC
  by_cases hg:h.gc.hZ.length=0
  · have:decide (i64.wrap ((h.gc.hZ.length:Int) - 1)<0)=true:=by rw [hg];decide
    rw [this,if_pos hg];rfl
  · obtain ⟨g1,g2⟩:=Kj hg h2';obtain ⟨l0,l9⟩:=uM q hg;obtain ⟨e1,e2⟩:=tx ha (jm h)
    have eg:idx h.gc.hZ ((h.gc.hZ.length - 1:Nat):Int)=some (jm h):=by
      rw [jC (l:=h.gc.hZ) (i:=((h.gc.hZ.length - 1:Nat):Int)) (by omega) (by omega)];unfold jm;rw [show ((h.gc.hZ.length:Int) - 1)=((h.gc.hZ.length - 1:Nat):Int) by omega]
    have hd:decide (((h.gc.hZ.length - 1:Nat):Int)<0)=false:=by simp
    have hgt:decide (jm h > 0)=(jm h != 0):=by
      rw [Bool.eq_iff_iff];simp;omega
    rw [g1,hd,if_neg hg];simp only [PU,eg,g2,(ha.at l0 l9).1,vj,PT,hgt];rw [show (bif jm h != 0 then some (jF (nth h.ag (jm h)) now) else some false:Option Bool)=some ((jm h != 0)&&jF (nth h.ag (jm h)) now) from mj _ _];simp only [PT];cases hc:((jm h != 0)&&jF (nth h.ag (jm h)) now)
    · simp only [PU,Bool.false_eq_true,if_false];rw [GI hN h1 hw ha l0 l9];simp only [PT]
      rw [show ((0:Int),h.ag.set (jm h).toNat (gE.mk (nth h.ag (jm h)).PO (nth h.ag (jm h)).Pz (nth h.ag (jm h)).box (nth h.ag (jm h)).res (nth h.ag (jm h)).iK (nth h.ag (jm h)).bh (nth h.ag (jm h)).PK (nth h.ag (jm h)).iP (nth h.ag (jm h)).iM true (nth h.ag (jm h)).ig (nth h.ag (jm h)).PG (nth h.ag (jm h)).PE),h.gc.PD,h.gc.PL,h.gc.PF,h.gc.hZ.take (h.gc.hZ.length - 1)) =
        ((0:Int),ht (il.mk (h.ag.set (jm h).toNat (marked (nth h.ag (jm h)) true)) (jv.mk h.gc.PD h.gc.PL h.gc.PF (oB h)))) from rfl,
        II hN (l:=h.ag) (now:=now) e1 e2 (h:=il.mk (h.ag.set (jm h).toNat (marked (nth h.ag (jm h)) true)) (jv.mk h.gc.PD h.gc.PL h.gc.PF (oB h))) (by simp [ha.len]) (G:=h.gc.hZ.length) (by unfold oB;simp) h2
          (fun j hj=>by
            simp only;rw [tH l0 (by rw [ha.len];omega) hj];split
            · rename_i e;rw [← e];rfl
            · rfl)]
      · rfl
      · intro k t y hy hk t1 t2 t3 y0 y9;simp only [ht,jy hk,PV,iY,hy,PT,jC (l:=t.ag) y0 (show y<(t.ag.length:Int) by rw [t1];omega),vj,t3 y y0,Oe,AG hN y0 (show y<(t.ag.length:Int) by rw [t1];omega) t2,jB (show k<ir by omega)];unfold kN;cases jF (nth h.ag y) now<;>rfl
      · intro t;simp only [ht,jz,PU]
    · rfl
theorem Ee {N:Nat} (hN:ir≤N) {h:il} (h1:jr iz h.ag<ir) (hw:wA h.ag) (h2:h.gc.hZ.length+20<ir) (now:Int):oU N h now=some (kA h now):=by
  have h2':h.gc.hZ.length<ir:=by omega
  unfold oU kA;simp only [wT hN h1 h2',xJ hN h1 h2' hw,PT];cases q:kB h
  · rfl
  have ha:=o6 q;simp only [PW,PU,if_true]
  rcases yT q with hp | ⟨hp,hr⟩
  · rw [hp];simp only [beq_self_eq_true,PV,I3 hN q h1 hw h2,PT];rfl
  · obtain ⟨e1,e2⟩:=Ok hr.1 hr.2;have hsl:=wU h now;have e0:idx (mu h now) 0=some (nth (mu h now) 0):=jC (by omega) (by rw [hsl,ha.len];decide)
    have hgt:decide (h.gc.PL > 0)=(h.gc.PL != 0):=by rw [Bool.eq_iff_iff];simp;omega
    rw [show (h.gc.PD==0)=false by rw [hp];rfl,show (h.gc.PD==1)=true by rw [hp];rfl];unfold nC;simp only [PU,(ha.at hr.1 hr.2).1,vj,zJ hN h1 hw,PT,hgt,e1,e2]
    rw [show (bif h.gc.PL != 0 then (bif (nth h.ag h.gc.PL).Pz != 0 then (bif !(nth h.ag h.gc.PL).mark then some true else some (jF (nth h.ag h.gc.PL) now)) else some false) else some false:Option Bool)=some (mF h now) by
      unfold mF;rw [lq,mj,mj,Bool.or_comm]]
    simp only [PT]
    have hsw:(bif mF h now then some (h.gc.PL,(mK h.ag h.gc.PL).1) else bif (nth h.ag h.gc.PL).Pz != 0 then some (-1,h.ag.set h.gc.PL.toNat (gE.mk (nth h.ag h.gc.PL).PO (nth h.ag h.gc.PL).Pz (nth h.ag h.gc.PL).box (nth h.ag h.gc.PL).res (nth h.ag h.gc.PL).iK (nth h.ag h.gc.PL).bh (nth h.ag h.gc.PL).PK (nth h.ag h.gc.PL).iP (nth h.ag h.gc.PL).iM false (nth h.ag h.gc.PL).ig (nth h.ag h.gc.PL).PG (nth h.ag h.gc.PL).PE)) else some (-1,h.ag):Option (Int×List gE))=some (if mF h now then h.gc.PL else -1,mu h now):=by
      unfold mu;cases mF h now
      · cases hk:(nth h.ag h.gc.PL).Pz != 0
        · have hk0:((nth h.ag h.gc.PL).Pz==0)=true:=by simpa [bne] using hk
          have hid:h.ag.set h.gc.PL.toNat (marked (nth h.ag h.gc.PL) false)=h.ag:=by
            rw [C4 (ha.ok _ (ha.at hr.1 hr.2).2) hk0];exact oe (jM hr.1 (by rw [ha.len];omega))
          simp [hid]
        · rfl
      · rfl
    rw [hsw];simp only [PT,e0];cases h.gc.PL==9<;>rfl
theorem B8 {α:Type} {f:α→Nat} {z:α}:∀ {l:List α} {k:Nat} {y:α},l[k]?=some y→f z=f y→pe f (l.set k z)=pe f l
  | x::l,0,y,h,e=>by simp at h;subst h;simp [pe,e]
  | x::l,k+1,y,h,e=>by
    simp only [List.set_cons_succ,pe];rw [B8 (l:=l) (k:=k) (y:=y) (by simpa using h) e]
theorem pb {l:List gE} {i:Int} {z:gE} (h0:0≤i) (h1:i<(l.length:Int)) (e:iz z=iz (nth l i)):jr iz (l.set i.toNat z)=jr iz l:=by
  unfold jr;rw [B8 (jM h0 h1) e,List.length_set]
theorem x7 {l:List gE} {now:Int}:∀ (e:List Int) (h:il),(∀ y,y ∈ e→0≤y∧y≤9)→h.ag.length=10→wA h.ag →
    jr iz (e.foldl (kN l now) h).ag=jr iz h.ag∧wA (e.foldl (kN l now) h).ag∧(e.foldl (kN l now) h).gc.hZ.length≤h.gc.hZ.length+e.length
  | [],h,_,_,hw=>⟨rfl,hw,Nat.le_refl _⟩
  | y::e,h,he,hl,hw=>by
    obtain ⟨y0,y9⟩:=he y (by simp)
    have hy:y<(h.ag.length:Int):=by rw [hl];omega
    have key:jr iz (kN l now h y).ag=jr iz h.ag∧wA (kN l now h y).ag∧(kN l now h y).gc.hZ.length≤h.gc.hZ.length+1∧(kN l now h y).ag.length=10:=by
      unfold kN;split
      · exact ⟨rfl,hw,Nat.le_succ _,hl⟩
      · refine ⟨?_,?_,xY h y,by rw [zo,hl]⟩
        · unfold mb;split
          · exact pb y0 hy rfl
          · rfl
        · unfold mb;split
          · exact kR hw (show nn (marked (nth h.ag y) true) from hw (nth h.ag y) (lh y0 hy))
          · exact hw
    obtain ⟨a1,a2,a3⟩:=x7 e (kN l now h y) (fun z hz=>he z (by simp [hz])) key.2.2.2 key.2.1;simp only [List.foldl_cons,List.length_cons];exact ⟨a1.trans key.1,a2,by omega⟩
theorem JY (i:Int) (o:gE):iz (pU i o)=iz o:=by
  unfold pU;split
  · rfl
  · unfold iz;simp
theorem Lo {i:Int} {o:gE} (h:nn o):nn (pU i o):=by
  unfold pU;split
  · exact h
  · exact h
theorem F8 (g:Int):nn (blank g):=by show (-9223372036854775808:Int)≤0;decide
theorem G6 {l:List gE} (hw:wA l) (i:Int):jr iz (mK l i).1≤jr iz l∧wA (mK l i).1:=by
  unfold mK;split
  · refine ⟨?_,fun o ho=>?_⟩
    · show jr iz ((l.set i.toNat (blank (nth l i).PO)).map (pU i))≤_
      rw [GP (JY i)];exact va
    · obtain ⟨y,hy,rfl⟩:=List.mem_map.1 ho;exact Lo (kR hw (F8 _) y hy)
  · exact ⟨Nat.le_refl _,hw⟩
theorem vL {h:il} (hw:wA h.ag) (now:Int):jr iz (kA h now).1.ag≤jr iz h.ag∧wA (kA h now).1.ag∧(kA h now).1.gc.hZ.length≤h.gc.hZ.length+10 ∧
    (decide ((kA h now).2 ≥ 0)=true→Ar h.ag∧0≤(kA h now).2∧(kA h now).2≤9):=by
  unfold kA;split
  · rename_i q;have ha:=o6 q;have hl:=ha.len;split
    · rename_i hp
      have hp:h.gc.PD=1:=by simpa using hp
      have hr:0≤h.gc.PL∧h.gc.PL≤9:=by
        rcases yT q with e | e
        · rw [hp] at e;cases e
        · exact e.2
      have hs:jr iz (mu h now)≤jr iz h.ag∧wA (mu h now):=by
        unfold mu;split
        · exact G6 hw _
        · exact ⟨Nat.le_of_eq (pb hr.1 (by rw [hl];omega) rfl),kR hw (show nn (marked (nth h.ag h.gc.PL) false) from hw (nth h.ag h.gc.PL) (ha.at hr.1 hr.2).2)⟩
      have hsl:=wU h now
      have h0:(0:Int)<((mu h now).length:Int):=by rw [hsl,hl];decide
      refine ⟨?_,?_,?_,fun hd=>⟨ha,?_⟩⟩
      · unfold nC As;simp only;split
        · show jr iz ((mu h now).set (0:Int).toNat _)≤_
          rw [pb (z:=marked (nth (mu h now) 0) true) (Int.le_refl 0) h0 rfl];exact hs.1
        · exact hs.1
      · unfold nC As;simp only;split
        · exact kR hs.2 (show nn (marked (nth (mu h now) 0) true) from hs.2 (nth (mu h now) 0) (lh (Int.le_refl 0) h0))
        · exact hs.2
      · unfold nC;simp only;split
        · simp
        · exact Nat.le_add_right _ _
      · unfold nC at hd ⊢;simp only at hd ⊢;split
        · exact hr
        · rename_i hn;rw [if_neg hn] at hd;simp at hd
    · refine ⟨?_,?_,?_,fun hd=>by simp at hd⟩
      all_goals
        unfold rC
        simp only
        split
        · first | exact Nat.le_refl _ | exact hw | exact Nat.le_add_right _ _
        · rename_i hg
          split
          · first | exact Nat.le_refl _ | exact hw | (unfold oB;simp;omega)
          · obtain ⟨l0,l9⟩:=uM q hg
            obtain ⟨e1,e2⟩:=tx ha (jm h)
            obtain ⟨a1,a2,a3⟩:=x7 (l:=h.ag) (now:=now) (lU h.ag (jm h)) (il.mk (h.ag.set (jm h).toNat (marked (nth h.ag (jm h)) true)) (jv.mk h.gc.PD h.gc.PL h.gc.PF (oB h))) e1 (by simp [hl]) (kR hw (show nn (marked (nth h.ag (jm h)) true) from hw (nth h.ag (jm h)) (ha.at l0 l9).2))
            first
              | exact Nat.le_of_eq (a1.trans (pb l0 (by rw [hl];omega) rfl))
              | exact a2
              | (refine Nat.le_trans a3 ?_
                 unfold oB
                 simp
                 omega)
  · exact ⟨Nat.le_refl _,hw,Nat.le_add_right _ _,fun hd=>by simp at hd⟩
structure yC where
  n:Int
  PC:List im
  py:il
def vW (now:Int) (c:yC):yC :=
  if decide ((kA c.py now).2 ≥ 0) then ⟨i64.wrap (c.n+1),(ma c.PC (nth c.py.ag (kA c.py now).2).res ⟨(nth c.py.ag (kA c.py now).2).bh,0,0⟩).1,(kA c.py now).1⟩
  else ⟨c.n,c.PC,(kA c.py now).1⟩
def BI (now:Int):Nat→yC→yC
  | 0,c=>c
  | k+1,c=>BI now k (vW now c)
def mN (p:cd) (now steps:Int):cd×Int :=
  if iO p&&iA steps 0 100 then
    (cd.mk p.PB p.own (BI now steps.toNat ⟨0,p.PC,p.py⟩).PC (BI now steps.toNat ⟨0,p.PC,p.py⟩).py p.ia p.PJ p.PI p.hY p.ik p.PH,(BI now steps.toNat ⟨0,p.PC,p.py⟩).n)
  else (p,0)
def ct (k:Nat) (c:yC):Int×Int×List im×List gE×Int×Int×Int×List Int:=(c.n,(k:Int),c.PC,c.py.ag,c.py.gc.PD,c.py.gc.PL,c.py.gc.PF,c.py.gc.hZ)
structure K7 (S T G:Nat) (k:Nat) (c:yC):Prop where
  sz:jr iz c.py.ag≤S
  tl:c.PC.length=T
  gl:c.py.gc.hZ.length≤G+10 * k
  w:wA c.py.ag
theorem Hg {S T G k:Nat} {c:yC} (h:K7 S T G k c) (now:Int):K7 S T G (k+1) (vW now c):=by
  obtain ⟨s1,s2,s3,_⟩:=vL h.w now;have a1:=h.sz;have a2:=h.tl;have a3:=h.gl;unfold vW;split
  · exact ⟨by simp only;omega,by simp only;rw [vZ,a2],by simp only;omega,s2⟩
  · exact ⟨by simp only;omega,a2,by simp only;omega,s2⟩
theorem Gl {S T G:Nat} {now:Int}:∀ (j k:Nat) (c:yC),K7 S T G k c→K7 S T G (k+j) (BI now j c)
  | 0,k,c,h=>h
  | j+1,k,c,h=>by
    have:=Gl (now:=now) j (k+1) (vW now c) (Hg h now)
    rwa [show k+1+j=k+(j+1) by omega] at this
theorem Hc {p:cd} (hb:iH p≤3000000) (hw:wP p) (now steps:Int):iH (mN p now steps).1≤iH p+1000∧wP (mN p now steps).1:=by
  unfold mN;split
  · rename_i h;rw [PY,iS] at h;have hI:=Gl (now:=now) steps.toNat 0 ⟨0,p.PC,p.py⟩ (S:=jr iz p.py.ag) (T:=p.PC.length) (G:=p.py.gc.hZ.length) ⟨Nat.le_refl _,rfl,Nat.le_refl _,hw⟩;have a1:=hI.sz;have a2:=hI.tl;have a3:=hI.gl;refine ⟨?_,hI.w⟩;unfold iH nj ui at hb ⊢;simp only;omega
  · exact ⟨Nat.le_add_right _ _,hw⟩
end Go.Kx
namespace Go.Kx
open Go
open Go.IntKind (i64)
set_option linter.unusedVariables false
set_option linter.unusedSimpArgs false
set_option maxRecDepth 10000
theorem BQ {N:Nat} (hN:ir≤N) {w:List cd} (hl:w.length<ir) {F:cd→Option cd} (hF:∀ y,y ∈ w→F y=some y) :
    iter (fun (s8:Int×(List cd))=>(bif (decide (s8.1<(w.length:Int))) then ((idx w s8.1).bind fun y11=>(F y11).bind fun y41=>(app s8.2 [y41]).bind fun y57=>some (.inl (i64.wrap (s8.1+1),y57))) else (some (.inr (s8.1,s8.2))):Option ((Int×(List cd))⊕(Int×(List cd))))) N (0,[])=some ((w.length:Int),w):=by
  have e:∀ (l:List cd) (k:Nat) (acc:List cd),foldI (fun _ (acc:List cd) y=>acc++[y]) k acc l=acc++l:=by
    intro l
    induction l with
    | nil=>intro k acc;simp [foldI]
    | cons y l ih=>intro k acc;unfold foldI;rw [ih];simp
  rw [show ((0:Int),([]:List cd))=(fun (k:Nat) (t:List cd)=>((k:Int),t)) 0 [] from rfl,
    mf w (fun (k:Nat) (t:List cd)=>((k:Int),t)) (fun _ acc y=>acc++[y]) (fun t=>((w.length:Int),t)) (fun k t=>t.length≤k) ?_ ?_ (Nat.lt_of_lt_of_le hl hN) (by simp),e]
  · simp
  · intro k t y hy hk ht;refine ⟨?_,by simp;omega⟩;simp only [jy hk,PV,iY,hy,PT,hF y (List.mem_of_getElem? hy),jB (Nat.lt_trans hk hl),l5 ht (Nat.lt_of_le_of_lt hk hl)]
  · intro t _;simp only [jz,PU]
theorem EB {N:Nat} (hN:ir≤N) {w:iC} (hb:jr iH w.parts<ir):qn N w=some w:=by
  unfold qn;rw [BQ hN (mG hb) fun y hy=>xB hN (jY hb hy)];rfl
theorem JM {N:Nat} (hN:ir≤N) {w:iC} (hb:jr iH w.parts<ir):ti N w=some w:=by
  unfold ti;rw [BQ hN (mG hb) fun y hy=>yq hN (jY hb hy)];rfl
def lB (a:ic) (w:Int):Int:=if w==0 then a.bh else if w==1 then a.ib else if w==2 then a.ij else 0
theorem IP (N:Nat) (a:ic) (w:Int):sI N a w=some (lB a w):=by
  unfold sI lB;cases w==0<;>cases w==1<;>cases w==2<;>rfl
theorem IK (N:Nat) (a:ic) (w:Int):sU N a w=some (lB a w):=by
  unfold sU lB;cases w==0<;>cases w==1<;>cases w==2<;>rfl
def nP (t:iZ) (n:Int):Int:=if t.Pz==1 then (if n<t.mA then n else t.mA) else i64.wrap (Int.tdiv (i64.wrap (t.mA * n)) 100)
def Bo (t:iZ) (a:ic):Int:=if lA t&&iU a then nP t (lB a t.kT) else 0
theorem Ah {t:iZ} {n:Int} (ht:lA t=true) (h0:0≤n) (h1:n≤1000000):0≤nP t n∧nP t n≤n:=by
  unfold lA at ht;simp only [PY,Bool.or_eq_true,iS,beq_iff_eq] at ht;unfold nP
  rcases ht.2 with ⟨hk,r0,r1⟩ | ⟨hk,r0,r1⟩
  · rw [hk];simp only [beq_self_eq_true,if_true];split<;>omega
  · rw [hk,show ((2:Int)==1)=false from rfl];simp only [Bool.false_eq_true,if_false];have m1:0≤t.mA * n:=Int.mul_nonneg r0 h0;have m2:t.mA * n≤100 * n:=Int.mul_le_mul_of_nonneg_right r1 h0;rw [iE (n:=t.mA * n) (by omega) (by omega),Int.tdiv_eq_ediv_of_nonneg m1]
    have d0:0≤t.mA * n / 100:=by omega
    have d1:t.mA * n / 100≤n:=by omega
    rw [iE (by omega) (by omega)];exact ⟨d0,d1⟩
theorem I2 {t:iZ} {a:ic} (ht:lA t=true) (ha:iU a=true):lI (lF t.kT (Bo t a)) a=true:=by
  unfold Bo;rw [ht,ha];simp only [Bool.and_self,if_true];have ht':=ht;unfold lA at ht';simp only [PY,iS] at ht';have ha':=jd.1 ha
  have hw:t.kT=0∨t.kT=1∨t.kT=2:=by omega
  unfold lI;rw [ha]
  rcases hw with e | e | e<;>rw [e]
  · obtain ⟨q0,q1⟩:=Ah ht (n:=lB a 0) ha'.1.1 ha'.1.2;have q2:nP t (lB a 0)≤a.bh:=q1;have:iU (lF 0 (nP t (lB a 0)))=true:=jd.2 (show (0≤nP t (lB a 0)∧nP t (lB a 0)≤1000000)∧(0≤(0:Int)∧(0:Int)≤1000000)∧(0≤(0:Int)∧(0:Int)≤1000000) from ⟨⟨q0,by omega⟩,by decide,by decide⟩);rw [this];simp only [PX,PY,decide_eq_true_eq];exact ⟨q2,ha'.2.1.1,ha'.2.2.1⟩
  · obtain ⟨q0,q1⟩:=Ah ht (n:=lB a 1) ha'.2.1.1 ha'.2.1.2;have q2:nP t (lB a 1)≤a.ib:=q1;have:iU (lF 1 (nP t (lB a 1)))=true:=jd.2 (show (0≤(0:Int)∧(0:Int)≤1000000)∧(0≤nP t (lB a 1)∧nP t (lB a 1)≤1000000)∧(0≤(0:Int)∧(0:Int)≤1000000) from ⟨by decide,⟨q0,by omega⟩,by decide⟩);rw [this];simp only [PX,PY,decide_eq_true_eq];exact ⟨ha'.1.1,q2,ha'.2.2.1⟩
  · obtain ⟨q0,q1⟩:=Ah ht (n:=lB a 2) ha'.2.2.1 ha'.2.2.2;have q2:nP t (lB a 2)≤a.ij:=q1;have:iU (lF 2 (nP t (lB a 2)))=true:=jd.2 (show (0≤(0:Int)∧(0:Int)≤1000000)∧(0≤(0:Int)∧(0:Int)≤1000000)∧(0≤nP t (lB a 2)∧nP t (lB a 2)≤1000000) from ⟨by decide,by decide,⟨q0,by omega⟩⟩);rw [this];simp only [PX,PY,decide_eq_true_eq];exact ⟨ha'.1.1,ha'.2.1.1,q2⟩
def pC (ts:List ky):Bool:=ts.all fun t=>kj t.list
def AU (ts:List ky) (p:Int) (t:iZ):Bool :=
  pC ts&&(!decide ((ts.length:Int) > 3)&&(lA t&&(iA p 0 ((ts.length:Int) - 1)&&(!decide (t.km ≥ (ts.length:Int))&&iW (nth ts p).list t.res))))
def xc (ts:List ky) (p:Int) (t:iZ):Int:=Bo t (nth (nth ts p).list t.res).iI
def mM (ts:List ky) (p:Int) (t:iZ):List ky:=ts.set p.toNat (ky.mk (iX (nth ts p).list t.res (lF t.kT (xc ts p t))).1)
def qS (ts:List ky) (p:Int) (t:iZ):List im×Bool:=ma (nth (mM ts p t) t.km).list t.nu (lF t.kT (xc ts p t))
def vT (ts:List ky) (p:Int) (t:iZ):List ky×Int :=
  if AU ts p t&&(qS ts p t).2 then ((mM ts p t).set t.km.toNat (ky.mk (qS ts p t).1),xc ts p t) else (ts,0)
theorem GN {ts:List ky} {p:Int} (h:pC ts=true) (h0:0≤p) (h1:p<(ts.length:Int)):kj (nth ts p).list=true:=by
  unfold pC at h;rw [List.all_eq_true] at h;exact h _ (lh h0 h1)
theorem xP {ts:List ky} {p:Int} {t:iZ} (h:AU ts p t=true):pC ts=true∧lA t=true∧(0≤p∧p<(ts.length:Int))∧(0≤t.km∧t.km<(ts.length:Int))∧iW (nth ts p).list t.res=true:=by
  unfold AU at h;simp only [PY,Bool.not_eq_true',decide_eq_false_iff_not,iS] at h;obtain ⟨h1,_,h2,h3,h4,h5⟩:=h;have h2':=h2;unfold lA at h2';simp only [PY,iS] at h2';exact ⟨h1,h2,⟨h3.1,by omega⟩,⟨h2'.1.2.1.1,by omega⟩,h5⟩
theorem M0 {ts:List ky} {p:Int} {t:iZ} (h:AU ts p t=true):(iX (nth ts p).list t.res (lF t.kT (xc ts p t))).2=true:=by
  obtain ⟨h1,h2,⟨p0,p1⟩,_,h5⟩:=xP h;have ho:=GN h1 p0 p1;obtain ⟨f0,f4⟩:=kM h5
  have hb:iU (nth (nth ts p).list t.res).iI=true:=by
    have hT:=ho;have hl:=sb ho;unfold kj at hT;simp only [PY] at hT;have hP:=nN.1 hT.2.2.2.1 t.res.toNat _ (jM f0 (by omega))
    have hv:(nth (nth ts p).list t.res).PN=true:=by
      unfold iW at h5;rw [PY] at h5;exact h5.2
    unfold qc at hP;rw [hv,if_pos rfl,PY] at hP;exact hP.1
  unfold iX;rw [ho,h5];simp only [Bool.and_self,if_true];rw [show lI (lF t.kT (xc ts p t)) (nth (nth ts p).list t.res).iI=true from I2 h2 hb];rfl
theorem Dp (ts:List ky) (p:Int) (t:iZ):(mM ts p t).length=ts.length:=by unfold mM;rw [List.length_set]
def lens (ts:List ky):List Nat:=ts.map fun t=>t.list.length
theorem Dq {ts:List ky} {k:Nat} {y:ky} {t:List im} (hy:ts[k]?=some y) (ht:t.length=y.list.length):lens (ts.set k (ky.mk t))=lens ts:=by
  unfold lens;rw [List.map_set]
  show (ts.map fun t=>t.list.length).set k t.length=_
  rw [ht];apply oe;rw [List.getElem?_map,hy];rfl
theorem Dv (ts:List ky) (p:Int) (t:iZ):lens (vT ts p t).1=lens ts:=by
  unfold vT;split
  · rename_i h;rw [PY] at h;obtain ⟨_,_,⟨p0,p1⟩,⟨q0,q1⟩,_⟩:=xP h.1
    show lens ((mM ts p t).set t.km.toNat (ky.mk (qS ts p t).1))=_
    refine (Dq (jM q0 (by rw [Dp];exact q1)) (show (qS ts p t).1.length=_ from vZ _ _ _)).trans ?_;exact Dq (jM p0 p1) (mq _ _ _)
  · rfl
def uP (ts:List ky) (p:Int) (ia:List iZ):List ky:=ia.foldl (fun ts t=>(vT ts p t).1) ts
theorem xa (p:Int):∀ (ia:List iZ) (ts:List ky),lens (uP ts p ia)=lens ts
  | [],_=>rfl
  | t::ia,ts=>(xa p ia (vT ts p t).1).trans (Dv ts p t)
def jQ (w:iC) (p:Int):iC:=if j8 w&&jA w p then iC.mk w.PQ (kg w.parts (kF (uP (m3 w.parts) p (nth w.parts p).ia))) else w
theorem Hm {l:List cd} {p:Int} {ia:List iZ}:(uP (m3 l) p ia).length=l.length:=by
  have:=congrArg List.length (xa p ia (m3 l));unfold lens m3 mL at this;rw [List.length_map,List.length_map,List.length_map,List.length_map] at this;exact this
end Go.Kx
namespace Go.Kx
open Go
open Go.IntKind (i64)
set_option linter.unusedVariables false
set_option linter.unusedSimpArgs false
set_option maxRecDepth 10000
theorem F9 {l:List gE} (h:wA l) (i:Int):nn (nth l i):=by
  unfold nth
  cases e:l[i.toNat]? with
  | none=>show (-9223372036854775808:Int)≤0;decide
  | some o=>exact h o (List.mem_of_getElem? e)
theorem I4 {p:cd} (h:wP p) (now:Int):wP (mX p now):=by
  unfold mX;split
  · show wA (sP p now)
    unfold sP;split
    · exact kR h (F9 h _)
    · exact h
  · exact h
theorem IH {p:cd} (h:wP p) (me now:Int):wP (ng p me now):=by
  unfold ng;split
  · intro o ho;obtain ⟨x,hx,rfl⟩:=List.mem_map.1 (show o ∈ p.py.ag.map _ from ho);split
    · show (-9223372036854775808:Int)≤0;decide
    · exact h x hx
  · exact h
theorem N8 {p:cd} (h:wP p) (now:Int):wP (mZ p now).1:=by
  unfold mZ;split
  · split
    · exact h
    · exact kR h (F9 h (kq p now))
  · exact h
def tM (p:cd) (i now:Int):cd:=(mN (ng (mX p now) i now) now 3).1
def mT (n:Nat) (p:cd) (i now:Int):cd:=bif Int.tmod now (n:Int)==i then (mZ (tM p i now) now).1 else tM p i now
def zZ (n:Nat) (k:Nat) (w:iC):iC:=iC.mk (jQ w (k:Int)).PQ ((jQ w (k:Int)).parts.set k (mT n (nth (jQ w (k:Int)).parts (k:Int)) (k:Int) (jQ w (k:Int)).PQ))
theorem HT {p:cd} {b:Nat} (hb:iH p≤b) (h2:b≤2000000) (hw:wP p) (i now:Int):iH (tM p i now)≤b+1200∧wP (tM p i now):=by
  have h1:=LR p now;have h3:=Mz (mX p now) i now;obtain ⟨a,c⟩:=Hc (p:=ng (mX p now) i now) (by omega) (IH (I4 hw now) i now) now 3;exact ⟨by show iH (mN (ng (mX p now) i now) now 3).1≤_;omega,c⟩
theorem zE {n:Nat} {p:cd} {b:Nat} (hb:iH p≤b) (h2:b≤2000000) (hw:wP p) (i now:Int):iH (mT n p i now)≤b+1300∧wP (mT n p i now):=by
  obtain ⟨a,c⟩:=HT hb h2 hw i now;unfold mT;cases Int.tmod now (n:Int)==i
  · exact ⟨by simp only [PU];omega,c⟩
  · have:=Jl (tM p i now) now;exact ⟨by simp only [PV];omega,N8 c now⟩
theorem Ex:∀ {l:List cd} {ts:List (List im)},ts.map List.length=(mL l).map List.length→(kg l ts).length=l.length∧∀ q,q ∈ kg l ts→∃ p,p ∈ l∧iH q=iH p∧q.py=p.py
  | [],[],_=>⟨rfl,fun _ h=>absurd h (by simp [kg])⟩
  | [],_::_,h=>by simp [mL] at h
  | _::_,[],h=>by simp [mL] at h
  | p::l,t::ts,h=>by
    simp only [mL,List.map_cons,List.cons.injEq] at h;obtain ⟨i1,i2⟩:=Ex (l:=l) (ts:=ts) h.2;refine ⟨by show (oM p t::kg l ts).length=_;simp [i1],fun q hq=>?_⟩
    rcases List.mem_cons.1 (show q ∈ oM p t::kg l ts from hq) with rfl | hq
    · exact ⟨p,List.mem_cons_self,by unfold iH oM;simp only [h.1],rfl⟩
    · obtain ⟨y,hy,e⟩:=i2 q hq;exact ⟨y,List.mem_cons_of_mem _ hy,e⟩
theorem JD (w:iC) (p:Int):(jQ w p).PQ=w.PQ∧(jQ w p).parts.length=w.parts.length∧∀ q,q ∈ (jQ w p).parts→∃ p,p ∈ w.parts∧iH q=iH p∧q.py=p.py:=by
  unfold jQ;split
  · refine ⟨rfl,Ex ?_⟩;have h:(uP (m3 w.parts) p (nth w.parts p).ia).map (fun t=>t.list.length)=(m3 w.parts).map (fun t=>t.list.length):=xa p (nth w.parts p).ia (m3 w.parts);unfold kF;rw [List.map_map];refine Eq.trans (show _=(uP (m3 w.parts) p (nth w.parts p).ia).map (fun t=>t.list.length) from rfl) (h.trans ?_);unfold m3;rw [List.map_map];rfl
  · exact ⟨rfl,rfl,fun q hq=>⟨q,hq,rfl,rfl⟩⟩
structure zL (n:Nat) (k:Nat) (t:iC):Prop where
  len:t.parts.length=n
  small:n≤3
  sz:∀ p,p ∈ t.parts→iH p≤1048576+1300 * k∧wP p
theorem zL.oy {n k:Nat} {t:iC} (h:zL n k t) (hk:k≤3):jr iH t.parts<ir:=by
  have hB:(16777216:Nat)=ir:=rfl;have h1:pe iH t.parts≤(1048576+1300 * 3) * t.parts.length:=ve fun y hy=>Nat.le_trans (h.sz y hy).1 (by omega);have h2:=h.len;have h3:=h.small;have h4:(1048576+1300 * 3) * t.parts.length≤(1048576+1300 * 3) * 3:=Nat.mul_le_mul_left _ (by omega);unfold jr;omega
theorem zL.w {n k:Nat} {t:iC} (h:zL n k t):wW t.parts:=fun p hp=>(h.sz p hp).2
theorem zL.ia {n k:Nat} {t:iC} (h:zL n k t) (p:Int):zL n k (jQ t p):=by
  obtain ⟨_,h2,h3⟩:=JD t p;refine ⟨h2.trans h.len,h.small,fun q hq=>?_⟩;obtain ⟨y,hy,e1,e2⟩:=h3 q hq;obtain ⟨a,b⟩:=h.sz y hy;exact ⟨by omega,by unfold wP at *;rw [e2];exact b⟩
theorem zL.step {n k:Nat} {t:iC} (h:zL n k t) (hk:k<n):zL n (k+1) (zZ n k t):=by
  have hT:=h.ia (k:Int);have hs:=hT.small;refine ⟨by show ((jQ t (k:Int)).parts.set k _).length=n;rw [List.length_set];exact hT.len,hT.small,fun q hq=>?_⟩
  rcases List.mem_or_eq_of_mem_set (show q ∈ (jQ t (k:Int)).parts.set k _ from hq) with h1 | h1
  · obtain ⟨a,b⟩:=hT.sz q h1;exact ⟨by omega,b⟩
  · subst h1;have hl:=hT.len;obtain ⟨a,b⟩:=hT.sz _ (lh (l:=(jQ t (k:Int)).parts) (i:=(k:Int)) (by omega) (by omega));obtain ⟨c,d⟩:=zE (n:=n) a (by omega) b (k:Int) (jQ t (k:Int)).PQ;exact ⟨by omega,d⟩
end Go.Kx
namespace Go.Kx
open Go
open Go.IntKind (i64)
set_option linter.unusedVariables false
set_option linter.unusedSimpArgs false
set_option maxRecDepth 10000
theorem Nc {t:List im} {f:Int} {a:ic} (h:(iX t f a).2=false):(iX t f a).1=t:=by
  unfold iX at h ⊢;split
  · rename_i q;rw [if_pos q] at h;split
    · rename_i q2;rw [if_pos q2] at h;cases h
    · rfl
  · rfl
theorem tC {t:List im} {f:Int} {a:ic} (h:(iX t f a).2=true):kj t=true∧iW t f=true:=by
  unfold iX at h;split at h
  · rename_i q;simpa using q
  · cases h
theorem Dn (t:List im) (f:Int) (a:ic):(iX t f a).1.map im.PN=t.map im.PN:=by
  unfold iX;split
  · rename_i q;simp only [PY] at q;obtain ⟨f0,f4⟩:=kM q.2;have hl:=sb q.1;split
    · rw [List.map_set];refine oe ?_;rw [List.getElem?_map,jM f0 (by omega)];rfl
    · rfl
  · rfl
def um:Nat→List Bool→Option Nat
  | _,[]=>none
  | k,b::l=>if b then um (k+1) l else some k
theorem Gh {ρ:Type} (g:Nat→ρ) (r:ρ):∀ (l:List im) (k:Nat),m7 (fun k (_:Unit) (y:im)=>if y.PN then .inl () else .inr (g k)) (fun _=>r) k () l=(match um k (l.map im.PN) with | none=>r | some k=>g k)
  | [],k=>rfl
  | y::l,k=>by
    unfold m7;simp only [List.map_cons,um];cases y.PN
    · rfl
    · exact Gh g r l (k+1)
theorem D7 {ρ:Type} {N:Nat} (hN:ir≤N) {x:List im} (hx:x.length<ir) (g:Nat→ρ) (r:ρ) {body:Int→Option (Int⊕ρ)}
    (hs:∀ (k:Nat) (y:im),x[k]?=some y→k<x.length→body (k:Int)=some (if y.PN then .inl ((k+1:Nat):Int) else .inr (g k))) (he:body (x.length:Int)=some (.inr r)) :
    iter body N 0=some (match um 0 (x.map im.PN) with | none=>r | some k=>g k):=by
  rw [show (0:Int)=(fun (k:Nat) (_:Unit)=>(k:Int)) 0 () from rfl,
    n8 x (fun (k:Nat) (_:Unit)=>(k:Int)) (fun k _ y=>if y.PN then .inl () else .inr (g k)) (fun _=>r) (fun _ _=>True) ?_ ?_ (Nat.lt_of_lt_of_le hx hN) trivial,Gh]
  · intro k _ y hy hk _;refine ⟨?_,fun _ _=>trivial⟩
    show body (k:Int)=_
    rw [hs k y hy hk];cases y.PN<;>rfl
  · intro _ _;exact he
def k6 (t:List im) (f:Int) (a:ic):List im×Int×Bool :=
  if (iX t f a).2 then (match um 0 (t.map im.PN) with | none=>(t,0,false) | some k=>((iX t f a).1.set k (im.mk true f a),(k:Int),true)) else (t,0,false)
theorem yb (t:List im) (f:Int) (a:ic):(k6 t f a).1.length=t.length:=by
  unfold k6;split
  · split
    · rfl
    · simp only [List.length_set,mq]
  · rfl
theorem FD {N:Nat} (hN:ir≤N) {t:List im} (hB:t.length<ir) (f:Int) (a:ic):qt N t f a=some (k6 t f a):=by
  unfold qt k6;simp only [yh hN hB,PT];cases h:(iX t f a).2
  · simp only [Bool.not_false,PV,Nc h,Bool.false_eq_true,if_false]
  simp only [PW,PU,if_true];rw [D7 hN hB (fun k=>Sum.inr ((iX t f a).1.set k (im.mk true f a),(k:Int),true)) (Sum.inl (t.length:Int))]
  · simp only [PT];cases um 0 (t.map im.PN)
    · simp only [Sum.elim_inl,qe hB,PT]
    · rfl
  · intro k y hy hk;have hp:=mq t f a;simp only [jy hk,PV,iY,hy,PT,jB (Nat.lt_trans hk hB),Int.toNat_natCast];cases y.PN
    · have:((iX t f a).1[k]?)=some ((iX t f a).1[k]'(by omega)):=List.getElem?_eq_getElem (by omega);simp only [this,Bool.not_false,PV,PT,Bool.false_eq_true,if_false]
    · simp only [PW,PU,if_true]
  · simp only [jz,PU]
theorem zN {N:Nat} (hN:ir≤N) {t:List im} (hB:t.length<ir) (f:Int) (a:ic):oK N t f a=some (k6 t f a):=by
  unfold oK k6;simp only [w5 hN hB,PT];cases h:(iX t f a).2
  · simp only [Bool.not_false,PV,rJ hB,PT,Bool.false_eq_true,if_false]
  have hp:=mq t f a;simp only [PW,PU,if_true];rw [D7 (x:=(iX t f a).1) hN (by omega) (fun k=>Sum.inr ((iX t f a).1.set k (im.mk true f a),(k:Int),true)) (Sum.inl ((iX t f a).1.length:Int)),Dn]
  · simp only [PT];cases um 0 (t.map im.PN)
    · simp only [Sum.elim_inl,rJ hB,PT]
    · rfl
  · intro k y hy hk;simp only [jy hk,PV,iY,hy,PT,jB (show k<ir by omega),Int.toNat_natCast];cases y.PN<;>rfl
  · simp only [jz,PU]
def l6 (t:List im) (f g:Int) (a:ic):List im×Bool:=if (iX t f a).2&&iW t g then ma (iX t f a).1 g a else (t,false)
theorem Du (t:List im) (f g:Int) (a:ic):(l6 t f g a).1.length=t.length:=by
  unfold l6;split
  · rw [vZ,mq]
  · rfl
theorem HQ {N:Nat} (hN:ir≤N) {t:List im} (hB:t.length<ir) (f g:Int) (a:ic):rX N t f g a=some (l6 t f g a):=by
  unfold rX l6;have hp:=mq t f a;simp only [yh hN hB,PT];cases h:(iX t f a).2
  · simp only [Bool.not_false,PV,qe hB,PT,Bool.false_and,Bool.false_eq_true,if_false]
  have hl:=sb (tC h).1;simp only [PW,PU,tz N hl,PT,PX];cases iW t g
  · simp only [Bool.not_false,PV,qe hB,PT,Bool.false_eq_true,if_false]
  · simp only [PW,PU,if_true,HC hN (show (iX t f a).1.length<ir by omega),PT]
theorem G8 {N:Nat} (hN:ir≤N) {t:List im} (hB:t.length<ir) (f g:Int) (a:ic):rL N t f g a=some (l6 t f g a):=by
  unfold rL l6;have hp:=mq t f a;simp only [vd hN,w5 hN hB,PT];cases h:(iX t f a).2
  · cases kj t&&iW t g<;>simp only [Bool.not_false,PW,PV,PU,rJ hB,PT,Bool.false_and,Bool.false_eq_true,if_false]
  rw [(tC h).1];simp only [PX];cases iW t g
  · simp only [Bool.not_false,PV,rJ hB,PT,Bool.false_eq_true,if_false]
  · simp only [PW,PU,if_true,G9 hN (show (iX t f a).1.length<ir by omega),PT]
theorem Iw {t:List im} (h:Tr t) {i:Int} (hv:iW t i=true) (hi:i ≠ 0):0≤up t i∧up t i≤4∧up t i ≠ i∧(nth t (up t i)).PN=true:=by
  obtain ⟨i0,i4⟩:=kM hv;have hl:=h.len;have hg:=jM (l:=t) i0 (by omega)
  have hlv:(nth t i).PN=true:=by
    unfold iW at hv;simp only [PY] at hv;exact hv.2
  have h1:=h.lead i.toNat (nth t i) hg hlv;rw [show ((i.toNat:Nat):Int)=i by omega] at h1
  have hne:up t i ≠ i:=fun q=>by rw [Ag hi q] at h1;cases h1
  have h2:leads t 4 (up t i)=true:=by
    unfold leads at h1;simpa [hi,hv] using h1
  by_cases hu:up t i=0
  · rw [hu];exact ⟨by omega,by omega,fun q=>hi q.symm,h.rl⟩
  · unfold leads at h2
    have h3:iW t (up t i)=true:=by
      cases q:iW t (up t i)
      · simp [hu,q] at h2
      · rfl
    obtain ⟨a,b⟩:=kM h3;unfold iW at h3;simp only [PY] at h3;exact ⟨a,b,hne,h3.2⟩
def vH (s:ic) (B:Int):Prop:=(0≤s.bh∧s.bh≤B)∧(0≤s.ib∧s.ib≤B)∧(0≤s.ij∧s.ij≤B)
theorem yJ {s a:ic} {B:Int} (hs:vH s B) (ha:iU a=true) (hB:B≤1000000000):(iV s a).bh=s.bh+a.bh∧(iV s a).ib=s.ib+a.ib∧(iV s a).ij=s.ij+a.ij∧vH (iV s a) (B+1000000):=by
  have h:=jd.1 ha;unfold vH at hs;have w1:(iV s a).bh=s.bh+a.bh:=iE (by omega) (by omega);have w2:(iV s a).ib=s.ib+a.ib:=iE (by omega) (by omega);have w3:(iV s a).ij=s.ij+a.ij:=iE (by omega) (by omega);exact ⟨w1,w2,w3,⟨by omega,by omega⟩,⟨by omega,by omega⟩,⟨by omega,by omega⟩⟩
theorem Ab:∀ (t:List im) (s:ic) (B:Int),(∀ r,r ∈ t→iU r.iI=true)→0≤B→B+1000000 * (t.length:Int)≤1000000000→vH s B→∀ (k:Nat) (r:im),t[k]?=some r→r.PN=true →
    s.bh+r.iI.bh≤(ju s t).bh∧s.ib+r.iI.ib≤(ju s t).ib∧s.ij+r.iI.ij≤(ju s t).ij
  | [],s,B,_,_,_,_,k,r,hr,_=>by simp at hr
  | x::t,s,B,h,hB,hL,hs,k,r,hr,hv=>by
    have hx:=h x (by simp);simp only [List.length_cons] at hL;obtain ⟨w1,w2,w3,w4⟩:=yJ hs hx (by omega);have hx':=jd.1 hx;have e:ju s (x::t)=ju (if x.PN then iV s x.iI else s) t:=rfl;rw [e];have ht:∀ r,r ∈ t→iU r.iI=true:=fun r hr=>h r (by simp [hr])
    match k with
    | 0 =>
      simp only [List.getElem?_cons_zero,Option.some.injEq] at hr;subst hr;rw [if_pos hv];obtain ⟨⟨a1,a2,a3⟩,_⟩:=sf t (iV s x.iI) (B+1000000) ht (by omega) (by omega) w4.1 w4.2.1 w4.2.2;exact ⟨by omega,by omega,by omega⟩
    | k+1 =>
      rw [List.getElem?_cons_succ] at hr;cases hxl:x.PN
      · exact Ab t s B ht hB (by omega) hs k r hr hv
      · obtain ⟨a1,a2,a3⟩:=Ab t (iV s x.iI) (B+1000000) ht (by omega) (by omega) w4 k r hr hv;rw [if_pos rfl];exact ⟨by omega,by omega,by omega⟩
theorem xA:∀ (t:List im) (s:ic) (B:Int),(∀ r,r ∈ t→iU r.iI=true)→0≤B→B+1000000 * (t.length:Int)≤1000000000→vH s B→∀ (k j:Nat) (r q:im),k<j→t[k]?=some r→r.PN=true→t[j]?=some q→q.PN=true →
    r.iI.bh+q.iI.bh≤(ju s t).bh∧r.iI.ib+q.iI.ib≤(ju s t).ib∧r.iI.ij+q.iI.ij≤(ju s t).ij
  | [],s,B,_,_,_,_,k,j,r,q,_,hr,_,_,_=>by simp at hr
  | x::t,s,B,h,hB,hL,hs,k,j,r,q,hkj,hr,hv,hq,hw=>by
    have hx:=h x (by simp);simp only [List.length_cons] at hL;obtain ⟨w1,w2,w3,w4⟩:=yJ hs hx (by omega);have e:ju s (x::t)=ju (if x.PN then iV s x.iI else s) t:=rfl;rw [e];have ht:∀ r,r ∈ t→iU r.iI=true:=fun r hr=>h r (by simp [hr]);unfold vH at hs
    match k,j,hkj with
    | 0,j+1,_ =>
      simp only [List.getElem?_cons_zero,Option.some.injEq] at hr;subst hr;rw [List.getElem?_cons_succ] at hq;rw [if_pos hv];obtain ⟨a1,a2,a3⟩:=Ab t (iV s x.iI) (B+1000000) ht (by omega) (by omega) w4 j q hq hw;exact ⟨by omega,by omega,by omega⟩
    | k+1,j+1,hkj =>
      rw [List.getElem?_cons_succ] at hr hq;cases hxl:x.PN
      · exact xA t s B ht hB (by omega) hs k j r q (by omega) hr hv hq hw
      · rw [if_pos rfl];exact xA t (iV s x.iI) (B+1000000) ht (by omega) (by omega) w4 k j r q (by omega) hr hv hq hw
theorem Gx {t:List im} (h:Tr t) {u i:Int} (hu:0≤u∧u≤4) (hi:0≤i∧i≤4) (hne:u ≠ i) (h1:(nth t u).PN=true) (h2:(nth t i).PN=true):kv (nth t u).iI (nth t i).iI=(iV (nth t u).iI (nth t i).iI,true):=by
  have hl:=h.len
  have z:vH ⟨0,0,0⟩ 0:=by unfold vH;decide
  have hS:=jd.1 h.sum;have gu:=jM (l:=t) (i:=u) hu.1 (by omega);have gi:=jM (l:=t) (i:=i) hi.1 (by omega);have bu:=h.iI _ (List.mem_of_getElem? gu);have bi:=h.iI _ (List.mem_of_getElem? gi);have bu':=jd.1 bu;have bi':=jd.1 bi
  have key:(nth t u).iI.bh+(nth t i).iI.bh≤(ju ⟨0,0,0⟩ t).bh∧(nth t u).iI.ib+(nth t i).iI.ib≤(ju ⟨0,0,0⟩ t).ib∧(nth t u).iI.ij+(nth t i).iI.ij≤(ju ⟨0,0,0⟩ t).ij:=by
    rcases Int.lt_or_gt_of_ne hne with q | q
    · exact xA t ⟨0,0,0⟩ 0 h.iI (by omega) (by omega) z u.toNat i.toNat _ _ (by omega) gu h1 gi h2
    · obtain ⟨a,b,c⟩:=xA t ⟨0,0,0⟩ 0 h.iI (by omega) (by omega) z i.toNat u.toNat _ _ (by omega) gi h2 gu h1;exact ⟨by omega,by omega,by omega⟩
  have v1:(iV (nth t u).iI (nth t i).iI).bh=(nth t u).iI.bh+(nth t i).iI.bh:=iE (by omega) (by omega);have v2:(iV (nth t u).iI (nth t i).iI).ib=(nth t u).iI.ib+(nth t i).iI.ib:=iE (by omega) (by omega);have v3:(iV (nth t u).iI (nth t i).iI).ij=(nth t u).iI.ij+(nth t i).iI.ij:=iE (by omega) (by omega);have:iU (iV (nth t u).iI (nth t i).iI)=true:=jd.2 ⟨by omega,by omega,by omega⟩;unfold kv;rw [bu,bi,this];rfl
def l8 (i u:Int) (r:im):im:=if r.PN&&(r.PM==i) then im.mk r.PN u r.iI else r
def dropped (t:List im) (i:Int):List im:=(t.set (up t i).toNat (mg (nth t (up t i)) (iV (nth t (up t i)).iI (nth t i).iI))).set i.toNat oo
def l7 (t:List im) (i:Int):List im×Bool:=if (kj t&&iW t i)&&(i != 0) then ((dropped t i).map (l8 i (up t i)),true) else (t,false)
theorem yo (t:List im) (i:Int):(l7 t i).1.length=t.length:=by
  unfold l7 dropped;split<;>simp
theorem Ap {N:Nat} (hN:ir≤N) {t:List im} (hB:t.length<ir) (i:Int):pN N t i=some (l7 t i):=by
  unfold pN l7;simp only [rJ hB,vd hN,PT,lq];cases h:(kj t&&iW t i)
  · rfl
  simp only [PY] at h;have hT:=jG.1 h.1;have hl:=hT.len;cases hi:(i==0)
  case true=>simp only [PW,Bool.or_true,PV,PX,bne,hi,Bool.false_eq_true,if_false]
  have hi':i ≠ 0:=by simpa using hi
  obtain ⟨i0,i4⟩:=kM h.2;obtain ⟨u0,u4,une,ulv⟩:=Iw hT h.2 hi'
  have ilv:(nth t i).PN=true:=by
    have:=h.2;unfold iW at this;simp only [PY] at this;exact this.2
  have eu:idx t (nth t i).PM=some (nth t (up t i)):=jC (i:=up t i) u0 (by omega);have ff:=Gx hT ⟨u0,u4⟩ ⟨i0,i4⟩ une ulv ilv;have e2:∀ z,idx (t.set (nth t i).PM.toNat z) i=some (nth (t.set (nth t i).PM.toNat z) i):=fun z=>jC i0 (by simp only [List.length_set];omega);simp only [PW,Bool.or_false,PU,jC (l:=t) i0 (by omega),eu,wI,ff,PT,e2,bne,hi,Bool.not_false,Bool.and_self,if_true];rw [show (((t.set (nth t i).PM.toNat (im.mk (nth t (up t i)).PN (nth t (up t i)).PM (ic.mk (iV (nth t (up t i)).iI (nth t i).iI).bh (iV (nth t (up t i)).iI (nth t i).iI).ib (iV (nth t (up t i)).iI (nth t i).iI).ij))).set i.toNat (im.mk false 0 (ic.mk 0 0 0))))=dropped t i from rfl];rw [z4 (dropped t i) (l8 i (up t i)) (show (dropped t i).length<N by unfold dropped;simp only [List.length_set];omega)]
  · rfl
  · intro k x y hx hty _ hk
    have hk':k<x.length:=by omega
    have hk2:k<t.length:=by unfold dropped at hk;simp only [List.length_set] at hk;omega
    simp only [jy hk',PV,iY,hty,PT,mj,jB (show k<ir by omega),Int.toNat_natCast];unfold l8;cases (y.PN&&(y.PM==i))
    · simp only [PU,Bool.false_eq_true,if_false,oe hty]
    · simp only [PV,if_true];rfl
  · intro x hx;rw [← hx];simp only [jz,PU]
theorem HI {N:Nat} (hN:ir≤N) {t:List im} (hB:t.length<ir) (i:Int):rU N t i=some (l7 t i):=by
  unfold rU l7;simp only [qe hB,vb hN,PT];cases ht:kj t
  · rfl
  have hT:=jG.1 ht;have hl:=hT.len;cases hi:(i==0)
  case true=>simp only [PW,PU,PV,PT,PX,bne,hi,Bool.and_false,Bool.false_eq_true,if_false]
  have hi':i ≠ 0:=by simpa using hi
  simp only [PW,PU,tz N hl,PT];cases hv:iW t i
  · rfl
  obtain ⟨i0,i4⟩:=kM hv;obtain ⟨u0,u4,une,ulv⟩:=Iw hT hv hi';have eu:idx t (nth t i).PM=some (nth t (up t i)):=jC (i:=up t i) u0 (by omega);have e2:∀ z,idx (t.set (nth t i).PM.toNat z) i=some (nth (t.set (nth t i).PM.toNat z) i):=fun z=>jC i0 (by simp only [List.length_set];omega);simp only [PW,PU,jC (l:=t) i0 (by omega),eu,uU,PT,e2,bne,hi,Bool.not_false,Bool.and_self,if_true];rw [show (((t.set (nth t i).PM.toNat (im.mk (nth t (up t i)).PN (nth t (up t i)).PM (iV (nth t (up t i)).iI (nth t i).iI))).set i.toNat (im.mk false 0 (ic.mk 0 0 0))))=dropped t i from rfl];rw [z4 (dropped t i) (l8 i (up t i)) (show (dropped t i).length<N by unfold dropped;simp only [List.length_set];omega)]
  · rfl
  · intro k x y hx hty _ hk
    have hk':k<t.length:=by unfold dropped at hk;simp only [List.length_set] at hk;omega
    simp only [jy hk',PV,iY,hty,PT,mj,jB (show k<ir by omega),Int.toNat_natCast];unfold l8;cases (y.PN&&(y.PM==i))
    · simp only [PU,Bool.false_eq_true,if_false,oe hty]
    · simp only [PV,if_true];rfl
  · intro x hx;rw [show (dropped t i).length=t.length by unfold dropped;simp only [List.length_set]];simp only [jz,PU]
end Go.Kx
