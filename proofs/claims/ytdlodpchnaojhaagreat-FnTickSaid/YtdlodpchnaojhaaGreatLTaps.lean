/- Plain laws: taps. No program in sight. -/
import Derived.Test.YtdlodpchnaojhaaGreatLHandle
import Derived.Test.YtdlodpchnaojhaaGreatLCollect
namespace Go.Kx
open Go
set_option linter.unusedVariables false
set_option linter.unusedSimpArgs false
set_option maxRecDepth 10000
theorem G9 {N:Nat} (hN:im≤N) {w:List dW} (hl:w.length<im) {F:dW→Option dW} (hF:∀ y,y ∈ w→F y=some y) :
    iter (fun (s8:Int×(List dW))=>(bif (decide (s8.1<(w.length:Int))) then ((idx w s8.1).bind fun y11=>(F y11).bind fun y41=>(app s8.2 [y41]).bind fun y57=>some (.inl (IntKind.i64.wrap (s8.1+1),y57))) else (some (.inr (s8.1,s8.2))):Option ((Int×(List dW))⊕(Int×(List dW))))) N (0,[])=some ((w.length:Int),w):=by
  have e:∀ (l:List dW) (k:Nat) (acc:List dW),foldI (fun _ (acc:List dW) y=>acc++[y]) k acc l=acc++l:=by
    intro l
    induction l with
    | nil=>intro k acc;simp [foldI]
    | cons y l ih=>intro k acc;unfold foldI;rw [ih];simp
  rw [show ((0:Int),([]:List dW))=(fun (k:Nat) (t:List dW)=>((k:Int),t)) 0 [] from rfl,
    kK w (fun (k:Nat) (t:List dW)=>((k:Int),t)) (fun _ acc y=>acc++[y]) (fun t=>((w.length:Int),t)) (fun k t=>t.length≤k) ?_ ?_ (Nat.lt_of_lt_of_le hl hN) (by simp),e]
  · simp
  · intro k t y hy hk ht
    refine ⟨?_,by simp;omega⟩
    simp only [jh hk,cond_true,iO,hy,Option.bind_some,hF y (List.mem_of_getElem? hy),jm (Nat.lt_trans hk hl),lj ht (Nat.lt_of_le_of_lt hk hl)]
  · intro t _
    simp only [jg,cond_false]
theorem yC {N:Nat} (hN:im≤N) {w:iN} (hb:jo iG w.parts<im):nL N w=some w:=by
  unfold nL
  rw [G9 hN (lD hb) fun y hy=>sO hN (lO hb hy)];rfl
theorem FP {N:Nat} (hN:im≤N) {w:List iZ} (hl:w.length<im) {F:List ir→Option (List ir)} (hF:∀ y,y ∈ w→F y.list=some y.list) :
    iter (fun (s4:(List iZ)×Int)=>(bif (decide (s4.2<(w.length:Int))) then ((idx w s4.2).bind fun y7=>(F y7.list).bind fun y22=>(app s4.1 [iZ.mk y22]).bind fun y26=>some (.inl (y26,IntKind.i64.wrap (s4.2+1)))) else (some (.inr (s4.1,s4.2))):Option (((List iZ)×Int)⊕((List iZ)×Int)))) N ([],0)=some (w,(w.length:Int)):=by
  rw [oQ w (fun _ _=>true) (fun _ y=>y) hl hN]
  · rw [qA (fun _=>true) w 0];simp
  · intro k t y hy hk ht
    simp only [jh hk,cond_true,iO,hy,Option.bind_some,hF y (List.mem_of_getElem? hy),jm (Nat.lt_trans hk hl),lj ht (Nat.lt_of_le_of_lt hk hl),if_true]
  · intro t
    simp only [jg,cond_false]
def qm (ts:List iZ):Prop:=ts.length<im∧∀ t,t ∈ ts→t.list.length<im
theorem DM {N:Nat} (hN:im≤N) {ts:List iZ} (h:qm ts):nG N ts=some ts:=by
  unfold nG
  rw [FP hN h.1 fun y hy=>uK (h.2 y hy)];rfl
def k5 (a:ig) (w:Int):Int:=if w==0 then a.bh else if w==1 then a.ib else if w==2 then a.ik else 0
theorem Gf (N:Nat) (a:ig) (w:Int):sb N a w=some (k5 a w):=by
  unfold sb k5
  cases w==0 <;> cases w==1 <;> cases w==2 <;> rfl
theorem GZ (N:Nat) (a:ig) (w:Int):sd N a w=some (k5 a w):=by
  unfold sd k5
  cases w==0 <;> cases w==1 <;> cases w==2 <;> rfl
def mN (t:jw) (n:Int):Int:=if t.kind==1 then (if n<t.lk then n else t.lk) else IntKind.i64.wrap (Int.tdiv (IntKind.i64.wrap (t.lk * n)) 100)
def uL (t:jw) (a:ig):Int:=if mE t&&iY a then mN t (k5 a t.kp) else 0
theorem Gi (N:Nat) (t:jw) (a:ig):rY N t a=some (uL t a):=by
  unfold rY uL mN
  simp only [Ak,su,Option.bind_some,lN,Gf]
  cases mE t
  · rfl
  cases iY a
  · rfl
  cases t.kind==1 <;> rfl
theorem yV {t:jw} {n:Int} (ht:mE t=true) (h0:0≤n) (h1:n≤1000000):0≤mN t n∧mN t n≤n:=by
  unfold mE at ht
  simp only [Bool.and_eq_true,Bool.or_eq_true,i7,beq_iff_eq] at ht
  unfold mN
  rcases ht.2 with ⟨hk,r0,r1⟩ | ⟨hk,r0,r1⟩
  · rw [hk]
    simp only [beq_self_eq_true,if_true]
    split <;> omega
  · rw [hk,show ((2:Int)==1)=false from rfl]
    simp only [Bool.false_eq_true,if_false]
    have m1:0≤t.lk * n:=Int.mul_nonneg r0 h0
    have m2:t.lk * n≤100 * n:=Int.mul_le_mul_of_nonneg_right r1 h0
    rw [iI (n:=t.lk * n) (by omega) (by omega),Int.tdiv_eq_ediv_of_nonneg m1]
    have d0:0≤t.lk * n / 100:=by omega
    have d1:t.lk * n / 100≤n:=by omega
    rw [iI (by omega) (by omega)]
    exact ⟨d0,d1⟩
theorem FN {t:jw} {a:ig} (ht:mE t=true) (ha:iY a=true):ll (lu t.kp (uL t a)) a=true:=by
  unfold uL
  rw [ht,ha]
  simp only [Bool.and_self,if_true]
  have ht':=ht
  unfold mE at ht'
  simp only [Bool.and_eq_true,i7] at ht'
  have ha':=jk.1 ha
  have hw:t.kp=0∨t.kp=1∨t.kp=2:=by omega
  unfold ll
  rw [ha]
  rcases hw with e | e | e <;> rw [e]
  · obtain ⟨q0,q1⟩:=yV ht (n:=k5 a 0) ha'.1.1 ha'.1.2
    have q2:mN t (k5 a 0)≤a.bh:=q1
    have:iY (lu 0 (mN t (k5 a 0)))=true:=jk.2 (show (0≤mN t (k5 a 0)∧mN t (k5 a 0)≤1000000)∧(0≤(0:Int)∧(0:Int)≤1000000)∧(0≤(0:Int)∧(0:Int)≤1000000) from ⟨⟨q0,by omega⟩,by decide,by decide⟩)
    rw [this]
    simp only [Bool.true_and,Bool.and_eq_true,decide_eq_true_eq]
    exact ⟨q2,ha'.2.1.1,ha'.2.2.1⟩
  · obtain ⟨q0,q1⟩:=yV ht (n:=k5 a 1) ha'.2.1.1 ha'.2.1.2
    have q2:mN t (k5 a 1)≤a.ib:=q1
    have:iY (lu 1 (mN t (k5 a 1)))=true:=jk.2 (show (0≤(0:Int)∧(0:Int)≤1000000)∧(0≤mN t (k5 a 1)∧mN t (k5 a 1)≤1000000)∧(0≤(0:Int)∧(0:Int)≤1000000) from ⟨by decide,⟨q0,by omega⟩,by decide⟩)
    rw [this]
    simp only [Bool.true_and,Bool.and_eq_true,decide_eq_true_eq]
    exact ⟨ha'.1.1,q2,ha'.2.2.1⟩
  · obtain ⟨q0,q1⟩:=yV ht (n:=k5 a 2) ha'.2.2.1 ha'.2.2.2
    have q2:mN t (k5 a 2)≤a.ik:=q1
    have:iY (lu 2 (mN t (k5 a 2)))=true:=jk.2 (show (0≤(0:Int)∧(0:Int)≤1000000)∧(0≤(0:Int)∧(0:Int)≤1000000)∧(0≤mN t (k5 a 2)∧mN t (k5 a 2)≤1000000) from ⟨by decide,by decide,⟨q0,by omega⟩⟩)
    rw [this]
    simp only [Bool.true_and,Bool.and_eq_true,decide_eq_true_eq]
    exact ⟨ha'.1.1,ha'.2.1.1,q2⟩
def l8 (ts:List iZ):Bool:=ts.all fun t=>j8 t.list
def mA (ts:List iZ) (p:Int) (t:jw):Bool :=
  l8 ts&&(!decide ((ts.length:Int) > 3)&&(mE t&&(iE p 0 ((ts.length:Int) - 1)&&(!decide (t.jJ ≥ (ts.length:Int))&&jl (nth ts p).list t.res))))
def tG (ts:List iZ) (p:Int) (t:jw):Int:=uL t (nth (nth ts p).list t.res).iL
def k4 (ts:List iZ) (p:Int) (t:jw):List iZ:=ts.set p.toNat (iZ.mk (jq (nth ts p).list t.res (lu t.kp (tG ts p t))).1)
def nq (ts:List iZ) (p:Int) (t:jw):List ir×Bool:=lJ (nth (k4 ts p t) t.jJ).list t.mf (lu t.kp (tG ts p t))
def mw (ts:List iZ) (p:Int) (t:jw):List iZ×Int :=
  if mA ts p t&&(nq ts p t).2 then ((k4 ts p t).set t.jJ.toNat (iZ.mk (nq ts p t).1),tG ts p t) else (ts,0)
theorem GD {ts:List iZ} (h:qm ts) {k:Nat} {t:List ir} (ht:t.length<im):qm (ts.set k (iZ.mk t)):=by
  refine ⟨by rw [List.length_set];exact h.1,fun y hy=>?_⟩
  rcases List.mem_or_eq_of_mem_set hy with h1 | h1
  · exact h.2 y h1
  · subst h1;exact ht
theorem Ac {ts:List iZ} {p:Int} (h:l8 ts=true) (h0:0≤p) (h1:p<(ts.length:Int)):j8 (nth ts p).list=true:=by
  unfold l8 at h
  rw [List.all_eq_true] at h
  exact h _ (kT h0 h1)
theorem uI {ts:List iZ} {p:Int} {t:jw} (h:mA ts p t=true):l8 ts=true∧mE t=true∧(0≤p∧p<(ts.length:Int))∧(0≤t.jJ∧t.jJ<(ts.length:Int))∧jl (nth ts p).list t.res=true:=by
  unfold mA at h
  simp only [Bool.and_eq_true,Bool.not_eq_true',decide_eq_false_iff_not,i7] at h
  obtain ⟨h1,_,h2,h3,h4,h5⟩:=h
  have h2':=h2
  unfold mE at h2'
  simp only [Bool.and_eq_true,i7] at h2'
  exact ⟨h1,h2,⟨h3.1,by omega⟩,⟨h2'.1.2.1.1,by omega⟩,h5⟩
theorem Gn {ts:List iZ} {p:Int} {t:jw} (h:mA ts p t=true):(jq (nth ts p).list t.res (lu t.kp (tG ts p t))).2=true:=by
  obtain ⟨h1,h2,⟨p0,p1⟩,_,h5⟩:=uI h
  have ho:=Ac h1 p0 p1
  obtain ⟨f0,f4⟩:=kX h5
  have hb:iY (nth (nth ts p).list t.res).iL=true:=by
    have hT:=ho
    have hl:=qZ ho
    unfold j8 at hT
    simp only [Bool.and_eq_true] at hT
    have hP:=mB.1 hT.2.2.2.1 t.res.toNat _ (ky f0 (by omega))
    have hv:(nth (nth ts p).list t.res).live=true:=by
      unfold jl at h5
      rw [Bool.and_eq_true] at h5
      exact h5.2
    unfold oS at hP
    rw [hv,if_pos rfl,Bool.and_eq_true] at hP
    exact hP.1
  unfold jq
  rw [ho,h5]
  simp only [Bool.and_self,if_true]
  rw [show ll (lu t.kp (tG ts p t)) (nth (nth ts p).list t.res).iL=true from FN h2 hb]
  rfl
theorem EX {ts:List iZ} (h:qm ts) {p:Int} (p0:0≤p) (p1:p<(ts.length:Int)) (t:jw):qm (k4 ts p t) :=
  GD h (by rw [mh];exact h.2 _ (kT p0 p1))
theorem wg (ts:List iZ) (p:Int) (t:jw):(k4 ts p t).length=ts.length:=by unfold k4;rw [List.length_set]
theorem GL {N:Nat} (hN:im≤N) {ts:List iZ} (h:qm ts) (p:Int) (t:jw):rG N ts p t=some (mw ts p t):=by
  have hl:=h.1
  have hB:(16777216:Nat)=im:=rfl
  unfold rG
  simp only [DM hN h,Option.bind_some]
  rw [kn ts (fun _ t=>j8 t.list) (.inl (ts.length:Int)) (.inr (ts,0)) (Nat.lt_of_lt_of_le hl hN),kV]
  · simp only [Option.bind_some,Ak,oF,iI (n:=(ts.length:Int) - 1) (by omega) (by omega)]
    cases h1:ts.all (fun t=>j8 t.list)
    · have:mA ts p t=false:=by unfold mA l8;rw [h1];rfl
      unfold mw
      rw [this];rfl
    cases h2:decide ((ts.length:Int) > 3)
    case true =>
      have:mA ts p t=false:=by unfold mA l8;rw [h1,h2];rfl
      unfold mw
      rw [this];rfl
    cases h3:mE t
    · have:mA ts p t=false:=by unfold mA l8;rw [h1,h2,h3];rfl
      unfold mw
      rw [this];rfl
    cases h4:iE p 0 ((ts.length:Int) - 1)
    · have:mA ts p t=false:=by unfold mA l8;rw [h1,h2,h3,h4];rfl
      unfold mw
      rw [this];rfl
    cases h5:decide (t.jJ ≥ (ts.length:Int))
    case true =>
      have:mA ts p t=false:=by unfold mA l8;rw [h1,h2,h3,h4,h5];rfl
      unfold mw
      rw [this];rfl
    rw [i7] at h4
    have p1:p<(ts.length:Int):=by omega
    have ho:=Ac (ts:=ts) h1 h4.1 p1
    have h5l:=qZ ho
    simp only [if_true,Sum.elim_inl,Bool.not_true,cond_false,jC (l:=ts) h4.1 p1,Option.bind_some,uU N h5l]
    cases h6:jl (nth ts p).list t.res
    · have:mA ts p t=false:=by unfold mA;rw [h6];simp
      unfold mw
      rw [this];rfl
    have hm:mA ts p t=true:=by unfold mA l8;rw [h1,h2,h3,h5,h6,i7.2 h4];rfl
    obtain ⟨_,_,_,⟨q0,q1⟩,_⟩:=uI hm
    obtain ⟨f0,f4⟩:=kX h6
    simp only [Bool.not_true,cond_false,jC (l:=(nth ts p).list) f0 (by omega),Option.bind_some,Gi,yY,AX hN (h.2 _ (kT h4.1 p1)),
      show uL t (nth (nth ts p).list t.res).iL=tG ts p t from rfl,Gn hm,show ts.set p.toNat (iZ.mk (jq (nth ts p).list t.res (lu t.kp (tG ts p t))).1)=k4 ts p t from rfl,
      jC (l:=k4 ts p t) q0 (by rw [wg];exact q1),zA hN ((EX h h4.1 p1 t).2 _ (kT q0 (by rw [wg];exact q1)))]
    unfold mw
    rw [hm]
    show (bif !(nq ts p t).2 then some (ts,0) else some ((k4 ts p t).set t.jJ.toNat (iZ.mk (nq ts p t).1),tG ts p t))=_
    cases (nq ts p t).2 <;> rfl
  · intro k y hy hk
    simp only [jh hk,cond_true,iO,hy,Option.bind_some,tB hN,jm (Nat.lt_trans hk hl)]
    cases j8 y.list <;> rfl
  · simp only [jg,cond_false]
def lens (ts:List iZ):List Nat:=ts.map fun t=>t.list.length
theorem Ct {ts:List iZ} {k:Nat} {y:iZ} {t:List ir} (hy:ts[k]?=some y) (ht:t.length=y.list.length):lens (ts.set k (iZ.mk t))=lens ts:=by
  unfold lens
  rw [List.map_set]
  show (ts.map fun t=>t.list.length).set k t.length=_
  rw [ht]
  apply nI
  rw [List.getElem?_map,hy];rfl
theorem xN (ts:List iZ) (p:Int) (t:jw):lens (mw ts p t).1=lens ts:=by
  unfold mw
  split
  · rename_i h
    rw [Bool.and_eq_true] at h
    obtain ⟨_,_,⟨p0,p1⟩,⟨q0,q1⟩,_⟩:=uI h.1
    show lens ((k4 ts p t).set t.jJ.toNat (iZ.mk (nq ts p t).1))=_
    refine (Ct (ky q0 (by rw [wg];exact q1)) (show (nq ts p t).1.length=_ from vm _ _ _)).trans ?_
    exact Ct (ky p0 p1) (mh _ _ _)
  · rfl
theorem E0 {ts us:List iZ} (h:qm ts) (e:lens us=lens ts):qm us:=by
  have hl:us.length=ts.length:=by
    have:=congrArg List.length e
    unfold lens at this
    rwa [List.length_map,List.length_map] at this
  refine ⟨by rw [hl];exact h.1,fun y hy=>?_⟩
  have hm:y.list.length ∈ lens us:=List.mem_map.2 ⟨y,hy,rfl⟩
  rw [e] at hm
  obtain ⟨z,hz,hzz⟩:=List.mem_map.1 hm
  rw [← hzz]
  exact h.2 z hz
def rS (ts:List iZ) (p:Int) (ij:List jw):List iZ:=ij.foldl (fun ts t=>(mw ts p t).1) ts
theorem vE (p:Int):∀ (ij:List jw) (ts:List iZ),lens (rS ts p ij)=lens ts
  | [],_=>rfl
  | t::ij,ts=>(vE p ij (mw ts p t).1).trans (xN ts p t)
theorem HA {N:Nat} (hN:im≤N) {ij:List jw} (hl:ij.length<im) {ts:List iZ} (h:qm ts) {p:Int} {F:List iZ→jw→Option (List iZ×Int)} (hF:∀ ts t,qm ts→F ts t=some (mw ts p t)) :
    iter (fun (s94:(List iZ)×Int)=>(bif (decide (s94.2<(ij.length:Int))) then ((idx ij s94.2).bind fun y97=>(F s94.1 y97).bind fun y109=>some (.inl (y109.1,IntKind.i64.wrap (s94.2+1)))) else (some (.inr (s94.1,s94.2))):Option (((List iZ)×Int)⊕((List iZ)×Int)))) N (ts,0)=some (rS ts p ij,(ij.length:Int)):=by
  rw [show (ts,(0:Int))=(fun (k:Nat) (t:List iZ)=>(t,(k:Int))) 0 ts from rfl,
    kK ij (fun (k:Nat) (t:List iZ)=>(t,(k:Int))) (fun _ ts t=>(mw ts p t).1) (fun t=>(t,(ij.length:Int))) (fun _ t=>lens t=lens ts) ?_ ?_ (Nat.lt_of_lt_of_le hl hN) rfl,lA]
  · rfl
  · intro k t y hy hk ht
    refine ⟨?_,(xN t p y).trans ht⟩
    simp only [jh hk,cond_true,iO,hy,Option.bind_some,hF t y (E0 h ht),jm (Nat.lt_trans hk hl)]
  · intro t _
    simp only [jg,cond_false]
def iT (w:iN) (p:Int):iN:=if kR w&&uM w p then iN.mk w.now (jD w.parts (jL (rS (kG w.parts) p (nth w.parts p).ij))) else w
theorem Di {l:List dW} (hb:jo iG l<im):qm (kG l):=by
  refine ⟨by unfold kG kC;rw [List.length_map,List.length_map];exact lD hb,fun t ht=>?_⟩
  unfold kG kC at ht
  rw [List.map_map] at ht
  obtain ⟨p,hp,rfl⟩:=List.mem_map.1 ht
  exact (mq (lO hb hp)).2.2.1
theorem zv {l:List dW} {p:Int} {ij:List jw}:(rS (kG l) p ij).length=l.length:=by
  have:=congrArg List.length (vE p ij (kG l))
  unfold lens kG kC at this
  rw [List.length_map,List.length_map,List.length_map,List.length_map] at this
  exact this
theorem FC {N:Nat} (hN:im≤N) {w:iN} (hb:jo iG w.parts<im) (p:Int):qk N w p=some (iT w p):=by
  unfold qk iT
  simp only [yC hN hb,xG hN hb,Gj (lD hb),Option.bind_some,lN]
  cases hw:kR w
  · rfl
  cases hp:uM w p
  · rfl
  obtain ⟨e,hm⟩:=DB hp
  have hl:=lD hb
  have ht:(nth w.parts p).ij.length<im:=(mq (lO hb hm)).2.2.2.2.2
  simp only [Bool.not_true,Bool.or_self,cond_false,Bool.and_self,if_true,decide_eq_true (Nat.lt_of_lt_of_le hl hN),decide_eq_true hl,e,Option.bind_some]
  rw [show (gd true).bind=fun (k:Unit→Option iN)=>k () from rfl]
  simp only []
  rw [HA hN ht (Di hb) (p:=p) (fun ts t h=>GL hN h p t)]
  simp only [Option.bind_some,zv,decide_true]
  rfl
end Go.Kx
/- The plain law of 'FnExactTick'. No program in sight. -/
namespace Go.Kx
open Go
set_option linter.unusedVariables false
set_option linter.unusedSimpArgs false
set_option maxRecDepth 10000
theorem Er {l:List cd} (h:wA l) (i:Int):mO (nth l i):=by
  unfold nth
  cases e:l[i.toNat]? with
  | none=>show (-9223372036854775808:Int)≤0;decide
  | some o=>exact h o (List.mem_of_getElem? e)
theorem CB {p:dW} (h:wP p) (now:Int):wP (kD p now):=by
  unfold kD
  split
  · show wA (pV p now)
    unfold pV
    split
    · exact kL h (Er h _)
    · exact h
  · exact h
theorem CC {p:dW} (h:wP p) (me now:Int):wP (lf p me now):=by
  unfold lf
  split
  · intro o ho
    obtain ⟨x,hx,rfl⟩:=List.mem_map.1 (show o ∈ p.heap.ag.map _ from ho)
    split
    · show (-9223372036854775808:Int)≤0;decide
    · exact h x hx
  · exact h
theorem KP {p:dW} (h:wP p) (now:Int):wP (lC p now).1:=by
  unfold lC
  split
  · split
    · exact h
    · exact kL h (Er h (jY p now))
  · exact h
def oG (p:dW) (i now:Int):dW:=(kO (lf (kD p now) i now) now 3).1
def l5 (n:Nat) (p:dW) (i now:Int):dW:=bif Int.tmod now (n:Int)==i then (lC (oG p i now) now).1 else oG p i now
def m3 (n:Nat) (k:Nat) (w:iN):iN:=iN.mk (iT w (k:Int)).now ((iT w (k:Int)).parts.set k (l5 n (nth (iT w (k:Int)).parts (k:Int)) (k:Int) (iT w (k:Int)).now))
def tick (w:iN):iN:=if kR w&&!(w.now==1000000) then foldI (fun k t (_:dW)=>m3 w.parts.length k t) 0 (iN.mk (IntKind.i64.wrap (w.now+1)) w.parts) w.parts else w
theorem zq {p:dW} {b:Nat} (hb:iG p≤b) (h2:b≤2000000) (hw:wP p) (i now:Int):iG (oG p i now)≤b+1200∧wP (oG p i now):=by
  have h1:=DS p now
  have h3:=D2 (kD p now) i now
  obtain ⟨a,c⟩:=ET (p:=lf (kD p now) i now) (by omega) (CC (CB hw now) i now) now 3
  exact ⟨by show iG (kO (lf (kD p now) i now) now 3).1≤_;omega,c⟩
theorem yp {n:Nat} {p:dW} {b:Nat} (hb:iG p≤b) (h2:b≤2000000) (hw:wP p) (i now:Int):iG (l5 n p i now)≤b+1300∧wP (l5 n p i now):=by
  obtain ⟨a,c⟩:=zq hb h2 hw i now
  unfold l5
  cases Int.tmod now (n:Int)==i
  · exact ⟨by simp only [cond_false];omega,c⟩
  · have:=G8 (oG p i now) now
    exact ⟨by simp only [cond_true];omega,KP c now⟩
theorem CZ:∀ {l:List dW} {ts:List (List ir)},ts.map List.length=(kC l).map List.length→(jD l ts).length=l.length∧∀ q,q ∈ jD l ts→∃ p,p ∈ l∧iG q=iG p∧q.heap=p.heap
  | [],[],_=>⟨rfl,fun _ h=>absurd h (by simp [jD])⟩
  | [],_::_,h=>by simp [kC] at h
  | _::_,[],h=>by simp [kC] at h
  | p::l,t::ts,h=>by
    simp only [kC,List.map_cons,List.cons.injEq] at h
    obtain ⟨i1,i2⟩:=CZ (l:=l) (ts:=ts) h.2
    refine ⟨by show (mY p t::jD l ts).length=_;simp [i1],fun q hq=>?_⟩
    rcases List.mem_cons.1 (show q ∈ mY p t::jD l ts from hq) with rfl | hq
    · exact ⟨p,List.mem_cons_self,by unfold iG mY;simp only [h.1],rfl⟩
    · obtain ⟨y,hy,e⟩:=i2 q hq
      exact ⟨y,List.mem_cons_of_mem _ hy,e⟩
theorem Gg (w:iN) (p:Int):(iT w p).now=w.now∧(iT w p).parts.length=w.parts.length∧∀ q,q ∈ (iT w p).parts→∃ p,p ∈ w.parts∧iG q=iG p∧q.heap=p.heap:=by
  unfold iT
  split
  · refine ⟨rfl,CZ ?_⟩
    have h:(rS (kG w.parts) p (nth w.parts p).ij).map (fun t=>t.list.length)=(kG w.parts).map (fun t=>t.list.length):=vE p (nth w.parts p).ij (kG w.parts)
    unfold jL
    rw [List.map_map]
    refine Eq.trans (show _=(rS (kG w.parts) p (nth w.parts p).ij).map (fun t=>t.list.length) from rfl) (h.trans ?_)
    unfold kG
    rw [List.map_map]
    rfl
  · exact ⟨rfl,rfl,fun q hq=>⟨q,hq,rfl,rfl⟩⟩
structure sn (n:Nat) (k:Nat) (t:iN):Prop where
  len:t.parts.length=n
  small:n≤3
  sz:∀ p,p ∈ t.parts→iG p≤1048576+1300 * k∧wP p
theorem sn.z7 {n k:Nat} {t:iN} (h:sn n k t) (hk:k≤3):jo iG t.parts<im:=by
  have hB:(16777216:Nat)=im:=rfl
  have h1:nF iG t.parts≤(1048576+1300 * 3) * t.parts.length:=tJ fun y hy=>Nat.le_trans (h.sz y hy).1 (by omega)
  have h2:=h.len
  have h3:=h.small
  have h4:(1048576+1300 * 3) * t.parts.length≤(1048576+1300 * 3) * 3:=Nat.mul_le_mul_left _ (by omega)
  unfold jo
  omega
theorem sn.w {n k:Nat} {t:iN} (h:sn n k t):wW t.parts:=fun p hp=>(h.sz p hp).2
theorem sn.ij {n k:Nat} {t:iN} (h:sn n k t) (p:Int):sn n k (iT t p):=by
  obtain ⟨_,h2,h3⟩:=Gg t p
  refine ⟨h2.trans h.len,h.small,fun q hq=>?_⟩
  obtain ⟨y,hy,e1,e2⟩:=h3 q hq
  obtain ⟨a,b⟩:=h.sz y hy
  exact ⟨by omega,by unfold wP at *;rw [e2];exact b⟩
theorem sn.step {n k:Nat} {t:iN} (h:sn n k t) (hk:k<n):sn n (k+1) (m3 n k t):=by
  have hT:=h.ij (k:Int)
  have hs:=hT.small
  refine ⟨by show ((iT t (k:Int)).parts.set k _).length=n;rw [List.length_set];exact hT.len,hT.small,fun q hq=>?_⟩
  rcases List.mem_or_eq_of_mem_set (show q ∈ (iT t (k:Int)).parts.set k _ from hq) with h1 | h1
  · obtain ⟨a,b⟩:=hT.sz q h1
    exact ⟨by omega,b⟩
  · subst h1
    have hl:=hT.len
    obtain ⟨a,b⟩:=hT.sz _ (kT (l:=(iT t (k:Int)).parts) (i:=(k:Int)) (by omega) (by omega))
    obtain ⟨c,d⟩:=yp (n:=n) a (by omega) b (k:Int) (iT t (k:Int)).now
    exact ⟨by omega,d⟩
theorem Io {N:Nat} (hN:im≤N) {w:iN} {body:Int×Int×List dW→Option ((Int×Int×List dW)⊕(Int×Int×List dW))} (h0:sn w.parts.length 0 (iN.mk (IntKind.i64.wrap (w.now+1)) w.parts))
    (hs:∀ (k:Nat) (t:iN),k<w.parts.length→k<im→sn w.parts.length k t→body ((k:Int),t.now,t.parts)=some (.inl (((k+1:Nat):Int),(m3 w.parts.length k t).now,(m3 w.parts.length k t).parts)))
    (he:∀ t:iN,sn w.parts.length w.parts.length t→body ((w.parts.length:Int),t.now,t.parts)=some (.inr ((w.parts.length:Int),t.now,t.parts))) :
    iter body N (0,IntKind.i64.wrap (w.now+1),w.parts)=some ((w.parts.length:Int),(foldI (fun k t (_:dW)=>m3 w.parts.length k t) 0 (iN.mk (IntKind.i64.wrap (w.now+1)) w.parts) w.parts).now,(foldI (fun k t (_:dW)=>m3 w.parts.length k t) 0 (iN.mk (IntKind.i64.wrap (w.now+1)) w.parts) w.parts).parts):=by
  have hB:(16777216:Nat)=im:=rfl
  have h3:=h0.small
  exact kK w.parts (fun (k:Nat) (t:iN)=>((k:Int),t.now,t.parts)) (fun k t _=>m3 w.parts.length k t) (fun t=>((w.parts.length:Int),t.now,t.parts)) (sn w.parts.length)
    (fun k t y _ hk hI=>⟨hs k t hk (by omega) hI,hI.step hk⟩) he (Nat.lt_of_lt_of_le (show w.parts.length<im by omega) hN) h0
theorem LH {n:Int} (h:n ≠ 0):dz n=some ():=by unfold dz;rw [if_neg h]
theorem Ao {w:iN} (h:kR w=true):1≤w.parts.length∧w.parts.length≤3∧0≤w.now∧w.now≤1000000:=by
  unfold kR at h
  simp only [Bool.and_eq_true,i7] at h
  omega
theorem KJ {w:iN} (hb:nV w≤1048576) (hW:wW w.parts) (hw:kR w=true):sn w.parts.length 0 (iN.mk (IntKind.i64.wrap (w.now+1)) w.parts) :=
  ⟨rfl,(Ao hw).2.1,fun p hp=>⟨by
    have:iG p≤nF iG w.parts:=yR hp
    unfold nV jo at hb
    omega,hW p hp⟩⟩
theorem IW {N:Nat} (hN:im≤N) {w:iN} (hb:jo iG w.parts<im) (hW:wW w.parts) (hT0:kR w=true→sn w.parts.length 0 (iN.mk (IntKind.i64.wrap (w.now+1)) w.parts)):tC N w=some (tick w):=by
  have hB:(16777216:Nat)=im:=rfl
  unfold tC tick
  simp only [yC hN hb,xG hN hb,Option.bind_some,lN]
  cases hw:kR w
  · rfl
  cases hm:w.now==1000000
  case true=>rfl
  obtain ⟨n1,n3,_,_⟩:=Ao hw
  simp only [Bool.not_true,Bool.not_false,Bool.or_self,cond_false,Bool.and_self,if_true]
  rw [Io hN (hT0 hw)]
  · rfl
  · intro k t hk hkB hI
    have hT:=hI.ij (k:Int)
    have hl:=hT.len
    obtain ⟨a,b⟩:=hT.sz _ (kT (l:=(iT t (k:Int)).parts) (i:=(k:Int)) (by omega) (by omega))
    obtain ⟨c,d⟩:=zq a (by omega) b (k:Int) (iT t (k:Int)).now
    have q1:=DS (nth (iT t (k:Int)).parts (k:Int)) (iT t (k:Int)).now
    have q2:=D2 (kD (nth (iT t (k:Int)).parts (k:Int)) (iT t (k:Int)).now) (k:Int) (iT t (k:Int)).now
    simp only [jh hk,cond_true,show iN.mk t.now t.parts=t from rfl,FC hN (hI.z7 (by omega)),Option.bind_some,jC (l:=(iT t (k:Int)).parts) (i:=(k:Int)) (by omega) (by omega),
      EZ hN (p:=nth (iT t (k:Int)).parts (k:Int)) (by omega),Fb hN (p:=kD (nth (iT t (k:Int)).parts (k:Int)) (iT t (k:Int)).now) (by omega)]
    have e1:=Bs hN (p:=lf (kD (nth (iT t (k:Int)).parts (k:Int)) (iT t (k:Int)).now) (k:Int) (iT t (k:Int)).now) (by omega) (CC (CB b _) _ _) (iT t (k:Int)).now 3
    have e2:=GG hN (p:=oG (nth (iT t (k:Int)).parts (k:Int)) (k:Int) (iT t (k:Int)).now) (by omega) (iT t (k:Int)).now
    unfold oG at e2
    have e3:((k:Int)==Int.tmod (iT t (k:Int)).now (w.parts.length:Int))=(Int.tmod (iT t (k:Int)).now (w.parts.length:Int)==(k:Int)):=Bool.beq_comm ..
    refine Eq.trans (congrArg (fun x=>Option.bind x _) e1) ?_
    simp only [Option.bind_some,LH (show (w.parts.length:Int) ≠ 0 by omega),e2,e3,jm hkB]
    unfold m3 l5 oG
    generalize lC (kO (lf (kD (nth (iT t (k:Int)).parts (k:Int)) (iT t (k:Int)).now) (k:Int) (iT t (k:Int)).now) (iT t (k:Int)).now 3).1 (iT t (k:Int)).now=R
    generalize kO (lf (kD (nth (iT t (k:Int)).parts (k:Int)) (iT t (k:Int)).now) (k:Int) (iT t (k:Int)).now) (iT t (k:Int)).now 3=C
    have hid:=jC (l:=(iT t (k:Int)).parts) (i:=(k:Int)) (by omega) (by omega)
    generalize iT t (k:Int)=X at hid ⊢
    cases Int.tmod X.now (w.parts.length:Int)==(k:Int)
    · simp only [cond_false,Option.bind_some,hid,Int.toNat_natCast]
    · simp only [cond_true,Option.bind_some,hid,Int.toNat_natCast]
  · intro t _
    simp only [jg,cond_false]
theorem Kj {w:iN} (hM:nV w≤1048576):jo iG w.parts<im:=by
  have hB:(16777216:Nat)=im:=rfl
  unfold nV at hM
  omega
theorem JY {N:Nat} (hN:im≤N) {w:iN} (hM:nV w≤1048576) (hW:wW w.parts):tC N w=some (tick w):=IW hN (Kj hM) hW (KJ hM hW)
theorem IS {n:Nat}:∀ (l:List dW) (k:Nat) (t:iN),k+l.length=n→sn n k t→sn n n (foldI (fun k t (_:dW)=>m3 n k t) k t l)
  | [],k,t,h,hI=>by
    have:k=n:=by simpa using h
    subst this;exact hI
  | y::l,k,t,h,hI=>by
    have hk:k<n:=by simp at h;omega
    exact IS l (k+1) (m3 n k t) (by simp at h;omega) (hI.step hk)
theorem Jp {w:iN} (hM:nV w≤1048576) (hW:wW w.parts):jo iG (tick w).parts<im:=by
  have hB:(16777216:Nat)=im:=rfl
  unfold tick
  split
  · rename_i h
    rw [Bool.and_eq_true] at h
    have hT:=IS w.parts 0 _ (by omega) (KJ hM hW h.1)
    exact hT.z7 (Ao h.1).2.1
  · unfold nV at hM;omega
end Go.Kx
/- Plain laws: what is split off, given and dropped in a tree. No program in sight. -/
namespace Go.Kx
open Go
set_option linter.unusedVariables false
set_option linter.unusedSimpArgs false
set_option maxRecDepth 10000
theorem y6 {t:List ir} {f:Int} {a:ig} (h:(jq t f a).2=true):j8 t=true∧jl t f=true:=by
  unfold jq at h
  split at h
  · rename_i q
    simpa using q
  · cases h
theorem HF (t:List ir) (f:Int) (a:ig):(jq t f a).1.map ir.live=t.map ir.live:=by
  unfold jq
  split
  · rename_i q
    simp only [Bool.and_eq_true] at q
    obtain ⟨f0,f4⟩:=kX q.2
    have hl:=qZ q.1
    split
    · rw [List.map_set]
      refine nI ?_
      rw [List.getElem?_map,ky f0 (by omega)]
      rfl
    · rfl
  · rfl
def ya:Nat→List Bool→Option Nat
  | _,[]=>none
  | k,b::l=>if b then ya (k+1) l else some k
theorem Et {ρ:Type} (g:Nat→ρ) (r:ρ):∀ (l:List ir) (k:Nat),l6 (fun k (_:Unit) (y:ir)=>if y.live then .inl () else .inr (g k)) (fun _=>r) k () l=(match ya k (l.map ir.live) with | none=>r | some k=>g k)
  | [],k=>rfl
  | y::l,k=>by
    unfold l6
    simp only [List.map_cons,ya]
    cases y.live
    · rfl
    · exact Et g r l (k+1)
theorem Ia {ρ:Type} {N:Nat} (hN:im≤N) {x:List ir} (hx:x.length<im) (g:Nat→ρ) (r:ρ) {body:Int→Option (Int⊕ρ)}
    (hs:∀ (k:Nat) (y:ir),x[k]?=some y→k<x.length→body (k:Int)=some (if y.live then .inl ((k+1:Nat):Int) else .inr (g k))) (he:body (x.length:Int)=some (.inr r)) :
    iter body N 0=some (match ya 0 (x.map ir.live) with | none=>r | some k=>g k):=by
  rw [show (0:Int)=(fun (k:Nat) (_:Unit)=>(k:Int)) 0 () from rfl,
    mP x (fun (k:Nat) (_:Unit)=>(k:Int)) (fun k _ y=>if y.live then .inl () else .inr (g k)) (fun _=>r) (fun _ _=>True) ?_ ?_ (Nat.lt_of_lt_of_le hx hN) trivial,Et]
  · intro k _ y hy hk _
    refine ⟨?_,fun _ _=>trivial⟩
    show body (k:Int)=_
    rw [hs k y hy hk]
    cases y.live <;> rfl
  · intro _ _
    exact he
def nS (t:List ir) (f:Int) (a:ig):List ir×Int×Bool :=
  if (jq t f a).2 then (match ya 0 (t.map ir.live) with | none=>(t,0,false) | some k=>((jq t f a).1.set k (ir.mk true f a),(k:Int),true)) else (t,0,false)
theorem wU (t:List ir) (f:Int) (a:ig):(nS t f a).1.length=t.length:=by
  unfold nS
  split
  · split
    · rfl
    · simp only [List.length_set,mh]
  · rfl
theorem yj {N:Nat} (hN:im≤N) {t:List ir} (hB:t.length<im) (f:Int) (a:ig):nM N t f a=some (nS t f a):=by
  unfold nM nS
  simp only [vx hN hB,Option.bind_some]
  cases h:(jq t f a).2
  · simp only [Bool.not_false,cond_true,qK hB,Option.bind_some,Bool.false_eq_true,if_false]
  have hp:=mh t f a
  simp only [Bool.not_true,cond_false,if_true]
  rw [Ia (x:=(jq t f a).1) hN (by omega) (fun k=>Sum.inr ((jq t f a).1.set k (ir.mk true f a),(k:Int),true)) (Sum.inl ((jq t f a).1.length:Int)),HF]
  · simp only [Option.bind_some]
    cases ya 0 (t.map ir.live)
    · simp only [Sum.elim_inl,qK hB,Option.bind_some]
    · rfl
  · intro k y hy hk
    simp only [jh hk,cond_true,iO,hy,Option.bind_some,jm (show k<im by omega),Int.toNat_natCast]
    cases y.live <;> rfl
  · simp only [jg,cond_false]
def pY (t:List ir) (f g:Int) (a:ig):List ir×Bool:=if (jq t f a).2&&jl t g then lJ (jq t f a).1 g a else (t,false)
theorem C1 (t:List ir) (f g:Int) (a:ig):(pY t f g a).1.length=t.length:=by
  unfold pY
  split
  · rw [vm,mh]
  · rfl
theorem Fc {N:Nat} (hN:im≤N) {t:List ir} (hB:t.length<im) (f g:Int) (a:ig):qg N t f g a=some (pY t f g a):=by
  unfold qg pY
  have hp:=mh t f a
  simp only [uT hN,vx hN hB,Option.bind_some]
  cases h:(jq t f a).2
  · cases j8 t&&jl t g <;> simp only [Bool.not_false,Bool.not_true,cond_true,cond_false,qK hB,Option.bind_some,Bool.false_and,Bool.false_eq_true,if_false]
  rw [(y6 h).1]
  simp only [Bool.true_and]
  cases jl t g
  · simp only [Bool.not_false,cond_true,qK hB,Option.bind_some,Bool.false_eq_true,if_false]
  · simp only [Bool.not_true,cond_false,if_true,Ff hN (show (jq t f a).1.length<im by omega),Option.bind_some]
theorem Kf {t:List ir} (h:Tr t) {i:Int} (hv:jl t i=true) (hi:i ≠ 0):0≤up t i∧up t i≤4∧up t i ≠ i∧(nth t (up t i)).live=true:=by
  obtain ⟨i0,i4⟩:=kX hv
  have hl:=h.len
  have hg:=ky (l:=t) i0 (by omega)
  have hlv:(nth t i).live=true:=by
    unfold jl at hv
    simp only [Bool.and_eq_true] at hv
    exact hv.2
  have h1:=h.lead i.toNat (nth t i) hg hlv
  rw [show ((i.toNat:Nat):Int)=i by omega] at h1
  have hne:up t i ≠ i:=fun q=>by rw [yZ hi q] at h1;cases h1
  have h2:leads t 4 (up t i)=true:=by
    unfold leads at h1
    simpa [hi,hv] using h1
  by_cases hu:up t i=0
  · rw [hu]
    exact ⟨by omega,by omega,fun q=>hi q.symm,h.yb⟩
  · unfold leads at h2
    have h3:jl t (up t i)=true:=by
      cases q:jl t (up t i)
      · simp [hu,q] at h2
      · rfl
    obtain ⟨a,b⟩:=kX h3
    unfold jl at h3
    simp only [Bool.and_eq_true] at h3
    exact ⟨a,b,hne,h3.2⟩
def uz (s:ig) (B:Int):Prop:=(0≤s.bh∧s.bh≤B)∧(0≤s.ib∧s.ib≤B)∧(0≤s.ik∧s.ik≤B)
theorem xp {s a:ig} {B:Int} (hs:uz s B) (ha:iY a=true) (hB:B≤1000000000):(iV s a).bh=s.bh+a.bh∧(iV s a).ib=s.ib+a.ib∧(iV s a).ik=s.ik+a.ik∧uz (iV s a) (B+1000000):=by
  have h:=jk.1 ha
  unfold uz at hs
  have w1:(iV s a).bh=s.bh+a.bh:=iI (by omega) (by omega)
  have w2:(iV s a).ib=s.ib+a.ib:=iI (by omega) (by omega)
  have w3:(iV s a).ik=s.ik+a.ik:=iI (by omega) (by omega)
  exact ⟨w1,w2,w3,⟨by omega,by omega⟩,⟨by omega,by omega⟩,⟨by omega,by omega⟩⟩
theorem yW:∀ (t:List ir) (s:ig) (B:Int),(∀ r,r ∈ t→iY r.iL=true)→0≤B→B+1000000 * (t.length:Int)≤1000000000→uz s B→∀ (k:Nat) (r:ir),t[k]?=some r→r.live=true →
    s.bh+r.iL.bh≤(ju s t).bh∧s.ib+r.iL.ib≤(ju s t).ib∧s.ik+r.iL.ik≤(ju s t).ik
  | [],s,B,_,_,_,_,k,r,hr,_=>by simp at hr
  | x::t,s,B,h,hB,hL,hs,k,r,hr,hv=>by
    have hx:=h x (by simp)
    simp only [List.length_cons] at hL
    obtain ⟨w1,w2,w3,w4⟩:=xp hs hx (by omega)
    have hx':=jk.1 hx
    have e:ju s (x::t)=ju (if x.live then iV s x.iL else s) t:=rfl
    rw [e]
    have ht:∀ r,r ∈ t→iY r.iL=true:=fun r hr=>h r (by simp [hr])
    match k with
    | 0 =>
      simp only [List.getElem?_cons_zero,Option.some.injEq] at hr
      subst hr
      rw [if_pos hv]
      obtain ⟨⟨a1,a2,a3⟩,_⟩:=qW t (iV s x.iL) (B+1000000) ht (by omega) (by omega) w4.1 w4.2.1 w4.2.2
      exact ⟨by omega,by omega,by omega⟩
    | k+1 =>
      rw [List.getElem?_cons_succ] at hr
      cases hxl:x.live
      · exact yW t s B ht hB (by omega) hs k r hr hv
      · obtain ⟨a1,a2,a3⟩:=yW t (iV s x.iL) (B+1000000) ht (by omega) (by omega) w4 k r hr hv
        rw [if_pos rfl]
        exact ⟨by omega,by omega,by omega⟩
theorem wF:∀ (t:List ir) (s:ig) (B:Int),(∀ r,r ∈ t→iY r.iL=true)→0≤B→B+1000000 * (t.length:Int)≤1000000000→uz s B→∀ (k j:Nat) (r q:ir),k<j→t[k]?=some r→r.live=true→t[j]?=some q→q.live=true →
    r.iL.bh+q.iL.bh≤(ju s t).bh∧r.iL.ib+q.iL.ib≤(ju s t).ib∧r.iL.ik+q.iL.ik≤(ju s t).ik
  | [],s,B,_,_,_,_,k,j,r,q,_,hr,_,_,_=>by simp at hr
  | x::t,s,B,h,hB,hL,hs,k,j,r,q,hkj,hr,hv,hq,hw=>by
    have hx:=h x (by simp)
    simp only [List.length_cons] at hL
    obtain ⟨w1,w2,w3,w4⟩:=xp hs hx (by omega)
    have e:ju s (x::t)=ju (if x.live then iV s x.iL else s) t:=rfl
    rw [e]
    have ht:∀ r,r ∈ t→iY r.iL=true:=fun r hr=>h r (by simp [hr])
    unfold uz at hs
    match k,j,hkj with
    | 0,j+1,_ =>
      simp only [List.getElem?_cons_zero,Option.some.injEq] at hr
      subst hr
      rw [List.getElem?_cons_succ] at hq
      rw [if_pos hv]
      obtain ⟨a1,a2,a3⟩:=yW t (iV s x.iL) (B+1000000) ht (by omega) (by omega) w4 j q hq hw
      exact ⟨by omega,by omega,by omega⟩
    | k+1,j+1,hkj =>
      rw [List.getElem?_cons_succ] at hr hq
      cases hxl:x.live
      · exact wF t s B ht hB (by omega) hs k j r q (by omega) hr hv hq hw
      · rw [if_pos rfl]
        exact wF t (iV s x.iL) (B+1000000) ht (by omega) (by omega) w4 k j r q (by omega) hr hv hq hw
theorem IY {t:List ir} (h:Tr t) {u i:Int} (hu:0≤u∧u≤4) (hi:0≤i∧i≤4) (hne:u ≠ i) (h1:(nth t u).live=true) (h2:(nth t i).live=true):lH (nth t u).iL (nth t i).iL=(iV (nth t u).iL (nth t i).iL,true):=by
  have hl:=h.len
  have z:uz ⟨0,0,0⟩ 0:=by unfold uz;decide
  have hS:=jk.1 h.sum
  have gu:=ky (l:=t) (i:=u) hu.1 (by omega)
  have gi:=ky (l:=t) (i:=i) hi.1 (by omega)
  have bu:=h.iL _ (List.mem_of_getElem? gu)
  have bi:=h.iL _ (List.mem_of_getElem? gi)
  have bu':=jk.1 bu
  have bi':=jk.1 bi
  have key:(nth t u).iL.bh+(nth t i).iL.bh≤(ju ⟨0,0,0⟩ t).bh∧(nth t u).iL.ib+(nth t i).iL.ib≤(ju ⟨0,0,0⟩ t).ib∧(nth t u).iL.ik+(nth t i).iL.ik≤(ju ⟨0,0,0⟩ t).ik:=by
    rcases Int.lt_or_gt_of_ne hne with q | q
    · exact wF t ⟨0,0,0⟩ 0 h.iL (by omega) (by omega) z u.toNat i.toNat _ _ (by omega) gu h1 gi h2
    · obtain ⟨a,b,c⟩:=wF t ⟨0,0,0⟩ 0 h.iL (by omega) (by omega) z i.toNat u.toNat _ _ (by omega) gi h2 gu h1
      exact ⟨by omega,by omega,by omega⟩
  have v1:(iV (nth t u).iL (nth t i).iL).bh=(nth t u).iL.bh+(nth t i).iL.bh:=iI (by omega) (by omega)
  have v2:(iV (nth t u).iL (nth t i).iL).ib=(nth t u).iL.ib+(nth t i).iL.ib:=iI (by omega) (by omega)
  have v3:(iV (nth t u).iL (nth t i).iL).ik=(nth t u).iL.ik+(nth t i).iL.ik:=iI (by omega) (by omega)
  have:iY (iV (nth t u).iL (nth t i).iL)=true:=jk.2 ⟨by omega,by omega,by omega⟩
  unfold lH
  rw [bu,bi,this];rfl
def zf (i u:Int) (r:ir):ir:=if r.live&&(r.parent==i) then ir.mk r.live u r.iL else r
def dropped (t:List ir) (i:Int):List ir:=(t.set (up t i).toNat (l7 (nth t (up t i)) (iV (nth t (up t i)).iL (nth t i).iL))).set i.toNat vl
def qf (t:List ir) (i:Int):List ir×Bool:=if (j8 t&&jl t i)&&(i != 0) then ((dropped t i).map (zf i (up t i)),true) else (t,false)
theorem xI (t:List ir) (i:Int):(qf t i).1.length=t.length:=by
  unfold qf dropped
  split <;> simp
theorem zB {N:Nat} (hN:im≤N) {t:List ir} (hB:t.length<im) (i:Int):oE N t i=some (qf t i):=by
  unfold oE qf
  simp only [qK hB,uT hN,Option.bind_some,lN]
  cases h:(j8 t&&jl t i)
  · rfl
  simp only [Bool.and_eq_true] at h
  have hT:=ko.1 h.1
  have hl:=hT.len
  cases hi:(i==0)
  case true=>simp only [Bool.not_true,Bool.or_true,cond_true,Bool.true_and,bne,hi,Bool.false_eq_true,if_false]
  have hi':i ≠ 0:=by simpa using hi
  obtain ⟨i0,i4⟩:=kX h.2
  obtain ⟨u0,u4,une,ulv⟩:=Kf hT h.2 hi'
  have ilv:(nth t i).live=true:=by
    have:=h.2
    unfold jl at this
    simp only [Bool.and_eq_true] at this
    exact this.2
  have eu:idx t (nth t i).parent=some (nth t (up t i)):=jC (i:=up t i) u0 (by omega)
  have ff:=IY hT ⟨u0,u4⟩ ⟨i0,i4⟩ une ulv ilv
  have e2:∀ z,idx (t.set (nth t i).parent.toNat z) i=some (nth (t.set (nth t i).parent.toNat z) i):=fun z=>jC i0 (by simp only [List.length_set];omega)
  simp only [Bool.not_true,Bool.or_false,cond_false,jC (l:=t) i0 (by omega),eu,ve,ff,Option.bind_some,e2,bne,hi,Bool.not_false,Bool.and_self,if_true]
  rw [show (((t.set (nth t i).parent.toNat (ir.mk (nth t (up t i)).live (nth t (up t i)).parent (ig.mk (iV (nth t (up t i)).iL (nth t i).iL).bh (iV (nth t (up t i)).iL (nth t i).iL).ib (iV (nth t (up t i)).iL (nth t i).iL).ik))).set i.toNat (ir.mk false 0 (ig.mk 0 0 0))))=dropped t i from rfl]
  rw [uV (dropped t i) (zf i (up t i)) (show (dropped t i).length<N by unfold dropped;simp only [List.length_set];omega)]
  · rfl
  · intro k x y hx hty _ hk
    have hk':k<x.length:=by omega
    have hk2:k<t.length:=by unfold dropped at hk;simp only [List.length_set] at hk;omega
    simp only [jh hk',cond_true,iO,hty,Option.bind_some,lK,jm (show k<im by omega),Int.toNat_natCast]
    unfold zf
    cases (y.live&&(y.parent==i))
    · simp only [cond_false,Bool.false_eq_true,if_false,nI hty]
    · simp only [cond_true,if_true];rfl
  · intro x hx
    rw [← hx]
    simp only [jg,cond_false]
end Go.Kx
