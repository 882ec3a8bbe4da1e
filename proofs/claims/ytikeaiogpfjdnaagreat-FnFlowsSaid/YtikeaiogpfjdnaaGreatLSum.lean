/- Plain laws: sums; what a right world is. No program in sight. -/
import Derived.Test.YtikeaiogpfjdnaaGreatLBoot
namespace Go.Kx
open Go
set_option linter.unusedVariables false
set_option linter.unusedSimpArgs false
set_option maxRecDepth 10000
def NA (a:iC):Prop:=IntKind.i64.wrap a.bh=a.bh∧IntKind.i64.wrap a.ig=a.ig∧IntKind.i64.wrap a.iB=a.iB
theorem wrap_wrap (n:Int):IntKind.i64.wrap (IntKind.i64.wrap n)=IntKind.i64.wrap n:=by
  have:-9223372036854775808≤IntKind.i64.wrap n∧IntKind.i64.wrap n≤9223372036854775807:=by
    simp only [IntKind.wrap,IntKind.signed,IntKind.bits];simp;omega
  exact i9 this.1 this.2
theorem NA.sum (a b:iC):NA (ja a b):=⟨wrap_wrap _,wrap_wrap _,wrap_wrap _⟩
theorem NA.zero:NA ⟨0,0,0⟩:=⟨by decide,by decide,by decide⟩
theorem FD {a:iC} (h:NA a):ja a ⟨0,0,0⟩=a:=by
  obtain ⟨h1,h2,h3⟩:=h
  unfold ja
  simp only [Int.add_zero,h1,h2,h3]
def mD (t:List iz):iC:=if kp t then jJ ⟨0,0,0⟩ t else ⟨0,0,0⟩
theorem E1 {N:Nat} (hN:im≤N) {t:List iz} (hB:t.length<im):ru N t=some (mD t):=by
  unfold ru mD
  rw [v9 hN,Option.bind_some,zv hN hB]
  cases kp t <;> rfl
theorem Bx:∀ (t:List iz) (s:iC),NA s→(∀ r,r ∈ t→r.live=false→r.iX=⟨0,0,0⟩)→t.foldl (fun s r=>ja s r.iX) s=jJ s t
  | [],s,_,_=>rfl
  | r::t,s,hs,h=>by
    unfold jJ
    simp only [List.foldl_cons]
    cases hl:r.live
    · rw [h r (by simp) hl,FD hs]
      exact Bx t s hs fun x hx=>h x (by simp [hx])
    · exact Bx t _ (NA.sum _ _) fun x hx=>h x (by simp [hx])
structure Tr (t:List iz):Prop where
  len:t.length=5
  DH:(nth t 0).live=true
  Js:(nth t 0).parent=-1
  dead:∀ r,r ∈ t→r.live=false→r=uG
  iX:∀ r,r ∈ t→jl r.iX=true
  lead:∀ (k:Nat) (r:iz),t[k]?=some r→r.live=true→leads t 5 (k:Int)=true
  sum:jl (jJ ⟨0,0,0⟩ t)=true
theorem F7:jl uG.iX=true:=by decide
theorem qK {t:List iz}:kp t=true ↔ Tr t:=by
  unfold kp
  simp only [Bool.and_eq_true,Bool.not_eq_true',bne_eq_false_iff_eq,n4,Nat.zero_add]
  constructor
  · rintro ⟨h1,h2,h3,h4,h5⟩
    have hm:∀ r,r ∈ t→∃ k:Nat,t[k]?=some r:=fun o ho=>List.getElem?_of_mem ho
    refine ⟨by omega,h2,h3,fun r hr hl=>?_,fun r hr=>?_,fun k r hk hl=>?_,h5⟩
    · obtain ⟨k,hk⟩:=hm r hr
      have:=h4 k r hk
      unfold pT at this
      simpa [hl] using this
    · obtain ⟨k,hk⟩:=hm r hr
      have:=h4 k r hk
      unfold pT at this
      split at this
      · simp only [Bool.and_eq_true] at this;exact this.1
      · simp only [decide_eq_true_eq] at this;rw [this];exact F7
    · have:=h4 k r hk
      unfold pT at this
      rw [if_pos hl] at this
      simp only [Bool.and_eq_true] at this
      exact this.2
  · intro h
    refine ⟨by have:=h.len;omega,h.DH,h.Js,fun k r hr=>?_,h.sum⟩
    unfold pT
    have hm:=List.mem_of_getElem? hr
    cases hl:r.live
    · simp [h.dead r hm hl]
    · simp [h.iX r hm,h.lead k r hr hl]
theorem zR {N:Nat} (hN:im≤N) {t:List iz} (hB:t.length<im):pD N t=some (mD t):=by
  unfold pD mD
  rw [tx hN,Option.bind_some]
  cases h:kp t
  · rfl
  have ht:=qK.1 h
  simp only [Bool.not_true,cond_false,if_true]
  rw [show ((0:Int),(0:Int),(0:Int),(0:Int))=(fun (k:Nat) (s:iC)=>((k:Int),s.bh,s.ig,s.iB)) 0 ⟨0,0,0⟩ from rfl,
    kV t (fun (k:Nat) (s:iC)=>((k:Int),s.bh,s.ig,s.iB)) (fun _ s r=>ja s r.iX) (fun s=>((t.length:Int),s.bh,s.ig,s.iB)) (fun _ _=>True) ?_ ?_ (Nat.lt_of_lt_of_le hB hN) trivial,l8,Bx t _ NA.zero fun r hr hl=>by rw [ht.dead r hr hl];rfl]
  · rfl
  · intro k s r hy hk _
    simp only [jC hk,cond_true,iW,hy,Option.bind_some,tq,jD (Nat.lt_trans hk hB)]
    exact ⟨trivial,trivial⟩
  · intro s _
    simp only [jB,cond_false]
def held (p:hZ):Int:=((p.heap.ag.take 10).filter ku).foldl (fun n o=>IntKind.i64.wrap (n+o.bh)) 0
theorem foldl_filter {α β:Type} (p:α→Bool) (g:β→α→β):∀ (l:List α) (b:β),(l.filter p).foldl g b=l.foldl (fun b y=>if p y then g b y else b) b
  | [],_=>rfl
  | y::l,b=>by
    rw [List.filter_cons,List.foldl_cons]
    cases h:p y
    · simp [foldl_filter p g l]
    · simp [foldl_filter p g l]
theorem foldl_map' {α β γ:Type} (f:α→γ) (g:β→γ→β):∀ (l:List α) (b:β),(l.map f).foldl g b=l.foldl (fun b y=>g b (f y)) b
  | [],_=>rfl
  | y::l,b=>by simp [foldl_map' f g l]
theorem Ag {α β:Type} (p:α→Bool) (h:α→β):∀ (l:List α) (k:Nat),mc (fun _ y=>p y) (fun _ y=>h y) k l=(l.filter p).map h
  | [],_=>rfl
  | y::l,k=>by
    unfold mc
    rw [Ag p h l,List.filter_cons]
    split <;> simp
theorem HB {N:Nat} (hN:im≤N) {p:hZ} (hb:jd p<im) (hw:wP p):uH N p=some (held p):=by
  have h4:=(kg hb).2.2.2.1
  have hl:=kY h4
  have hN':16777216≤N:=hN
  unfold uH held
  rw [foldl_filter,show ((0:Int),(0:Int))=(fun (k:Nat) (n:Int)=>(n,(k:Int))) 0 0 from rfl,
    kV (p.heap.ag.take 10) (fun (k:Nat) (n:Int)=>(n,(k:Int))) (fun _ n o=>if ku o then IntKind.i64.wrap (n+o.bh) else n) (fun n=>(n,(((p.heap.ag.take 10).length:Nat):Int))) (fun _ _=>True) ?_ ?_ (by simp;omega) trivial,l8]
  · rfl
  · intro k n y hy hk _
    have hk2:k<10∧k<p.heap.ag.length:=by simp at hk;omega
    rw [List.getElem?_take_of_lt hk2.1] at hy
    have hm:=List.mem_of_getElem? hy
    have h3:decide ((k:Int)<10)=true:=by simp;omega
    refine ⟨?_,trivial⟩
    simp only [jC hk2.2,h3,cond_true,iW,hy,Option.bind_some,CQ hN (jM h4 hm) (hw y hm),jD (show k<im from Nat.lt_trans hk2.1 (by decide))]
    cases ku y <;> rfl
  · intro n _
    simp only [List.length_take]
    rcases Nat.lt_or_ge 10 p.heap.ag.length with h | h
    · have e:min 10 p.heap.ag.length=10:=by omega
      have h3:decide (((10:Nat):Int)<(p.heap.ag.length:Int))=true:=by simp;omega
      simp only [e,h3,cond_true];rfl
    · have e:min 10 p.heap.ag.length=p.heap.ag.length:=by omega
      simp only [e,jB,cond_false,Option.bind_some]
def view (o:cd):oh:=oh.mk o.gen o.kind o.box o.res o.iP o.bh o.wait o.iN o.iO o.mark
theorem Il (n:Nat):(if (10:Int)<(n:Int) then (10:Int) else (n:Int))=((min 10 n:Nat):Int):=by split <;> omega
theorem AH {N:Nat} (hN:im≤N) {p:hZ} (hb:jd p<im):nU N p=some (((p.heap.ag.take 10).filter ku).map view):=by
  have h4:=(kg hb).2.2.2.1
  have h10:jo iD (p.heap.ag.take 10)<im:=Nat.lt_of_le_of_lt (F8 _ _ _) h4
  have hl:=kY h10
  unfold nU
  have e:p.heap.ag.take (min 10 p.heap.ag.length)=p.heap.ag.take 10:=by
    rcases Nat.lt_or_ge 10 p.heap.ag.length with h | h
    · rw [show min 10 p.heap.ag.length=10 by omega]
    · rw [show min 10 p.heap.ag.length=p.heap.ag.length by omega,List.take_of_length_le h,List.take_length]
  rw [Il,vP (by omega),e,Option.bind_some,r8 (p.heap.ag.take 10) (fun _ o=>ku o) (fun _ o=>view o) hl hN,Ag]
  · rfl
  · intro k t y hy hk ht
    have hz:=jM h10 (List.mem_of_getElem? hy)
    simp only [jC hk,cond_true,iW,hy,Option.bind_some,C5 hN hz,jD (Nat.lt_trans hk hl),kS ht (Nat.lt_of_le_of_lt hk hl)]
    cases ku y <;> rfl
  · intro t
    simp only [jB,cond_false]
theorem HU {N:Nat} (hN:im≤N) {p:hZ} (hb:jd p<im):uS N p=some (held p):=by
  unfold uS held
  rw [AH hN hb,Option.bind_some]
  have hl:(((p.heap.ag.take 10).filter ku).map view).length<im:=by
    have h1:=List.length_filter_le ku (p.heap.ag.take 10)
    have h2:(16777216:Nat)=im:=rfl
    simp only [List.length_map]
    simp only [List.length_take] at h1
    omega
  have e:=foldl_map' view (fun (n:Int) (o:oh)=>IntKind.i64.wrap (n+o.bh)) ((p.heap.ag.take 10).filter ku) 0
  generalize ((p.heap.ag.take 10).filter ku).map view=v at *
  rw [show ((0:Int),(0:Int))=(fun (k:Nat) (n:Int)=>(n,(k:Int))) 0 0 from rfl,
    kV v (fun (k:Nat) (n:Int)=>(n,(k:Int))) (fun _ n o=>IntKind.i64.wrap (n+o.bh)) (fun n=>(n,(v.length:Int))) (fun _ _=>True) ?_ ?_ (Nat.lt_of_lt_of_le hl hN) trivial,l8,e]
  · rfl
  · intro k n y hy hk _
    simp only [jC hk,cond_true,iW,hy,Option.bind_some,jD (Nat.lt_trans hk hl)]
    exact ⟨trivial,trivial⟩
  · intro n _
    simp only [jB,cond_false]
def qY (p:hZ):iC:=if jl p.gE then ja ⟨IntKind.i64.wrap ((mD p.tree).bh+held p),(mD p.tree).ig,(mD p.tree).iB⟩ p.gE else mD p.tree
theorem EM {N:Nat} (hN:im≤N) {p:hZ} (hb:jd p<im):rE N p=some (qY p):=by
  unfold rE qY
  simp only [zR hN (kg hb).2.2.1,qM,HU hN hb,tq,Option.bind_some]
  cases jl p.gE <;> rfl
theorem EN {N:Nat} (hN:im≤N) {p:hZ} (hb:jd p<im) (hw:wP p):rq N p=some (qY p):=by
  unfold rq qY
  simp only [E1 hN (kg hb).2.2.1,qZ,HB hN hb hw,Option.bind_some]
  cases jl p.gE <;> rfl
def uE (s:iC) (l:List hZ):iC:=l.foldl (fun s p=>ja s (qY p)) s
def ks (w:iQ):Bool:=iG w.now 0 1000000&&(iG (w.parts.length:Int) 1 3&&(w.parts.all kl&&jl (uE ⟨0,0,0⟩ w.parts)))
def wW (l:List hZ):Prop:=∀ p,p ∈ l→wP p
theorem Ft {N:Nat} (hN:im≤N) {l:List hZ} (hb:jo jd l<im) (hw:wW l):tk N l=some (uE ⟨0,0,0⟩ l):=by
  have hB:=kY hb
  unfold tk uE
  rw [show ((0:Int),(0:Int),(0:Int),(0:Int))=(fun (k:Nat) (s:iC)=>((k:Int),s.bh,s.ig,s.iB)) 0 ⟨0,0,0⟩ from rfl,
    kV l (fun (k:Nat) (s:iC)=>((k:Int),s.bh,s.ig,s.iB)) (fun _ s p=>ja s (qY p)) (fun s=>((l.length:Int),s.bh,s.ig,s.iB)) (fun _ _=>True) ?_ ?_ (Nat.lt_of_lt_of_le hB hN) trivial,l8]
  · rfl
  · intro k s p hy hk _
    have hm:=List.mem_of_getElem? hy
    simp only [jC hk,cond_true,iW,hy,Option.bind_some,EN hN (jM hb hm) (hw p hm),jD (Nat.lt_trans hk hB)]
    exact ⟨rfl,trivial⟩
  · intro s _
    simp only [jB,cond_false]
theorem xa {N:Nat} (hN:im≤N) {w:iQ} (hb:jo jd w.parts<im) (hw:wW w.parts):n7 N w=some (ks w):=by
  have hB:=kY hb
  unfold n7 ks
  simp only [l6,Option.bind_some,kG]
  cases iG w.now 0 1000000
  · rfl
  cases iG (w.parts.length:Int) 1 3
  · rfl
  simp only [Bool.not_true,Bool.or_self,cond_false,Bool.true_and]
  rw [kj w.parts (fun _ p=>kl p) (.inl (w.parts.length:Int)) (.inr false) (Nat.lt_of_lt_of_le hB hN),kF]
  · simp only [Option.bind_some,Ft hN hb hw,qZ]
    cases w.parts.all kl <;> rfl
  · intro k y hy hk
    have hm:=List.mem_of_getElem? hy
    simp only [jC hk,cond_true,iW,hy,Option.bind_some,x6 hN (jM hb hm) (hw y hm),jD (Nat.lt_trans hk hB)]
    cases kl y <;> rfl
  · simp only [jB,cond_false]
theorem As {N:Nat} (hN:im≤N) {w:iQ} (hb:jo jd w.parts<im):pH N w=some (ks w):=by
  have hB:=kY hb
  unfold pH ks
  simp only [uT,mI,Option.bind_some,kG]
  cases iG w.now 0 1000000
  · rfl
  cases iG (w.parts.length:Int) 1 3
  · rfl
  simp only [Bool.not_true,Bool.or_self,cond_false,Bool.true_and]
  rw [show ((0:Int),(0:Int),(0:Int),(0:Int))=(fun (k:Nat) (s:iC)=>((k:Int),s.bh,s.ig,s.iB)) 0 ⟨0,0,0⟩ from rfl,
    mY w.parts (fun (k:Nat) (s:iC)=>((k:Int),s.bh,s.ig,s.iB)) (fun _ s p=>if kl p then .inl (ja s (qY p)) else .inr (.inr false)) (fun s=>.inl ((w.parts.length:Int),s.bh,s.ig,s.iB)) (fun _ _=>True) ?_ ?_ (Nat.lt_of_lt_of_le hB hN) trivial]
  · simp only [Option.bind_some,qM]
    have key:∀ (l:List hZ) (k:Nat) (s:iC),Sum.elim (fun (o56:Int×Int×Int×Int)=>some (jl (iC.mk o56.2.1 o56.2.2.1 o56.2.2.2))) (fun r61=>some r61) (lT (fun _ s p=>if kl p then .inl (ja s (qY p)) else .inr (.inr false)) (fun s=>.inl ((w.parts.length:Int),s.bh,s.ig,s.iB)) k s l)=some (l.all kl&&jl (uE s l)):=by
      intro l
      induction l with
      | nil=>intro k s;rfl
      | cons p l ih =>
        intro k s
        unfold lT
        rw [List.all_cons]
        cases hp:kl p
        · rfl
        · simpa [uE] using ih (k+1) (ja s (qY p))
    exact key w.parts 0 _
  · intro k s p hy hk _
    have hm:=List.mem_of_getElem? hy
    refine ⟨?_,fun _ _=>trivial⟩
    simp only [jC hk,cond_true,iW,hy,Option.bind_some,yh hN (jM hb hm),EM hN (jM hb hm),tq,jD (Nat.lt_trans hk hB)]
    cases kl p <;> rfl
  · intro s _
    simp only [jB,cond_false]
end Go.Kx
/- Plain laws: handles. No program in sight. -/
namespace Go.Kx
open Go
set_option linter.unusedVariables false
set_option linter.unusedSimpArgs false
set_option maxRecDepth 10000
def mT (h:Int):Bool:=iG h 0 29999
def mG (h:Int):Int:=if mT h then h % 3 else -1
def mU (h:Int):Int:=if mT h then h / 3 % 10 else -1
def xY (h:Int):Int:=if mT h then h / 3 / 10 else -1
theorem zt {h:Int}:mT h=true ↔ 0≤h∧h≤29999:=jE
theorem hdiv {h:Int} (q:mT h=true):IntKind.i64.wrap (Int.tdiv h 3)=h / 3∧Int.tmod h 3=h % 3∧Int.tmod (h / 3) 10=h / 3 % 10∧IntKind.i64.wrap (Int.tdiv (h / 3) 10)=h / 3 / 10:=by
  rw [zt] at q
  have h3:0≤h / 3:=by omega
  refine ⟨?_,Int.tmod_eq_emod_of_nonneg q.1,Int.tmod_eq_emod_of_nonneg h3,?_⟩
  · rw [Int.tdiv_eq_ediv_of_nonneg q.1,i9 (by omega) (by omega)]
  · rw [Int.tdiv_eq_ediv_of_nonneg h3,i9 (by omega) (by omega)]
theorem uF (N:Nat) (h:Int):l5 N h=some (mG h):=by
  unfold l5 mG
  rw [oX,Option.bind_some]
  cases q:iG h 0 29999
  · simp [mT,q]
  · simp [mT,q,(hdiv (h:=h) q).2.1]
theorem sH (N:Nat) (h:Int):lD N h=some (mG h):=by
  unfold lD mG
  rw [qS,Option.bind_some]
  cases q:iG h 0 29999
  · simp [mT,q]
  · simp [mT,q,(hdiv (h:=h) q).2.1]
theorem BT (N:Nat) (h:Int):oD N h=some (mU h):=by
  unfold oD mU
  rw [oX,Option.bind_some]
  cases q:iG h 0 29999
  · simp [mT,q]
  · simp [mT,q,(hdiv (h:=h) q).1,(hdiv (h:=h) q).2.2.1]
theorem BO (N:Nat) (h:Int):oy N h=some (mU h):=by
  unfold oy mU
  rw [qS,Option.bind_some]
  cases q:iG h 0 29999
  · simp [mT,q]
  · simp [mT,q,(hdiv (h:=h) q).1,(hdiv (h:=h) q).2.2.1]
theorem B3 (N:Nat) (h:Int):pj N h=some (xY h):=by
  unfold pj xY
  rw [oX,Option.bind_some]
  cases q:iG h 0 29999
  · simp [mT,q]
  · simp [mT,q,(hdiv (h:=h) q).1,(hdiv (h:=h) q).2.2.2]
theorem Cn (N:Nat) (h:Int):oY N h=some (xY h):=by
  unfold oY xY
  rw [qS,Option.bind_some]
  cases q:iG h 0 29999
  · simp [mT,q]
  · simp [mT,q,(hdiv (h:=h) q).1,(hdiv (h:=h) q).2.2.2]
def tz (p i g:Int):Int:=if iG p 0 2&&(iG i 0 9&&iG g 0 999) then IntKind.i64.wrap ((IntKind.i64.wrap ((IntKind.i64.wrap ((IntKind.i64.wrap (g * 10))+i)) * 3))+p) else -1
theorem yq (N:Nat) (p i g:Int):oA N p i g=some (tz p i g):=by
  unfold oA tz
  simp only [yg,tw,mI,Option.bind_some,kG]
  cases iG p 0 2 <;> cases iG i 0 9 <;> cases iG g 0 999 <;> rfl
theorem ud (N:Nat) (p i g:Int):mB N p i g=some (tz p i g):=by
  unfold mB tz
  simp only [rW,l6,Option.bind_some,kG]
  cases iG p 0 2 <;> cases iG i 0 9 <;> cases iG g 0 999 <;> rfl
theorem EY {h:Int} (q:0≤mG h):mT h=true∧0≤mU h∧mU h≤9:=by
  unfold mG at q
  unfold mU
  cases hk:mT h
  · simp [hk] at q
  · rw [zt] at hk
    simp only [if_true]
    exact ⟨trivial,by omega,by omega⟩
def jA (w:iQ) (p:Int):Bool:=iG p 0 ((w.parts.length:Int) - 1)
theorem wT {N:Nat} {w:iQ} (hl:w.parts.length<im) (p:Int):n5 N w p=some (jA w p):=by
  have hl:w.parts.length<16777216:=hl
  unfold n5 jA
  rw [mI,i9 (by omega) (by omega)];rfl
theorem j7 {w:iQ} {p:Int} (h:jA w p=true):idx w.parts p=some (nth w.parts p)∧nth w.parts p ∈ w.parts:=by
  unfold jA at h
  rw [jE] at h
  exact ⟨jy h.1 (by omega),pI h.1 (by omega)⟩
end Go.Kx
/- The plain law of 'FnExactOwning'. No program in sight. -/
namespace Go.Kx
open Go
set_option linter.unusedVariables false
set_option linter.unusedSimpArgs false
set_option maxRecDepth 10000
def tG (own:List Int) (a b:jf):List Int:=if kv own a b then nt b.levels 0 a.levels else []
theorem qR {N:Nat} (hN:im≤N) {own:List Int} {a b:jf} (ho:own.length<im) (ha:a.levels.length<im) (hb:b.levels.length<im):lO N own a b=some (kv own a b):=by
  unfold lO kv
  simp only [xz hN ho,pY hN ha,pY hN hb,Option.bind_some,kG]
  cases h1:lG own
  · rfl
  cases h2:jH a
  · rfl
  cases h3:jH b
  · rfl
  have l2:=(lI.1 h2).1
  have l3:=(lI.1 h3).1
  simp only [Bool.not_true,Bool.or_self,cond_false,Bool.true_and]
  rw [EC a.levels l2 (fun k y=>!decide (y > (b.levels[k]?).getD 0) || own.contains (k:Int)) (.inl 4) (.inr false) hN]
  · simp only [Option.bind_some]
    cases allI _ 0 a.levels <;> rfl
  · intro k y hy hk hd
    have hz:b.levels[k]?=some (b.levels[k]'(by omega)):=List.getElem?_eq_getElem _
    simp only [hd,cond_true,iW,hy,hz,Option.bind_some,Option.getD_some,vL hN ho,jD (show k<im from Nat.lt_trans hk (by decide))]
    cases decide (y > b.levels[k]'(by omega)) <;> cases own.contains (k:Int) <;> rfl
  · rfl
theorem C6 {N:Nat} (hN:im≤N) {own:List Int} {a b:jf} (ho:own.length<im) (ha:a.levels.length<im) (hb:b.levels.length<im):sg N own a b=some (tG own a b):=by
  unfold sg tG
  rw [yX hN ho ha hb,Option.bind_some]
  cases h:kv own a b
  · rfl
  · unfold kv at h
    simp only [Bool.and_eq_true] at h
    have l2:=(lI.1 h.2.1).1
    have l3:=(lI.1 h.2.2.1).1
    simp only [Bool.not_true,cond_false,if_true,Dc hN ha (b:=b) (by omega),Option.bind_some]
theorem C9 {N:Nat} (hN:im≤N) {own:List Int} {a b:jf} (ho:own.length<im) (ha:a.levels.length<im) (hb:b.levels.length<im):sh N own a b=some (tG own a b):=by
  unfold sh tG
  rw [qR hN ho ha hb,Option.bind_some]
  cases h:kv own a b
  · rfl
  · unfold kv at h
    simp only [Bool.and_eq_true] at h
    have l2:=(lI.1 h.2.1).1
    have l3:=(lI.1 h.2.2.1).1
    simp only [Bool.not_true,cond_false,if_true]
    rw [show (([]:List Int),(0:Int))=(fun (k:Nat) (t:List Int)=>(t,(k:Int))) 0 [] from rfl,
      kV a.levels (fun k (t:List Int)=>(t,(k:Int))) (fun k acc y=>if decide (y > (b.levels[k]?).getD 0) then acc++[(k:Int)] else acc) (fun t=>(t,(4:Int))) (fun k t=>t.length≤k) ?_ ?_ (Nat.lt_of_lt_of_le ha hN) (by simp),vo]
    · simp
    · intro k t y hy hk hI
      have hz:b.levels[k]?=some (b.levels[k]'(by omega)):=List.getElem?_eq_getElem _
      have hd:decide ((k:Int)<4)=true:=by simp;omega
      simp only [hd,cond_true,iW,hy,hz,Option.bind_some,Option.getD_some,jD (Nat.lt_trans hk ha),kS hI (Nat.lt_of_le_of_lt hk ha)]
      cases decide (y > b.levels[k]'(by omega))
      · exact ⟨rfl,by simp;omega⟩
      · exact ⟨rfl,by simp;omega⟩
    · intro t _
      rw [l2];rfl
def target (p:Int) (c:iL):Int:=if (c.kind==7) || (c.kind==17) then mG c.a else if c.kind==16 then c.b else p
def other (w:iQ) (p:Int) (c:iL):Int:=if jA w (target p c) then target p c else -1
theorem xT {N:Nat} {w:iQ} (hl:w.parts.length<im) (p:Int) (c:iL):nA N w p c=some (other w p c):=by
  unfold nA other target
  simp only [uF,wT hl,Option.bind_some]
  cases c.kind==7 <;> cases c.kind==17 <;> cases c.kind==16 <;> simp only [cond_true,cond_false,Option.bind_some,Bool.or_self,Bool.or_true,Bool.true_or,Bool.or_false,if_true,if_false,Bool.false_eq_true] <;>
    first | (cases jA w (mG c.a) <;> rfl) | (cases jA w c.b <;> rfl) | (cases jA w p <;> rfl)
theorem xE {N:Nat} {w:iQ} (hl:w.parts.length<im) (p:Int) (c:iL):mL N w p c=some (other w p c):=by
  have hl:w.parts.length<16777216:=hl
  unfold mL other target jA
  simp only [sH,l6,Option.bind_some]
  rw [i9 (by omega) (by omega)]
  cases c.kind==7 <;> cases c.kind==17 <;> cases c.kind==16 <;> simp only [cond_true,cond_false,Option.bind_some,Bool.or_self,Bool.or_true,Bool.true_or,Bool.or_false,if_true,if_false,Bool.false_eq_true] <;>
    first | (cases iG (mG c.a) 0 ((w.parts.length:Int) - 1) <;> rfl) | (cases iG c.b 0 ((w.parts.length:Int) - 1) <;> rfl) | (cases iG p 0 ((w.parts.length:Int) - 1) <;> rfl)
theorem qy {w:iQ} {p:Int} {c:iL} (h:decide (other w p c<0)=false):jA w (other w p c)=true:=by
  unfold other at h ⊢
  cases hp:jA w (target p c)
  · simp [hp] at h
  · simp [hp]
def vA (w:iQ) (p:Int) (c:iL):List Int :=
  if ks w&&(jA w p&&!decide (other w p c<0)) then
    (if c.kind==7 then tG (nth w.parts p).own (nth w.parts (other w p c)).label (nth w.parts p).label else tG (nth w.parts p).own (nth w.parts p).label (nth w.parts (other w p c)).label)
  else []
theorem yj {N:Nat} (hN:im≤N) {w:iQ} {p:Int} {c:iL} (hb:jo jd w.parts<im):qN N w p c=some (vA w p c):=by
  unfold qN vA
  simp only [As hN hb,wT (kY hb),xT (kY hb),Option.bind_some,kG]
  cases hw:ks w
  · rfl
  cases hp:jA w p
  · rfl
  simp only [Bool.not_true,Bool.or_self,cond_false,Bool.true_and]
  cases hq:decide (other w p c<0)
  · obtain ⟨p1,p2⟩:=j7 hp
    obtain ⟨q1,q2⟩:=j7 (qy hq)
    obtain ⟨a1,a2,_⟩:=kg (jM hb p2)
    obtain ⟨b1,_⟩:=kg (jM hb q2)
    simp only [cond_false,p1,q1,Option.bind_some,Bool.not_false,if_true]
    rw [C6 hN a2 b1 a1,C6 hN a2 a1 b1]
    cases c.kind==7 <;> rfl
  · rfl
theorem Fs {N:Nat} (hN:im≤N) {w:iQ} {p:Int} {c:iL} (hb:jo jd w.parts<im) (hW:wW w.parts):sX N w p c=some (vA w p c):=by
  have hl:w.parts.length<16777216:=kY hb
  unfold sX vA
  simp only [xa hN hb hW,l6,xE (kY hb),Option.bind_some,kG]
  rw [i9 (by omega) (by omega),show iG p 0 ((w.parts.length:Int) - 1)=jA w p from rfl]
  cases hw:ks w
  · rfl
  cases hp:jA w p
  · rfl
  simp only [Bool.not_true,Bool.false_or,Bool.true_and]
  cases hq:decide (other w p c<0)
  · obtain ⟨p1,p2⟩:=j7 hp
    obtain ⟨q1,q2⟩:=j7 (qy hq)
    obtain ⟨a1,a2,_⟩:=kg (jM hb p2)
    obtain ⟨b1,_⟩:=kg (jM hb q2)
    simp only [cond_false,p1,q1,Option.bind_some,Bool.not_false,if_true]
    rw [C9 hN a2 b1 a1,C9 hN a2 a1 b1]
    cases c.kind==7 <;> rfl
  · rfl
end Go.Kx
/- Plain laws: what may run; what is safe to collect. No program in sight. -/
namespace Go.Kx
open Go
set_option linter.unusedVariables false
set_option linter.unusedSimpArgs false
set_option maxRecDepth 10000
theorem sm {t:List iz} (h:kp t=true):t.length=5:=(qK.1 h).len
def pV (p:hZ) (i:Int):Int:=if kp p.tree&&jI p.tree i then i else 0
theorem mf {t:List iz} {i:Int} (h:jI t i=true):0≤i∧i≤4:=by
  unfold jI at h
  simp only [Bool.and_eq_true,jE] at h
  exact h.1
theorem zM (p:hZ) (i:Int):0≤pV p i∧pV p i≤4:=by
  unfold pV
  split
  · rename_i h
    simp only [Bool.and_eq_true] at h
    exact mf h.2
  · omega
theorem CO {N:Nat} (hN:im≤N) (p:hZ) (i:Int):sb N p i=some (pV p i):=by
  unfold sb pV
  rw [tx hN,Option.bind_some]
  cases h:kp p.tree
  · rfl
  · simp only [Bool.not_true,cond_false,r7 N (sm h),Option.bind_some,Bool.true_and]
    cases jI p.tree i <;> rfl
theorem tv {N:Nat} (hN:im≤N) (t:List iz) (i:Int):mh N t i=some (kp t&&jI t i):=by
  unfold mh jI
  simp only [v9 hN,uy,Option.bind_some]
  cases h:kp t
  · rfl
  have hl:=sm h
  cases hi:iG i 0 4
  · rfl
  · simp only [cond_true,za hi (by omega) (show (4:Int)<(t.length:Int) by omega),Option.bind_some,Bool.true_and]
theorem CS {N:Nat} (hN:im≤N) (p:hZ) (i:Int):sx N p i=some (pV p i):=by
  unfold sx pV
  rw [tv hN,Option.bind_some]
  cases (kp p.tree&&jI p.tree i) <;> rfl
theorem vj {p:hZ} (h:kl p=true):kp p.tree=true:=by
  unfold kl at h
  simp only [Bool.and_eq_true] at h
  exact h.2.2.1
theorem Ds {p:hZ} (h:kl p=true) {i:Int} (h0:0≤i) (h4:i≤4):idx p.tree i=some (nth p.tree i):=jy h0 (by have:=sm (vj h);omega)
def yE (p:hZ) (i:Int):iC:=(nth p.tree (pV p (nth p.heap.ag i).res)).iX
theorem He {N:Nat} (hN:im≤N) {p:hZ} (h:kl p=true) {i:Int} (h0:0≤i) (h9:i≤9):tM N p i=some (yE p i):=by
  unfold tM yE
  obtain ⟨r0,r4⟩:=zM p (nth p.heap.ag i).res
  simp only [((m9 h).at h0 h9).1,Option.bind_some,CO hN,Ds h r0 r4]
end Go.Kx
/- Plain laws: who is HF, who Im. No program in sight. -/
namespace Go.Kx
open Go
set_option linter.unusedVariables false
set_option linter.unusedSimpArgs false
set_option maxRecDepth 10000
def better (p:hZ) (v i:Int):Int:=if decide ((yE p i).iB≤(yE p v).iB) then i else v
def BB (p:hZ) (now:Int):Int:=match threads p now with
  | a::b::l=>(b::l).foldl (better p) a
  | _=>-1
theorem DS {p:hZ} {now y:Int} (h:y ∈ threads p now):kl p=true∧0≤y∧y≤9:=vi h
def rX (p:hZ) (l:List cd):hZ:=hZ.mk p.label p.own p.tree (ir.mk l p.heap.gc) p.ic p.next p.want p.gE p.ik p.lost
def ET (o:cd) (t:Int):cd:=cd.mk o.gen o.kind o.box o.res t o.bh o.wait o.iN o.iO o.mark o.ij o.data o.queue
def HF (p:hZ) (now:Int):List cd:=if decide (BB p now ≥ 0) then p.heap.ag.set (BB p now).toNat (ET (nth p.heap.ag (BB p now)) (IntKind.i64.wrap (now - 1))) else p.heap.ag
def zi (l:List cd) (now part h:Int):Bool:=(kh l&&(mT h&&(mG h==part)))&&(((nth l (mU h)).kind != 0)&&(((nth l (mU h)).gen==xY h)&&nth (reach l now) (mU h)))
def iE (l:List cd) (now part h:Int):Int:=bif zi l now part h then mU h else -1
theorem ya {h:Int} (q:mT h=true):0≤mU h∧mU h≤9:=(EY (h:=h) (by unfold mG;rw [q,if_pos rfl];rw [zt] at q;omega)).2
theorem wk {N:Nat} (hN:im≤N) {l:List cd} (hb:jo iD l<im) (now part h:Int):nj N l now part h=some (iE l now part h):=by
  unfold nj iE zi
  simp only [Dl hN hb,oX,uF,BT,B3,Option.bind_some,kG]
  cases ha:kh l
  · have e:reach l now=[]:=by unfold reach;rw [ha];rfl
    rw [e];rfl
  have har:=kz.1 ha
  have hl:=qf har now
  rw [show (((reach l now).length:Int)==0)=false by rw [hl];rfl,show iG h 0 29999=mT h from rfl]
  cases hh:mT h
  · rfl
  obtain ⟨s0,s9⟩:=ya hh
  simp only [bne,(har.at s0 s9).1,jy (l:=reach l now) s0 (by omega),Option.bind_some]
  cases mG h==part <;> cases (nth l (mU h)).kind==0 <;> cases (nth l (mU h)).gen==xY h <;> cases nth (reach l now) (mU h) <;> rfl
theorem we {N:Nat} (hN:im≤N) {l:List cd} (hb:jo iD l<im) (hw:wA l) (now part h:Int):nm N l now part h=some (iE l now part h):=by
  unfold nm iE zi
  simp only [qb hN hb hw,Dq hN hb hw,qS,sH,BO,Cn,Option.bind_some,kG]
  cases ha:kh l
  · rfl
  have har:=kz.1 ha
  have hl:=qf har now
  rw [show iG h 0 29999=mT h from rfl]
  cases hh:mT h
  · rfl
  obtain ⟨s0,s9⟩:=ya hh
  simp only [bne,(har.at s0 s9).1,jy (l:=reach l now) s0 (by omega),Option.bind_some]
  cases mG h==part <;> cases (nth l (mU h)).kind==0 <;> cases (nth l (mU h)).gen==xY h <;> cases nth (reach l now) (mU h) <;> rfl
def IG (p:hZ) (me now:Int) (o:cd):Bool:=decide (o.wait > 0)&&decide (iE p.heap.ag now me (IntKind.i64.wrap (o.wait - 1))<0)
def IE (o:cd):cd:=cd.mk o.gen o.kind o.box o.res o.iP o.bh 0 (-1) o.iO o.mark o.ij o.data o.queue
def Im (p:hZ) (me now:Int):List cd:=p.heap.ag.map fun o=>if IG p me now o then IE o else o
theorem yf {α:Type} {body:List α×Int→Option ((List α×Int)⊕(List α×Int))} (x:List α) (f:α→α) {N:Nat} (hN:x.length<N)
    (hs:∀ (k:Nat) (t:List α) (y:α),t.length=x.length→t[k]?=some y→x[k]?=some y→k<x.length→body (t,(k:Int))=some (.inl (t.set k (f y),((k+1:Nat):Int))))
    (he:∀ t,t.length=x.length→body (t,(x.length:Int))=some (.inr (t,(x.length:Int)))):iter body N (x,0)=some (x.map f,(x.length:Int)):=by
  have key:∀ (r:List α) (d d':List α) (M:Nat),d'.length=d.length→x=d'++r→r.length<M→iter body M (d++r,(d.length:Int))=some (d++r.map f,(x.length:Int)):=by
    intro r
    induction r with
    | nil =>
      intro d d' M hd hx hM
      cases M with
      | zero=>simp at hM
      | succ M =>
        have e:d.length=x.length:=by rw [hx];simp [hd]
        unfold iter
        rw [List.append_nil,e,he d e];simp
    | cons y r ih =>
      intro d d' M hd hx hM
      cases M with
      | zero=>simp at hM
      | succ M =>
        have hlen:(d++y::r).length=x.length:=by rw [hx];simp [hd]
        unfold iter
        rw [hs d.length (d++y::r) y hlen (by rw [List.getElem?_append_right (Nat.le_refl _)];simp) (by rw [hx,List.getElem?_append_right (by omega)];simp [hd]) (by rw [← hlen];simp)]
        have e:(d++y::r).set d.length (f y)=(d++[f y])++r:=by rw [List.set_append_right _ _ (Nat.le_refl _)];simp
        have e2:d.length+1=(d++[f y]).length:=by simp
        simp only [Option.bind_some,e]
        rw [e2,ih (d++[f y]) (d'++[y]) M (by simp [hd]) (by rw [hx];simp) (by simp at hM;omega)]
        simp
  exact key x [] [] N rfl rfl hN
theorem sy {α:Type} {l:List α} {k:Nat} {y:α} (h:l[k]?=some y):l.set k y=l:=by
  apply List.ext_getElem? fun i=>?_
  rw [List.getElem?_set]
  split
  · rename_i e
    subst e
    rw [if_pos (jx h),h]
  · rfl
theorem AX {f:cd→Nat} {g:cd→cd} (h:∀ o,f (g o)=f o):∀ l:List cd,oG f (l.map g)=oG f l
  | []=>rfl
  | o::l=>by simp only [List.map_cons,oG,h,AX h l]
theorem GD {f:cd→Nat} {g:cd→cd} (h:∀ o,f (g o)=f o) (l:List cd):jo f (l.map g)=jo f l:=by
  unfold jo;rw [AX h,List.length_map]
end Go.Kx
/- Plain laws: what is wE and wE back; who runs next. No program in sight. -/
namespace Go.Kx
open Go
set_option linter.unusedVariables false
set_option linter.unusedSimpArgs false
set_option maxRecDepth 10000
def rn (w n:Int):iC:=if w==0 then ⟨n,0,0⟩ else if w==1 then ⟨0,n,0⟩ else if w==2 then ⟨0,0,n⟩ else ⟨0,0,0⟩
theorem FE (N:Nat) (w n:Int):sV N w n=some (rn w n):=by
  unfold sV rn
  cases w==0 <;> cases w==1 <;> cases w==2 <;> rfl
theorem FU (N:Nat) (w n:Int):sY N w n=some (rn w n):=by
  unfold sY rn
  cases w==0 <;> cases w==1 <;> cases w==2 <;> rfl
def px (a b:iC):Bool:=jl a&&(jl b&&(decide (a.bh≤b.bh)&&(decide (a.ig≤b.ig)&&decide (a.iB≤b.iB))))
theorem Et (N:Nat) (a b:iC):rR N a b=some (px a b):=by
  unfold rR px
  simp only [qM,Option.bind_some,lu]
theorem EA (N:Nat) (a b:iC):rC N a b=some (px a b):=by
  unfold rC px
  simp only [qZ,Option.bind_some,lu]
def Bo (a b:iC):iC:=⟨IntKind.i64.wrap (a.bh - b.bh),IntKind.i64.wrap (a.ig - b.ig),IntKind.i64.wrap (a.iB - b.iB)⟩
def vG (a b:iC):iC×Bool:=if px b a then (Bo a b,true) else (a,false)
theorem FF (N:Nat) (a b:iC):sR N a b=some (vG a b):=by
  unfold sR vG
  rw [Et,Option.bind_some]
  cases px b a <;> rfl
theorem FG (N:Nat) (a b:iC):tb N a b=some (vG a b):=by
  unfold tb vG
  rw [EA,Option.bind_some]
  cases px b a <;> rfl
def zB (r:iz) (b:iC):iz:=iz.mk r.live r.parent b
theorem sD {α:Type} [iy α] {l:List α} {i:Int} (h0:0≤i) (h1:i<(l.length:Int)):l[i.toNat]?=some (nth l i):=by
  have:=jy (l:=l) h0 h1
  unfold idx at this
  rwa [if_pos h0] at this
def jU (t:List iz) (f:Int) (a:iC):List iz×Bool :=
  if kp t&&jI t f then (if px a (nth t f).iX then (t.set f.toNat (zB (nth t f) (Bo (nth t f).iX a)),true) else (t,false)) else (t,false)
theorem wD {N:Nat} (hN:im≤N) {t:List iz} (hB:t.length<im) (f:Int) (a:iC):nZ N t f a=some (jU t f a):=by
  unfold nZ jU
  simp only [oO hB,tx hN,Option.bind_some]
  cases ht:kp t
  · rfl
  have hl:=sm ht
  simp only [Bool.not_true,cond_false,r7 N hl,Option.bind_some]
  cases hv:jI t f
  · rfl
  obtain ⟨f0,f4⟩:=mf hv
  simp only [Bool.not_true,cond_false,jy (l:=t) f0 (by omega),FF,Option.bind_some,Bool.and_self,if_true]
  unfold vG
  cases px a (nth t f).iX
  · have:t.set f.toNat (iz.mk (nth t f).live (nth t f).parent (iC.mk (nth t f).iX.bh (nth t f).iX.ig (nth t f).iX.iB))=t:=sy (sD f0 (by omega))
    simp only [Bool.false_eq_true,if_false]
    rw [this]
  · rfl
theorem uV {N:Nat} (hN:im≤N) {t:List iz} (hB:t.length<im) (f:Int) (a:iC):mX N t f a=some (jU t f a):=by
  unfold mX jU
  simp only [pX hB,tv hN,Option.bind_some]
  cases h:(kp t&&jI t f)
  · rfl
  rw [Bool.and_eq_true] at h
  have hl:=sm h.1
  obtain ⟨f0,f4⟩:=mf h.2
  simp only [Bool.not_true,cond_false,jy (l:=t) f0 (by omega),FG,Option.bind_some,if_true]
  unfold vG
  cases px a (nth t f).iX <;> rfl
theorem mj (t:List iz) (f:Int) (a:iC):(jU t f a).1.length=t.length:=by
  unfold jU
  split
  · split <;> simp
  · rfl
end Go.Kx
/- Plain laws: what is freed, shaded, nP; a collector's step. No program in sight. -/
namespace Go.Kx
open Go
set_option linter.unusedVariables false
set_option linter.unusedSimpArgs false
set_option maxRecDepth 10000
def zr (i:Int) (x:Int):Int:=if x==i then -1 else x
def yU (i:Int) (o:cd):cd:=if o.kind==0 then o else cd.mk o.gen o.kind (if o.box==i then -1 else o.box) o.res o.iP o.bh o.wait o.iN o.iO o.mark (o.ij.map (zr i)) o.data o.queue
def mA (l:List cd) (i:Int):List cd×Bool:=if kh l&&(iG i 1 9&&((nth l i).kind != 0)) then ((l.set i.toNat (blank (nth l i).gen)).map (yU i),true) else (l,false)
theorem Ga {l:List cd} (h:Ar l) {i g:Int} {k:Nat} {y:cd} (hy:(l.set i.toNat (blank g))[k]?=some y) (hk:(y.kind==0)=false):ku y=true:=by
  rcases List.mem_or_eq_of_mem_set (List.mem_of_getElem? hy) with q | q
  · exact h.ok y q
  · rw [q] at hk;simp [blank] at hk
theorem wO {o:cd} (h:ku o=true) (hk:(o.kind==0)=false):o.ij.length=2:=by
  unfold ku at h
  simp only [hk,cond_false,Bool.and_eq_true] at h
  obtain ⟨_,_,_,_,_,_,hl,_⟩:=h
  unfold sd at hl
  simp only [Bool.and_eq_true,beq_iff_eq] at hl
  omega
theorem xN {N:Nat} (hN:im≤N) {l:List cd} (hb:jo iD l<im) (hw:wA l) (i:Int):ny N l i=some (mA l i):=by
  unfold ny mA
  simp only [yb hN hb,qb hN hb hw,l6,Option.bind_some]
  cases ha:kh l
  · rfl
  have h:=kz.1 ha
  cases hi:iG i 1 9
  · rfl
  have hr:=jE.1 hi
  simp only [Bool.not_true,cond_false,(h.at (i:=i) (by omega) hr.2).1,Option.bind_some,bne,Bool.true_and]
  cases hk:(nth l i).kind==0
  · simp only [cond_false,Bool.not_false,if_true]
    rw [show cd.mk (nth l i).gen 0 0 0 0 0 0 0 0 false [] [] []=blank (nth l i).gen from rfl]
    have hlen:(l.set i.toNat (blank (nth l i).gen)).length=l.length:=List.length_set
    rw [yf (l.set i.toNat (blank (nth l i).gen)) (yU i) (by rw [hlen];exact Nat.lt_of_lt_of_le h.vV hN)]
    · rfl
    · intro k t y ht hty hy hkl
      have hk10:k<10:=by rw [hlen,h.len] at hkl;exact hkl
      have hkt:k<t.length:=jx hty
      simp only [jC hkt,cond_true,iW,hty,Option.bind_some,jD (show k<im from Nat.lt_trans hk10 (by decide))]
      unfold yU
      cases hyk:y.kind==0
      · have ho:=Ga h hy hyk
        have h2:=wO ho hyk
        simp only [cond_false,Bool.false_eq_true,if_false]
        have inner:∀ (t2:List cd) (z:cd),t2.length=t.length→t2[k]?=some z→z.ij.length=2→iter (fun (s90:(List cd)×Int)=>(bif (decide (s90.2<2)) then ((idx s90.1 (k:Int)).bind fun y93=>(idx y93.ij s90.2).bind fun y115=>bif (y115==i) then (some (.inl ((s90.1.set (k:Int).toNat (cd.mk y93.gen y93.kind y93.box y93.res y93.iP y93.bh y93.wait y93.iN y93.iO y93.mark (y93.ij.set (s90.2:Int).toNat (-1)) y93.data y93.queue)),IntKind.i64.wrap (s90.2+1)))) else (some (.inl (s90.1,IntKind.i64.wrap (s90.2+1))))) else (some (.inr (s90.1,s90.2))):Option (((List cd)×Int)⊕((List cd)×Int)))) N (t2,0) =
            some (t2.set k (cd.mk z.gen z.kind z.box z.res z.iP z.bh z.wait z.iN z.iO z.mark (z.ij.map (zr i)) z.data z.queue),2):=by
          intro t2 z hl2 hz hz2
          have hk2:k<t2.length:=by omega
          obtain ⟨a,b,hab⟩:∃ a b,z.ij=[a,b]:=by
            match hq:z.ij with
            | []=>simp [hq] at hz2
            | [a]=>simp [hq] at hz2
            | [a,b]=>exact ⟨a,b,rfl⟩
            | a::b::c::r=>simp [hq] at hz2
          obtain ⟨M,rfl⟩:∃ M,N=M+3:=⟨N - 3,by have:16777216≤N:=hN;omega⟩
          have hset:∀ u:cd,(t2.set k u)[k]?=some u:=fun u=>List.getElem?_set_self hk2
          have hid:t2.set k (cd.mk z.gen z.kind z.box z.res z.iP z.bh z.wait z.iN z.iO z.mark [a,b] z.data z.queue)=t2:=by rw [← hab];exact sy hz
          have w1:IntKind.i64.wrap (0+1)=1:=by decide
          have w2:IntKind.i64.wrap (1+1)=2:=by decide
          unfold iter
          simp only [show decide ((0:Int)<2)=true from rfl,cond_true,iW,hz,Option.bind_some,hab,show idx [a,b] 0=some a from rfl,w1,Int.toNat_natCast]
          cases hA:a==i
          · simp only [cond_false,Option.bind_some]
            unfold iter
            simp only [show decide ((1:Int)<2)=true from rfl,cond_true,iW,hz,Option.bind_some,hab,show idx [a,b] 1=some b from rfl,w2,Int.toNat_natCast]
            cases hB:b==i
            · simp only [cond_false,Option.bind_some]
              unfold iter
              simp [zr,hA,hB,hid]
            · simp only [cond_true,Option.bind_some]
              unfold iter
              simp [zr,hA,hB]
          · simp only [cond_true,Option.bind_some]
            unfold iter
            simp only [show decide ((1:Int)<2)=true from rfl,cond_true,iW,hset,Option.bind_some,w2,Int.toNat_natCast]
            rw [show idx ([a,b].set (0:Int).toNat (-1)) 1=some b from rfl]
            simp only [Option.bind_some]
            cases hB:b==i
            · simp only [cond_false,Option.bind_some]
              unfold iter
              simp [zr,hA,hB]
            · simp only [cond_true,Option.bind_some,List.set_set]
              unfold iter
              simp [zr,hA,hB]
        simp only [iW,Int.toNat_natCast] at inner ⊢
        cases hbx:y.box==i
        · simp only [cond_false,Option.bind_some,Bool.false_eq_true,if_false]
          rw [inner t y rfl hty h2];rfl
        · simp only [cond_true,Option.bind_some,Int.toNat_natCast,if_true]
          have e:=inner (t.set k (cd.mk y.gen y.kind (-1) y.res y.iP y.bh y.wait y.iN y.iO y.mark y.ij y.data y.queue)) (cd.mk y.gen y.kind (-1) y.res y.iP y.bh y.wait y.iN y.iO y.mark y.ij y.data y.queue) List.length_set (List.getElem?_set_self hkt) h2
          rw [e]
          simp only [Option.bind_some,List.set_set]
      · simp only [cond_true,if_true]
        rw [sy hty]
    · intro t ht
      rw [← ht]
      simp only [jB,cond_false]
  · rfl
def rY (t:List iz) (f:Int) (a:iC):List iz×Bool :=
  if kp t&&(jl a&&jl (ja (mD t) a)) then
    (t.set (if jI t f then f else 0).toNat (zB (nth t (if jI t f then f else 0)) (ja (nth t (if jI t f then f else 0)).iX a)),true)
  else (t,false)
theorem Bl (t:List iz) (f:Int) (a:iC):(rY t f a).1.length=t.length:=by
  unfold rY
  split <;> simp
theorem DD {N:Nat} (hN:im≤N) {t:List iz} (hB:t.length<im) (f:Int) (a:iC):qq N t f a=some (rY t f a):=by
  unfold qq rY
  simp only [oO hB,tx hN,qM,zR hN hB,tq,Option.bind_some,kG]
  cases ht:kp t
  · rfl
  have hl:=sm ht
  cases jl a
  · rfl
  cases jl (ja (mD t) a)
  · rfl
  simp only [Bool.not_true,Bool.or_self,cond_false,r7 N hl,Option.bind_some,Bool.and_self,if_true]
  cases hv:jI t f
  · simp only [Bool.not_false,cond_true,Option.bind_some,jy (l:=t) (i:=0) (by omega) (by omega),Bool.false_eq_true,if_false];rfl
  · obtain ⟨f0,f4⟩:=mf hv
    simp only [Bool.not_true,cond_false,Option.bind_some,jy (l:=t) f0 (by omega),if_true];rfl
theorem GC {n:Int}:vF n=true ↔ 0≤n∧n≤1000000:=jE
theorem kU {a:iC}:jl a=true ↔ (0≤a.bh∧a.bh≤1000000)∧(0≤a.ig∧a.ig≤1000000)∧(0≤a.iB∧a.iB≤1000000):=by
  unfold jl;simp only [Bool.and_eq_true,GC]
theorem ug:∀ (t:List iz) (s:iC) (B:Int),(∀ r,r ∈ t→jl r.iX=true)→0≤B→B+1000000 * (t.length:Int)≤1000000000→(0≤s.bh∧s.bh≤B)→(0≤s.ig∧s.ig≤B)→(0≤s.iB∧s.iB≤B) →
    (s.bh≤(jJ s t).bh∧s.ig≤(jJ s t).ig∧s.iB≤(jJ s t).iB) ∧
      ∀ r,r ∈ t→r.live=true→r.iX.bh≤(jJ s t).bh∧r.iX.ig≤(jJ s t).ig∧r.iX.iB≤(jJ s t).iB
  | [],s,B,_,_,_,_,_,_=>⟨⟨Int.le_refl _,Int.le_refl _,Int.le_refl _⟩,fun r hr=>by simp at hr⟩
  | r::t,s,B,h,hB,hL,h1,h2,h3=>by
    have hr:=kU.1 (h r (by simp))
    simp only [List.length_cons] at hL
    have e:jJ s (r::t)=jJ (if r.live then ja s r.iX else s) t:=rfl
    rw [e]
    cases hv:r.live
    · obtain ⟨q1,q2⟩:=ug t s B (fun x hx=>h x (by simp [hx])) hB (by omega) h1 h2 h3
      refine ⟨q1,fun x hx hl=>?_⟩
      rcases List.mem_cons.1 hx with rfl | hx
      · rw [hv] at hl;cases hl
      · exact q2 x hx hl
    · simp only [if_true]
      have w1:(ja s r.iX).bh=s.bh+r.iX.bh:=i9 (by omega) (by omega)
      have w2:(ja s r.iX).ig=s.ig+r.iX.ig:=i9 (by omega) (by omega)
      have w3:(ja s r.iX).iB=s.iB+r.iX.iB:=i9 (by omega) (by omega)
      obtain ⟨⟨a1,a2,a3⟩,q2⟩:=ug t (ja s r.iX) (B+1000000) (fun x hx=>h x (by simp [hx])) (by omega) (by omega) (by omega) (by omega) (by omega)
      refine ⟨⟨by omega,by omega,by omega⟩,fun x hx hl=>?_⟩
      rcases List.mem_cons.1 hx with rfl | hx
      · exact ⟨by omega,by omega,by omega⟩
      · exact q2 x hx hl
theorem Aj {t:List iz} (h:Tr t) {a:iC} (ha:jl a=true) (hs:jl (ja (jJ ⟨0,0,0⟩ t) a)=true) {i:Int} (hi:0≤i∧i≤4) (hv:(nth t i).live=true):kH (nth t i).iX a=(ja (nth t i).iX a,true):=by
  have hl:=h.len
  have hm:nth t i ∈ t:=pI hi.1 (by omega)
  obtain ⟨_,q⟩:=ug t ⟨0,0,0⟩ 0 h.iX (by omega) (by omega) ⟨by decide,by decide⟩ ⟨by decide,by decide⟩ ⟨by decide,by decide⟩
  obtain ⟨q1,q2,q3⟩:=q _ hm hv
  have hb:=kU.1 (h.iX _ hm)
  have ha':=kU.1 ha
  have hS:=kU.1 h.sum
  have w1:(ja (jJ ⟨0,0,0⟩ t) a).bh=(jJ ⟨0,0,0⟩ t).bh+a.bh:=i9 (by omega) (by omega)
  have w2:(ja (jJ ⟨0,0,0⟩ t) a).ig=(jJ ⟨0,0,0⟩ t).ig+a.ig:=i9 (by omega) (by omega)
  have w3:(ja (jJ ⟨0,0,0⟩ t) a).iB=(jJ ⟨0,0,0⟩ t).iB+a.iB:=i9 (by omega) (by omega)
  have hs':=kU.1 hs
  have v1:(ja (nth t i).iX a).bh=(nth t i).iX.bh+a.bh:=i9 (by omega) (by omega)
  have v2:(ja (nth t i).iX a).ig=(nth t i).iX.ig+a.ig:=i9 (by omega) (by omega)
  have v3:(ja (nth t i).iX a).iB=(nth t i).iX.iB+a.iB:=i9 (by omega) (by omega)
  have:jl (ja (nth t i).iX a)=true:=kU.2 ⟨by omega,by omega,by omega⟩
  unfold kH
  rw [h.iX _ hm,ha,this];rfl
theorem D6 {N:Nat} (hN:im≤N) {t:List iz} (hB:t.length<im) (f:Int) (a:iC):qA N t f a=some (rY t f a):=by
  unfold qA rY
  simp only [pX hB,v9 hN,zv hN hB,uK,tv hN,Option.bind_some]
  cases ht:kp t
  · rfl
  have hT:=qK.1 ht
  have hl:=hT.len
  have e:(kH (jJ ⟨0,0,0⟩ t) a).2=(jl a&&jl (ja (mD t) a)):=by
    unfold kH mD
    rw [hT.sum,ht]
    simp only [if_true,Bool.true_and]
    cases jl a&&jl (ja (jJ ⟨0,0,0⟩ t) a) <;> rfl
  rw [e]
  simp only [Bool.not_true,cond_false,Bool.true_and]
  cases hc:(jl a&&jl (ja (mD t) a))
  · rfl
  rw [Bool.and_eq_true] at hc
  have hs:jl (ja (jJ ⟨0,0,0⟩ t) a)=true:=by
    have:=hc.2
    unfold mD at this
    rwa [ht,if_pos rfl] at this
  simp only [Bool.not_true,cond_false,if_true]
  cases hv:jI t f
  · simp only [Bool.not_false,cond_true,Option.bind_some,jy (l:=t) (i:=0) (by omega) (by omega),Aj hT hc.1 hs (i:=0) ⟨by omega,by omega⟩ hT.DH,Bool.false_eq_true,if_false];rfl
  · obtain ⟨f0,f4⟩:=mf hv
    have hlv:(nth t f).live=true:=by unfold jI at hv;rw [Bool.and_eq_true] at hv;exact hv.2
    simp only [Bool.not_true,cond_false,Option.bind_some,jy (l:=t) f0 (by omega),Aj hT hc.1 hs (i:=f) ⟨f0,f4⟩ hlv,if_true];rfl
end Go.Kx
/- Plain laws: ic. No program in sight. -/
namespace Go.Kx
open Go
set_option linter.unusedVariables false
set_option linter.unusedSimpArgs false
set_option maxRecDepth 10000
theorem zY {N:Nat} (hN:im≤N) {w:List hZ} (hl:w.length<im) {F:hZ→Option hZ} (hF:∀ y,y ∈ w→F y=some y) :
    iter (fun (s8:Int×(List hZ))=>(bif (decide (s8.1<(w.length:Int))) then ((idx w s8.1).bind fun y11=>(F y11).bind fun y41=>(app s8.2 [y41]).bind fun y57=>some (.inl (IntKind.i64.wrap (s8.1+1),y57))) else (some (.inr (s8.1,s8.2))):Option ((Int×(List hZ))⊕(Int×(List hZ))))) N (0,[])=some ((w.length:Int),w):=by
  have e:∀ (l:List hZ) (k:Nat) (acc:List hZ),foldI (fun _ (acc:List hZ) y=>acc++[y]) k acc l=acc++l:=by
    intro l
    induction l with
    | nil=>intro k acc;simp [foldI]
    | cons y l ih=>intro k acc;unfold foldI;rw [ih];simp
  rw [show ((0:Int),([]:List hZ))=(fun (k:Nat) (t:List hZ)=>((k:Int),t)) 0 [] from rfl,
    kV w (fun (k:Nat) (t:List hZ)=>((k:Int),t)) (fun _ acc y=>acc++[y]) (fun t=>((w.length:Int),t)) (fun k t=>t.length≤k) ?_ ?_ (Nat.lt_of_lt_of_le hl hN) (by simp),e]
  · simp
  · intro k t y hy hk ht
    refine ⟨?_,by simp;omega⟩
    simp only [jC hk,cond_true,iW,hy,Option.bind_some,hF y (List.mem_of_getElem? hy),jD (Nat.lt_trans hk hl),kS ht (Nat.lt_of_le_of_lt hk hl)]
  · intro t _
    simp only [jB,cond_false]
theorem Cz {N:Nat} (hN:im≤N) {w:iQ} (hb:jo jd w.parts<im):pf N w=some w:=by
  unfold pf
  rw [zY hN (kY hb) fun y hy=>vY hN (jM hb hy)];rfl
theorem ER {N:Nat} (hN:im≤N) {w:iQ} (hb:jo jd w.parts<im):rS N w=some w:=by
  unfold rS
  rw [zY hN (kY hb) fun y hy=>wV hN (jM hb hy)];rfl
def vy (a:iC) (w:Int):Int:=if w==0 then a.bh else if w==1 then a.ig else if w==2 then a.iB else 0
theorem Eh (N:Nat) (a:iC) (w:Int):rj N a w=some (vy a w):=by
  unfold rj vy
  cases w==0 <;> cases w==1 <;> cases w==2 <;> rfl
theorem Ee (N:Nat) (a:iC) (w:Int):rP N a w=some (vy a w):=by
  unfold rP vy
  cases w==0 <;> cases w==1 <;> cases w==2 <;> rfl
end Go.Kx
/- Plain laws: a collector's step; what is collected. No program in sight. -/
namespace Go.Kx
open Go
set_option linter.unusedVariables false
set_option linter.unusedSimpArgs false
set_option maxRecDepth 10000
def nu (h:ir) (k:Int):ir :=
  if (h.gc.phase==0)&&(((nth h.ag k).kind != 0)&&!(nth h.ag k).mark) then
    ir.mk (h.ag.set k.toNat (marked (nth h.ag k) true)) (jr.mk h.gc.phase h.gc.pos h.gc.round (if h.gc.ia.contains k then h.gc.ia else h.gc.ia++[k]))
  else h
theorem BC {l:List Int} {k:Int} (h:l.length+1<im):app l [k]=some (l++[k]):=by
  unfold app;rw [if_pos (by simpa using h)]
theorem Hc {N:Nat} (hN:im≤N) {h:ir} {k:Int} (h0:0≤k) (h1:k<(h.ag.length:Int)) (hg:h.gc.ia.length+1<im):tS N h k=some (nu h k):=by
  have hg':h.gc.ia.length<im:=by omega
  unfold tS nu
  rw [← Bool.cond_eq_ite]
  simp only [jy (l:=h.ag) h0 h1,tf hN hg',BC hg,Option.bind_some,bne]
  cases h.gc.phase==0
  · rfl
  cases (nth h.ag k).kind==0
  · cases (nth h.ag k).mark
    · cases h.gc.ia.contains k <;> rfl
    · rfl
  · rfl
theorem yQ {N:Nat} (hN:im≤N) {h:ir} {k:Int} (h0:0≤k) (h1:k<(h.ag.length:Int)) (hg:h.gc.ia.length+1<im):oF N h k=some (nu h k):=by
  have hg':h.gc.ia.length<im:=by omega
  unfold oF nu
  rw [← Bool.cond_eq_ite]
  simp only [jy (l:=h.ag) h0 h1,vL hN hg',BC hg,Option.bind_some,bne]
  cases h.gc.phase==0
  · rfl
  cases (nth h.ag k).kind==0
  · cases (nth h.ag k).mark
    · cases h.gc.ia.contains k <;> rfl
    · rfl
  · rfl
theorem xO (h:ir) (k:Int):(nu h k).ag.length=h.ag.length:=by
  unfold nu;split <;> simp
theorem vQ (h:ir) (k:Int):(nu h k).gc.ia.length≤h.gc.ia.length+1:=by
  unfold nu
  split
  · simp only
    split
    · exact Nat.le_succ _
    · simp
  · exact Nat.le_succ _
theorem CP {l:List cd} {i j:Int} {o:cd} (h0:0≤i) (h1:i<(l.length:Int)) (hj:0≤j):nth (l.set i.toNat o) j=if i=j then o else nth l j:=by
  unfold nth
  rw [List.getElem?_set]
  by_cases e:i=j
  · subst e
    rw [if_pos rfl,if_pos (by omega),if_pos rfl];rfl
  · rw [if_neg (by omega),if_neg e]
theorem Ej {h:ir} {k j:Int} {now:Int} (h0:0≤k) (h1:k<(h.ag.length:Int)) (hj:0≤j):jS (nth (nu h k).ag j) now=jS (nth h.ag j) now:=by
  unfold nu
  split
  · simp only
    rw [CP h0 h1 hj]
    split
    · rename_i e;subst e;rfl
    · rfl
  · rfl
def k8 (l:List cd) (now:Int) (h:ir) (k:Int):ir:=if jS (nth l k) now then h else nu h k
def jt (h:ir):Int:=nth h.gc.ia ((h.gc.ia.length:Int) - 1)
def qB (h:ir):List Int:=h.gc.ia.take (h.gc.ia.length - 1)
def tm (h:ir) (now:Int):ir :=
  if h.gc.ia.length=0 then ir.mk h.ag (jr.mk 1 0 h.gc.round h.gc.ia)
  else if (jt h != 0)&&jS (nth h.ag (jt h)) now then ir.mk h.ag (jr.mk h.gc.phase h.gc.pos h.gc.round (qB h))
  else (lF h.ag (jt h)).foldl (k8 h.ag now) (ir.mk (h.ag.set (jt h).toNat (marked (nth h.ag (jt h)) true)) (jr.mk h.gc.phase h.gc.pos h.gc.round (qB h)))
def ht (h:ir):List cd×Int×Int×Int×List Int:=(h.ag,h.gc.phase,h.gc.pos,h.gc.round,h.gc.ia)
theorem EL {N:Nat} (hN:im≤N) {l:List cd} {now:Int} {e:List Int} (he:∀ y,y ∈ e→0≤y∧y≤9) (hel:e.length≤10) {h:ir} (hl:h.ag.length=10) {G:Nat} (hg:h.gc.ia.length≤G) (hG:G+20<im)
    (hx:∀ j,0≤j→jS (nth h.ag j) now=jS (nth l j) now)
    {body:Int×List cd×Int×Int×Int×List Int→Option ((Int×List cd×Int×Int×Int×List Int)⊕(Int×List cd×Int×Int×Int×List Int))}
    (hs:∀ (k:Nat) (t:ir) (y:Int),e[k]?=some y→k<e.length→t.ag.length=10→t.gc.ia.length+1<im→(∀ j,0≤j→jS (nth t.ag j) now=jS (nth l j) now)→0≤y→y≤9→body ((k:Int),ht t)=some (.inl (((k+1:Nat):Int),ht (k8 l now t y))))
    (hend:∀ t,body ((e.length:Int),ht t)=some (.inr ((e.length:Int),ht t))) :
    iter body N (0,ht h)=some ((e.length:Int),ht (e.foldl (k8 l now) h)):=by
  have hB:e.length<im:=by omega
  rw [show ((0:Int),ht h)=(fun (k:Nat) (t:ir)=>((k:Int),ht t)) 0 h from rfl,
    kV e (fun (k:Nat) (t:ir)=>((k:Int),ht t)) (fun _ t y=>k8 l now t y) (fun t=>((e.length:Int),ht t)) (fun k t=>t.ag.length=10∧t.gc.ia.length≤G+k∧∀ j,0≤j→jS (nth t.ag j) now=jS (nth l j) now) ?_ ?_ (Nat.lt_of_lt_of_le hB hN) ⟨hl,hg,hx⟩,l8]
  · intro k t y hy hk ⟨i1,i2,i3⟩
    obtain ⟨y0,y9⟩:=he y (List.mem_of_getElem? hy)
    refine ⟨hs k t y hy hk i1 (by omega) i3 y0 y9,?_⟩
    unfold k8
    split
    · exact ⟨i1,by omega,i3⟩
    · have:=vQ t y
      exact ⟨by rw [xO,i1],by omega,fun j hj=>by rw [Ej y0 (by omega) hj,i3 j hj]⟩
  · intro t _
    exact hend t
theorem Cm {h:ir} (q:kC h=true):∀ y,y ∈ h.gc.ia→0≤y∧y≤9:=by
  unfold kC at q
  simp only [Bool.and_eq_true,n4] at q
  intro y hy
  obtain ⟨k,hk⟩:=List.getElem?_of_mem hy
  have:=q.2.2.2 k y hk
  unfold ui at this
  rw [Bool.and_eq_true,jE] at this
  exact this.1
theorem w8 {h:ir} (q:kC h=true) (hg:h.gc.ia.length ≠ 0):0≤jt h∧jt h≤9:=Cm q _ (pI (by omega) (by omega))
theorem Fu {g:List Int} (hg:g.length ≠ 0) (hB:g.length<im):IntKind.i64.wrap ((g.length:Int) - 1)=((g.length - 1:Nat):Int)∧sub g 0 ((g.length - 1:Nat):Int)=some (g.take (g.length - 1)):=by
  have:g.length<16777216:=hB
  exact ⟨by rw [i9 (by omega) (by omega)];omega,vP (by omega)⟩
def yK (l:List cd):List cd:=l.set 0 (marked (nth l 0) true)
def qh (h:ir) (now:Int):Bool:=(h.gc.pos != 0)&&(((nth h.ag h.gc.pos).kind != 0)&&(jS (nth h.ag h.gc.pos) now || !(nth h.ag h.gc.pos).mark))
def nP (h:ir) (now:Int):List cd:=if qh h now then (mA h.ag h.gc.pos).1 else h.ag.set h.gc.pos.toNat (marked (nth h.ag h.gc.pos) false)
def qw (h:ir) (now:Int):ir×Int :=
  (if h.gc.pos==9 then ir.mk (yK (nP h now)) (jr.mk 0 0 (if 1000000<IntKind.i64.wrap (h.gc.round+1) then 1000000 else IntKind.i64.wrap (h.gc.round+1)) [0])
    else ir.mk (nP h now) (jr.mk h.gc.phase (h.gc.pos+1) h.gc.round h.gc.ia),if qh h now then h.gc.pos else -1)
def mS (h:ir) (now:Int):ir×Int:=if kC h then (if h.gc.phase==1 then qw h now else (tm h now, -1)) else (h, -1)
theorem wR {h:ir} (q:kC h=true):(h.gc.phase=0)∨(h.gc.phase=1∧0≤h.gc.pos∧h.gc.pos≤9):=by
  unfold kC xv at q
  simp only [Bool.and_eq_true,Bool.or_eq_true,beq_iff_eq,jE] at q
  rcases q.2.1 with ⟨h1,_⟩ | ⟨h1,h2,_⟩
  · exact .inl h1
  · exact .inr ⟨h1,h2⟩
theorem AK (l:List cd) (i:Int):(mA l i).1.length=l.length:=by
  unfold mA;split <;> simp
theorem u9 (h:ir) (now:Int):(nP h now).length=h.ag.length:=by
  unfold nP
  split
  · exact AK _ _
  · simp
theorem Iz {n:Int} (h0:0≤n) (h9:n≤9):((n+1:Int)==10)=(n==9)∧IntKind.i64.wrap (n+1)=n+1:=by
  rw [i9 (by omega) (by omega)]
  exact ⟨by rw [Bool.eq_iff_iff];simp;omega,rfl⟩
theorem IK (t:ir):ir.mk t.ag (jr.mk t.gc.phase t.gc.pos t.gc.round t.gc.ia)=t:=rfl
theorem BP {o:cd} (h:ku o=true) (hk:(o.kind==0)=true):marked o false=o:=by
  unfold ku at h
  simp only [hk,cond_true,Bool.and_eq_true,decide_eq_true_eq] at h
  rw [h.2.2];rfl
theorem EW {N:Nat} (hN:im≤N) {h:ir} (q:kC h=true) (h1:jo iD h.ag<im) (hw:wA h.ag) (h2:h.gc.ia.length+20<im) (now:Int):rA N h now=some (tm h now):=by
  have h2':h.gc.ia.length<im:=by omega
  have hB:h.gc.ia.length<16777216:=h2'
  have ha:=nS q
  unfold rA tm
  by_cases hg:h.gc.ia.length=0
  · have:decide (IntKind.i64.wrap ((h.gc.ia.length:Int) - 1)<0)=true:=by rw [hg];decide
    rw [this,if_pos hg];rfl
  · obtain ⟨g1,g2⟩:=Fu hg h2'
    obtain ⟨l0,l9⟩:=w8 q hg
    obtain ⟨e1,e2⟩:=uM ha (jt h)
    have eg:idx h.gc.ia ((h.gc.ia.length - 1:Nat):Int)=some (jt h):=by
      rw [jy (l:=h.gc.ia) (i:=((h.gc.ia.length - 1:Nat):Int)) (by omega) (by omega)]
      unfold jt
      rw [show ((h.gc.ia.length:Int) - 1)=((h.gc.ia.length - 1:Nat):Int) by omega]
    have hd:decide (((h.gc.ia.length - 1:Nat):Int)<0)=false:=by simp
    have hgt:decide (jt h > 0)=(jt h != 0):=by
      rw [Bool.eq_iff_iff];simp;omega
    rw [g1,hd,if_neg hg]
    simp only [cond_false,eg,g2,(ha.at l0 l9).1,tN,Option.bind_some,hgt]
    rw [show (bif jt h != 0 then some (jS (nth h.ag (jt h)) now) else some false:Option Bool)=some ((jt h != 0)&&jS (nth h.ag (jt h)) now) from lu _ _]
    simp only [Option.bind_some]
    cases hc:((jt h != 0)&&jS (nth h.ag (jt h)) now)
    · simp only [cond_false,Bool.false_eq_true,if_false]
      rw [CU hN h1 hw ha l0 l9]
      simp only [Option.bind_some]
      rw [show ((0:Int),h.ag.set (jt h).toNat (cd.mk (nth h.ag (jt h)).gen (nth h.ag (jt h)).kind (nth h.ag (jt h)).box (nth h.ag (jt h)).res (nth h.ag (jt h)).iP (nth h.ag (jt h)).bh (nth h.ag (jt h)).wait (nth h.ag (jt h)).iN (nth h.ag (jt h)).iO true (nth h.ag (jt h)).ij (nth h.ag (jt h)).data (nth h.ag (jt h)).queue),h.gc.phase,h.gc.pos,h.gc.round,h.gc.ia.take (h.gc.ia.length - 1)) =
        ((0:Int),ht (ir.mk (h.ag.set (jt h).toNat (marked (nth h.ag (jt h)) true)) (jr.mk h.gc.phase h.gc.pos h.gc.round (qB h)))) from rfl,
        EL hN (l:=h.ag) (now:=now) e1 e2 (h:=ir.mk (h.ag.set (jt h).toNat (marked (nth h.ag (jt h)) true)) (jr.mk h.gc.phase h.gc.pos h.gc.round (qB h))) (by simp [ha.len]) (G:=h.gc.ia.length) (by unfold qB;simp) h2
          (fun j hj=>by
            simp only
            rw [CP l0 (by rw [ha.len];omega) hj]
            split
            · rename_i e;rw [← e];rfl
            · rfl)]
      · rfl
      · intro k t y hy hk t1 t2 t3 y0 y9
        simp only [ht,jC hk,cond_true,iW,hy,Option.bind_some,jy (l:=t.ag) y0 (show y<(t.ag.length:Int) by rw [t1];omega),tN,t3 y y0,IK,yQ hN y0 (show y<(t.ag.length:Int) by rw [t1];omega) t2,jD (show k<im by omega)]
        unfold k8
        cases jS (nth h.ag y) now <;> rfl
      · intro t
        simp only [ht,jB,cond_false]
    · rfl
theorem Bc {N:Nat} (hN:im≤N) {h:ir} (h1:jo iD h.ag<im) (hw:wA h.ag) (h2:h.gc.ia.length+20<im) (now:Int):nL N h now=some (mS h now):=by
  have h2':h.gc.ia.length<im:=by omega
  unfold nL mS
  simp only [uZ hN h1 h2',wq hN h1 h2' hw,Option.bind_some]
  cases q:kC h
  · rfl
  have ha:=nS q
  simp only [Bool.not_true,cond_false,if_true]
  rcases wR q with hp | ⟨hp,hr⟩
  · rw [hp]
    simp only [beq_self_eq_true,cond_true,EW hN q h1 hw h2,Option.bind_some]
    rfl
  · obtain ⟨e1,e2⟩:=Iz hr.1 hr.2
    have hsl:=u9 h now
    have e0:idx (nP h now) 0=some (nth (nP h now) 0):=jy (by omega) (by rw [hsl,ha.len];decide)
    have hgt:decide (h.gc.pos > 0)=(h.gc.pos != 0):=by rw [Bool.eq_iff_iff];simp;omega
    rw [show (h.gc.phase==0)=false by rw [hp];rfl,show (h.gc.phase==1)=true by rw [hp];rfl]
    unfold qw
    simp only [cond_false,(ha.at hr.1 hr.2).1,tN,xN hN h1 hw,Option.bind_some,hgt,e1,e2]
    rw [show (bif h.gc.pos != 0 then (bif (nth h.ag h.gc.pos).kind != 0 then (bif !(nth h.ag h.gc.pos).mark then some true else some (jS (nth h.ag h.gc.pos) now)) else some false) else some false:Option Bool)=some (qh h now) by
      unfold qh;rw [kG,lu,lu,Bool.or_comm]]
    simp only [Option.bind_some]
    have hsw:(bif qh h now then some (h.gc.pos,(mA h.ag h.gc.pos).1) else bif (nth h.ag h.gc.pos).kind != 0 then some (-1,h.ag.set h.gc.pos.toNat (cd.mk (nth h.ag h.gc.pos).gen (nth h.ag h.gc.pos).kind (nth h.ag h.gc.pos).box (nth h.ag h.gc.pos).res (nth h.ag h.gc.pos).iP (nth h.ag h.gc.pos).bh (nth h.ag h.gc.pos).wait (nth h.ag h.gc.pos).iN (nth h.ag h.gc.pos).iO false (nth h.ag h.gc.pos).ij (nth h.ag h.gc.pos).data (nth h.ag h.gc.pos).queue)) else some (-1,h.ag):Option (Int×List cd))=some (if qh h now then h.gc.pos else -1,nP h now):=by
      unfold nP
      cases qh h now
      · cases hk:(nth h.ag h.gc.pos).kind != 0
        · have hk0:((nth h.ag h.gc.pos).kind==0)=true:=by simpa [bne] using hk
          have hid:h.ag.set h.gc.pos.toNat (marked (nth h.ag h.gc.pos) false)=h.ag:=by
            rw [BP (ha.ok _ (ha.at hr.1 hr.2).2) hk0]
            exact sy (sD hr.1 (by rw [ha.len];omega))
          simp [hid]
        · rfl
      · rfl
    rw [hsw]
    simp only [Option.bind_some,e0]
    cases h.gc.pos==9 <;> rfl
theorem Af {α:Type} {f:α→Nat} {z:α}:∀ {l:List α} {k:Nat} {y:α},l[k]?=some y→f z=f y→oG f (l.set k z)=oG f l
  | x::l,0,y,h,e=>by simp at h;subst h;simp [oG,e]
  | x::l,k+1,y,h,e=>by
    simp only [List.set_cons_succ,oG]
    rw [Af (l:=l) (k:=k) (y:=y) (by simpa using h) e]
theorem nY {l:List cd} {i:Int} {z:cd} (h0:0≤i) (h1:i<(l.length:Int)) (e:iD z=iD (nth l i)):jo iD (l.set i.toNat z)=jo iD l:=by
  unfold jo
  rw [Af (sD h0 h1) e,List.length_set]
theorem wv {l:List cd} {now:Int}:∀ (e:List Int) (h:ir),(∀ y,y ∈ e→0≤y∧y≤9)→h.ag.length=10→wA h.ag →
    jo iD (e.foldl (k8 l now) h).ag=jo iD h.ag∧wA (e.foldl (k8 l now) h).ag∧(e.foldl (k8 l now) h).gc.ia.length≤h.gc.ia.length+e.length
  | [],h,_,_,hw=>⟨rfl,hw,Nat.le_refl _⟩
  | y::e,h,he,hl,hw=>by
    obtain ⟨y0,y9⟩:=he y (by simp)
    have hy:y<(h.ag.length:Int):=by rw [hl];omega
    have key:jo iD (k8 l now h y).ag=jo iD h.ag∧wA (k8 l now h y).ag∧(k8 l now h y).gc.ia.length≤h.gc.ia.length+1∧(k8 l now h y).ag.length=10:=by
      unfold k8
      split
      · exact ⟨rfl,hw,Nat.le_succ _,hl⟩
      · refine ⟨?_,?_,vQ h y,by rw [xO,hl]⟩
        · unfold nu
          split
          · exact nY y0 hy rfl
          · rfl
        · unfold nu
          split
          · exact kN hw (show mR (marked (nth h.ag y) true) from hw (nth h.ag y) (pI y0 hy))
          · exact hw
    obtain ⟨a1,a2,a3⟩:=wv e (k8 l now h y) (fun z hz=>he z (by simp [hz])) key.2.2.2 key.2.1
    simp only [List.foldl_cons,List.length_cons]
    exact ⟨a1.trans key.1,a2,by omega⟩
theorem EB (i:Int) (o:cd):iD (yU i o)=iD o:=by
  unfold yU
  split
  · rfl
  · unfold iD;simp
theorem Gx {i:Int} {o:cd} (h:mR o):mR (yU i o):=by
  unfold yU
  split
  · exact h
  · exact h
theorem CY (g:Int):mR (blank g):=by show (-9223372036854775808:Int)≤0;decide
theorem D0 {l:List cd} (hw:wA l) (i:Int):jo iD (mA l i).1≤jo iD l∧wA (mA l i).1:=by
  unfold mA
  split
  · refine ⟨?_,fun o ho=>?_⟩
    · show jo iD ((l.set i.toNat (blank (nth l i).gen)).map (yU i))≤_
      rw [GD (EB i)]
      exact xy
    · obtain ⟨y,hy,rfl⟩:=List.mem_map.1 ho
      exact Gx (kN hw (CY _) y hy)
  · exact ⟨Nat.le_refl _,hw⟩
theorem yW {h:ir} (hw:wA h.ag) (now:Int):jo iD (mS h now).1.ag≤jo iD h.ag∧wA (mS h now).1.ag∧(mS h now).1.gc.ia.length≤h.gc.ia.length+10 ∧
    (decide ((mS h now).2 ≥ 0)=true→Ar h.ag∧0≤(mS h now).2∧(mS h now).2≤9):=by
  unfold mS
  split
  · rename_i q
    have ha:=nS q
    have hl:=ha.len
    split
    · rename_i hp
      have hp:h.gc.phase=1:=by simpa using hp
      have hr:0≤h.gc.pos∧h.gc.pos≤9:=by
        rcases wR q with e | e
        · rw [hp] at e;cases e
        · exact e.2
      have hs:jo iD (nP h now)≤jo iD h.ag∧wA (nP h now):=by
        unfold nP
        split
        · exact D0 hw _
        · exact ⟨Nat.le_of_eq (nY hr.1 (by rw [hl];omega) rfl),kN hw (show mR (marked (nth h.ag h.gc.pos) false) from hw (nth h.ag h.gc.pos) (ha.at hr.1 hr.2).2)⟩
      have hsl:=u9 h now
      have h0:(0:Int)<((nP h now).length:Int):=by rw [hsl,hl];decide
      refine ⟨?_,?_,?_,fun hd=>⟨ha,?_⟩⟩
      · unfold qw yK
        simp only
        split
        · show jo iD ((nP h now).set (0:Int).toNat _)≤_
          rw [nY (z:=marked (nth (nP h now) 0) true) (Int.le_refl 0) h0 rfl];exact hs.1
        · exact hs.1
      · unfold qw yK
        simp only
        split
        · exact kN hs.2 (show mR (marked (nth (nP h now) 0) true) from hs.2 (nth (nP h now) 0) (pI (Int.le_refl 0) h0))
        · exact hs.2
      · unfold qw
        simp only
        split
        · simp
        · exact Nat.le_add_right _ _
      · unfold qw at hd ⊢
        simp only at hd ⊢
        split
        · exact hr
        · rename_i hn
          rw [if_neg hn] at hd
          simp at hd
    · refine ⟨?_,?_,?_,fun hd=>by simp at hd⟩
      all_goals
        unfold tm
        simp only
        split
        · first | exact Nat.le_refl _ | exact hw | exact Nat.le_add_right _ _
        · rename_i hg
          split
          · first | exact Nat.le_refl _ | exact hw | (unfold qB;simp;omega)
          · obtain ⟨l0,l9⟩:=w8 q hg
            obtain ⟨e1,e2⟩:=uM ha (jt h)
            obtain ⟨a1,a2,a3⟩:=wv (l:=h.ag) (now:=now) (lF h.ag (jt h)) (ir.mk (h.ag.set (jt h).toNat (marked (nth h.ag (jt h)) true)) (jr.mk h.gc.phase h.gc.pos h.gc.round (qB h))) e1 (by simp [hl]) (kN hw (show mR (marked (nth h.ag (jt h)) true) from hw (nth h.ag (jt h)) (ha.at l0 l9).2))
            first
              | exact Nat.le_of_eq (a1.trans (nY l0 (by rw [hl];omega) rfl))
              | exact a2
              | (refine Nat.le_trans a3 ?_
                 unfold qB
                 simp
                 omega)
  · exact ⟨Nat.le_refl _,hw,Nat.le_add_right _ _,fun hd=>by simp at hd⟩
structure Jx where
  n:Int
  tree:List iz
  heap:ir
def ct (k:Nat) (c:Jx):Int×Int×List iz×List cd×Int×Int×Int×List Int:=(c.n,(k:Int),c.tree,c.heap.ag,c.heap.gc.phase,c.heap.gc.pos,c.heap.gc.round,c.heap.gc.ia)
end Go.Kx
/- Plain laws: what is split off, given and dropped in a tree. No program in sight. -/
namespace Go.Kx
open Go
set_option linter.unusedVariables false
set_option linter.unusedSimpArgs false
set_option maxRecDepth 10000
theorem HP {t:List iz} {f:Int} {a:iC} (h:(jU t f a).2=false):(jU t f a).1=t:=by
  unfold jU at h ⊢
  split
  · rename_i q
    rw [if_pos q] at h
    split
    · rename_i q2
      rw [if_pos q2] at h
      cases h
    · rfl
  · rfl
theorem By {t:List iz} {f:Int} {a:iC} (h:(jU t f a).2=true):kp t=true∧jI t f=true:=by
  unfold jU at h
  split at h
  · rename_i q
    simpa using q
  · cases h
theorem Gf (t:List iz) (f:Int) (a:iC):(jU t f a).1.map iz.live=t.map iz.live:=by
  unfold jU
  split
  · rename_i q
    simp only [Bool.and_eq_true] at q
    obtain ⟨f0,f4⟩:=mf q.2
    have hl:=sm q.1
    split
    · rw [List.map_set]
      refine sy ?_
      rw [List.getElem?_map,sD f0 (by omega)]
      rfl
    · rfl
  · rfl
def vU:Nat→List Bool→Option Nat
  | _,[]=>none
  | k,b::l=>if b then vU (k+1) l else some k
theorem C2 {ρ:Type} (g:Nat→ρ) (r:ρ):∀ (l:List iz) (k:Nat),lT (fun k (_:Unit) (y:iz)=>if y.live then .inl () else .inr (g k)) (fun _=>r) k () l=(match vU k (l.map iz.live) with | none=>r | some k=>g k)
  | [],k=>rfl
  | y::l,k=>by
    unfold lT
    simp only [List.map_cons,vU]
    cases y.live
    · rfl
    · exact C2 g r l (k+1)
theorem AT {ρ:Type} {N:Nat} (hN:im≤N) {x:List iz} (hx:x.length<im) (g:Nat→ρ) (r:ρ) {body:Int→Option (Int⊕ρ)}
    (hs:∀ (k:Nat) (y:iz),x[k]?=some y→k<x.length→body (k:Int)=some (if y.live then .inl ((k+1:Nat):Int) else .inr (g k))) (he:body (x.length:Int)=some (.inr r)) :
    iter body N 0=some (match vU 0 (x.map iz.live) with | none=>r | some k=>g k):=by
  rw [show (0:Int)=(fun (k:Nat) (_:Unit)=>(k:Int)) 0 () from rfl,
    mY x (fun (k:Nat) (_:Unit)=>(k:Int)) (fun k _ y=>if y.live then .inl () else .inr (g k)) (fun _=>r) (fun _ _=>True) ?_ ?_ (Nat.lt_of_lt_of_le hx hN) trivial,C2]
  · intro k _ y hy hk _
    refine ⟨?_,fun _ _=>trivial⟩
    show body (k:Int)=_
    rw [hs k y hy hk]
    cases y.live <;> rfl
  · intro _ _
    exact he
def lv (t:List iz) (f:Int) (a:iC):List iz×Int×Bool :=
  if (jU t f a).2 then (match vU 0 (t.map iz.live) with | none=>(t,0,false) | some k=>((jU t f a).1.set k (iz.mk true f a),(k:Int),true)) else (t,0,false)
theorem wz (t:List iz) (f:Int) (a:iC):(lv t f a).1.length=t.length:=by
  unfold lv
  split
  · split
    · rfl
    · simp only [List.length_set,mj]
  · rfl
theorem Cd {N:Nat} (hN:im≤N) {t:List iz} (hB:t.length<im) (f:Int) (a:iC):o8 N t f a=some (lv t f a):=by
  unfold o8 lv
  simp only [wD hN hB,Option.bind_some]
  cases h:(jU t f a).2
  · simp only [Bool.not_false,cond_true,HP h,Bool.false_eq_true,if_false]
  simp only [Bool.not_true,cond_false,if_true]
  rw [AT hN hB (fun k=>Sum.inr ((jU t f a).1.set k (iz.mk true f a),(k:Int),true)) (Sum.inl (t.length:Int))]
  · simp only [Option.bind_some]
    cases vU 0 (t.map iz.live)
    · simp only [Sum.elim_inl,oO hB,Option.bind_some]
    · rfl
  · intro k y hy hk
    have hp:=mj t f a
    simp only [jC hk,cond_true,iW,hy,Option.bind_some,jD (Nat.lt_trans hk hB),Int.toNat_natCast]
    cases y.live
    · have:((jU t f a).1[k]?)=some ((jU t f a).1[k]'(by omega)):=List.getElem?_eq_getElem (by omega)
      simp only [this,Bool.not_false,cond_true,Option.bind_some,Bool.false_eq_true,if_false]
    · simp only [Bool.not_true,cond_false,if_true]
  · simp only [jB,cond_false]
theorem xG {N:Nat} (hN:im≤N) {t:List iz} (hB:t.length<im) (f:Int) (a:iC):nB N t f a=some (lv t f a):=by
  unfold nB lv
  simp only [uV hN hB,Option.bind_some]
  cases h:(jU t f a).2
  · simp only [Bool.not_false,cond_true,pX hB,Option.bind_some,Bool.false_eq_true,if_false]
  have hp:=mj t f a
  simp only [Bool.not_true,cond_false,if_true]
  rw [AT (x:=(jU t f a).1) hN (by omega) (fun k=>Sum.inr ((jU t f a).1.set k (iz.mk true f a),(k:Int),true)) (Sum.inl ((jU t f a).1.length:Int)),Gf]
  · simp only [Option.bind_some]
    cases vU 0 (t.map iz.live)
    · simp only [Sum.elim_inl,pX hB,Option.bind_some]
    · rfl
  · intro k y hy hk
    simp only [jC hk,cond_true,iW,hy,Option.bind_some,jD (show k<im by omega),Int.toNat_natCast]
    cases y.live <;> rfl
  · simp only [jB,cond_false]
def mN (t:List iz) (f g:Int) (a:iC):List iz×Bool:=if (jU t f a).2&&jI t g then rY (jU t f a).1 g a else (t,false)
theorem A5 (t:List iz) (f g:Int) (a:iC):(mN t f g a).1.length=t.length:=by
  unfold mN
  split
  · rw [Bl,mj]
  · rfl
theorem DJ {N:Nat} (hN:im≤N) {t:List iz} (hB:t.length<im) (f g:Int) (a:iC):qp N t f g a=some (mN t f g a):=by
  unfold qp mN
  have hp:=mj t f a
  simp only [wD hN hB,Option.bind_some]
  cases h:(jU t f a).2
  · simp only [Bool.not_false,cond_true,oO hB,Option.bind_some,Bool.false_and,Bool.false_eq_true,if_false]
  have hl:=sm (By h).1
  simp only [Bool.not_true,cond_false,r7 N hl,Option.bind_some,Bool.true_and]
  cases jI t g
  · simp only [Bool.not_false,cond_true,oO hB,Option.bind_some,Bool.false_eq_true,if_false]
  · simp only [Bool.not_true,cond_false,if_true,DD hN (show (jU t f a).1.length<im by omega),Option.bind_some]
theorem D3 {N:Nat} (hN:im≤N) {t:List iz} (hB:t.length<im) (f g:Int) (a:iC):qE N t f g a=some (mN t f g a):=by
  unfold qE mN
  have hp:=mj t f a
  simp only [tv hN,uV hN hB,Option.bind_some]
  cases h:(jU t f a).2
  · cases kp t&&jI t g <;> simp only [Bool.not_false,Bool.not_true,cond_true,cond_false,pX hB,Option.bind_some,Bool.false_and,Bool.false_eq_true,if_false]
  rw [(By h).1]
  simp only [Bool.true_and]
  cases jI t g
  · simp only [Bool.not_false,cond_true,pX hB,Option.bind_some,Bool.false_eq_true,if_false]
  · simp only [Bool.not_true,cond_false,if_true,D6 hN (show (jU t f a).1.length<im by omega),Option.bind_some]
theorem Em {t:List iz} (h:Tr t) {i:Int} (hv:jI t i=true) (hi:i ≠ 0):0≤up t i∧up t i≤4∧up t i ≠ i∧(nth t (up t i)).live=true:=by
  obtain ⟨i0,i4⟩:=mf hv
  have hl:=h.len
  have hg:=sD (l:=t) i0 (by omega)
  have hlv:(nth t i).live=true:=by
    unfold jI at hv
    simp only [Bool.and_eq_true] at hv
    exact hv.2
  have h1:=h.lead i.toNat (nth t i) hg hlv
  rw [show ((i.toNat:Nat):Int)=i by omega] at h1
  have hne:up t i ≠ i:=fun q=>by rw [x5 hi q] at h1;cases h1
  have h2:leads t 4 (up t i)=true:=by
    unfold leads at h1
    simpa [hi,hv] using h1
  by_cases hu:up t i=0
  · rw [hu]
    exact ⟨by omega,by omega,fun q=>hi q.symm,h.DH⟩
  · unfold leads at h2
    have h3:jI t (up t i)=true:=by
      cases q:jI t (up t i)
      · simp [hu,q] at h2
      · rfl
    obtain ⟨a,b⟩:=mf h3
    unfold jI at h3
    simp only [Bool.and_eq_true] at h3
    exact ⟨a,b,hne,h3.2⟩
def At (s:iC) (B:Int):Prop:=(0≤s.bh∧s.bh≤B)∧(0≤s.ig∧s.ig≤B)∧(0≤s.iB∧s.iB≤B)
theorem z5 {s a:iC} {B:Int} (hs:At s B) (ha:jl a=true) (hB:B≤1000000000):(ja s a).bh=s.bh+a.bh∧(ja s a).ig=s.ig+a.ig∧(ja s a).iB=s.iB+a.iB∧At (ja s a) (B+1000000):=by
  have h:=kU.1 ha
  unfold At at hs
  have w1:(ja s a).bh=s.bh+a.bh:=i9 (by omega) (by omega)
  have w2:(ja s a).ig=s.ig+a.ig:=i9 (by omega) (by omega)
  have w3:(ja s a).iB=s.iB+a.iB:=i9 (by omega) (by omega)
  exact ⟨w1,w2,w3,⟨by omega,by omega⟩,⟨by omega,by omega⟩,⟨by omega,by omega⟩⟩
theorem yc:∀ (t:List iz) (s:iC) (B:Int),(∀ r,r ∈ t→jl r.iX=true)→0≤B→B+1000000 * (t.length:Int)≤1000000000→At s B→∀ (k:Nat) (r:iz),t[k]?=some r→r.live=true →
    s.bh+r.iX.bh≤(jJ s t).bh∧s.ig+r.iX.ig≤(jJ s t).ig∧s.iB+r.iX.iB≤(jJ s t).iB
  | [],s,B,_,_,_,_,k,r,hr,_=>by simp at hr
  | x::t,s,B,h,hB,hL,hs,k,r,hr,hv=>by
    have hx:=h x (by simp)
    simp only [List.length_cons] at hL
    obtain ⟨w1,w2,w3,w4⟩:=z5 hs hx (by omega)
    have hx':=kU.1 hx
    have e:jJ s (x::t)=jJ (if x.live then ja s x.iX else s) t:=rfl
    rw [e]
    have ht:∀ r,r ∈ t→jl r.iX=true:=fun r hr=>h r (by simp [hr])
    match k with
    | 0 =>
      simp only [List.getElem?_cons_zero,Option.some.injEq] at hr
      subst hr
      rw [if_pos hv]
      obtain ⟨⟨a1,a2,a3⟩,_⟩:=ug t (ja s x.iX) (B+1000000) ht (by omega) (by omega) w4.1 w4.2.1 w4.2.2
      exact ⟨by omega,by omega,by omega⟩
    | k+1 =>
      rw [List.getElem?_cons_succ] at hr
      cases hxl:x.live
      · exact yc t s B ht hB (by omega) hs k r hr hv
      · obtain ⟨a1,a2,a3⟩:=yc t (ja s x.iX) (B+1000000) ht (by omega) (by omega) w4 k r hr hv
        rw [if_pos rfl]
        exact ⟨by omega,by omega,by omega⟩
theorem wi:∀ (t:List iz) (s:iC) (B:Int),(∀ r,r ∈ t→jl r.iX=true)→0≤B→B+1000000 * (t.length:Int)≤1000000000→At s B→∀ (k j:Nat) (r q:iz),k<j→t[k]?=some r→r.live=true→t[j]?=some q→q.live=true →
    r.iX.bh+q.iX.bh≤(jJ s t).bh∧r.iX.ig+q.iX.ig≤(jJ s t).ig∧r.iX.iB+q.iX.iB≤(jJ s t).iB
  | [],s,B,_,_,_,_,k,j,r,q,_,hr,_,_,_=>by simp at hr
  | x::t,s,B,h,hB,hL,hs,k,j,r,q,hkj,hr,hv,hq,hw=>by
    have hx:=h x (by simp)
    simp only [List.length_cons] at hL
    obtain ⟨w1,w2,w3,w4⟩:=z5 hs hx (by omega)
    have e:jJ s (x::t)=jJ (if x.live then ja s x.iX else s) t:=rfl
    rw [e]
    have ht:∀ r,r ∈ t→jl r.iX=true:=fun r hr=>h r (by simp [hr])
    unfold At at hs
    match k,j,hkj with
    | 0,j+1,_ =>
      simp only [List.getElem?_cons_zero,Option.some.injEq] at hr
      subst hr
      rw [List.getElem?_cons_succ] at hq
      rw [if_pos hv]
      obtain ⟨a1,a2,a3⟩:=yc t (ja s x.iX) (B+1000000) ht (by omega) (by omega) w4 j q hq hw
      exact ⟨by omega,by omega,by omega⟩
    | k+1,j+1,hkj =>
      rw [List.getElem?_cons_succ] at hr hq
      cases hxl:x.live
      · exact wi t s B ht hB (by omega) hs k j r q (by omega) hr hv hq hw
      · rw [if_pos rfl]
        exact wi t (ja s x.iX) (B+1000000) ht (by omega) (by omega) w4 k j r q (by omega) hr hv hq hw
theorem G7 {t:List iz} (h:Tr t) {u i:Int} (hu:0≤u∧u≤4) (hi:0≤i∧i≤4) (hne:u ≠ i) (h1:(nth t u).live=true) (h2:(nth t i).live=true):kH (nth t u).iX (nth t i).iX=(ja (nth t u).iX (nth t i).iX,true):=by
  have hl:=h.len
  have z:At ⟨0,0,0⟩ 0:=by unfold At;decide
  have hS:=kU.1 h.sum
  have gu:=sD (l:=t) (i:=u) hu.1 (by omega)
  have gi:=sD (l:=t) (i:=i) hi.1 (by omega)
  have bu:=h.iX _ (List.mem_of_getElem? gu)
  have bi:=h.iX _ (List.mem_of_getElem? gi)
  have bu':=kU.1 bu
  have bi':=kU.1 bi
  have key:(nth t u).iX.bh+(nth t i).iX.bh≤(jJ ⟨0,0,0⟩ t).bh∧(nth t u).iX.ig+(nth t i).iX.ig≤(jJ ⟨0,0,0⟩ t).ig∧(nth t u).iX.iB+(nth t i).iX.iB≤(jJ ⟨0,0,0⟩ t).iB:=by
    rcases Int.lt_or_gt_of_ne hne with q | q
    · exact wi t ⟨0,0,0⟩ 0 h.iX (by omega) (by omega) z u.toNat i.toNat _ _ (by omega) gu h1 gi h2
    · obtain ⟨a,b,c⟩:=wi t ⟨0,0,0⟩ 0 h.iX (by omega) (by omega) z i.toNat u.toNat _ _ (by omega) gi h2 gu h1
      exact ⟨by omega,by omega,by omega⟩
  have v1:(ja (nth t u).iX (nth t i).iX).bh=(nth t u).iX.bh+(nth t i).iX.bh:=i9 (by omega) (by omega)
  have v2:(ja (nth t u).iX (nth t i).iX).ig=(nth t u).iX.ig+(nth t i).iX.ig:=i9 (by omega) (by omega)
  have v3:(ja (nth t u).iX (nth t i).iX).iB=(nth t u).iX.iB+(nth t i).iX.iB:=i9 (by omega) (by omega)
  have:jl (ja (nth t u).iX (nth t i).iX)=true:=kU.2 ⟨by omega,by omega,by omega⟩
  unfold kH
  rw [bu,bi,this];rfl
def uP (i u:Int) (r:iz):iz:=if r.live&&(r.parent==i) then iz.mk r.live u r.iX else r
def dropped (t:List iz) (i:Int):List iz:=(t.set (up t i).toNat (zB (nth t (up t i)) (ja (nth t (up t i)).iX (nth t i).iX))).set i.toNat uG
def mP (t:List iz) (i:Int):List iz×Bool:=if (kp t&&jI t i)&&(i != 0) then ((dropped t i).map (uP i (up t i)),true) else (t,false)
theorem wU (t:List iz) (i:Int):(mP t i).1.length=t.length:=by
  unfold mP dropped
  split <;> simp
theorem yu {N:Nat} (hN:im≤N) {t:List iz} (hB:t.length<im) (i:Int):oq N t i=some (mP t i):=by
  unfold oq mP
  simp only [pX hB,tv hN,Option.bind_some,kG]
  cases h:(kp t&&jI t i)
  · rfl
  simp only [Bool.and_eq_true] at h
  have hT:=qK.1 h.1
  have hl:=hT.len
  cases hi:(i==0)
  case true=>simp only [Bool.not_true,Bool.or_true,cond_true,Bool.true_and,bne,hi,Bool.false_eq_true,if_false]
  have hi':i ≠ 0:=by simpa using hi
  obtain ⟨i0,i4⟩:=mf h.2
  obtain ⟨u0,u4,une,ulv⟩:=Em hT h.2 hi'
  have ilv:(nth t i).live=true:=by
    have:=h.2
    unfold jI at this
    simp only [Bool.and_eq_true] at this
    exact this.2
  have eu:idx t (nth t i).parent=some (nth t (up t i)):=jy (i:=up t i) u0 (by omega)
  have ff:=G7 hT ⟨u0,u4⟩ ⟨i0,i4⟩ une ulv ilv
  have e2:∀ z,idx (t.set (nth t i).parent.toNat z) i=some (nth (t.set (nth t i).parent.toNat z) i):=fun z=>jy i0 (by simp only [List.length_set];omega)
  simp only [Bool.not_true,Bool.or_false,cond_false,jy (l:=t) i0 (by omega),eu,uK,ff,Option.bind_some,e2,bne,hi,Bool.not_false,Bool.and_self,if_true]
  rw [show (((t.set (nth t i).parent.toNat (iz.mk (nth t (up t i)).live (nth t (up t i)).parent (iC.mk (ja (nth t (up t i)).iX (nth t i).iX).bh (ja (nth t (up t i)).iX (nth t i).iX).ig (ja (nth t (up t i)).iX (nth t i).iX).iB))).set i.toNat (iz.mk false 0 (iC.mk 0 0 0))))=dropped t i from rfl]
  rw [yf (dropped t i) (uP i (up t i)) (show (dropped t i).length<N by unfold dropped;simp only [List.length_set];omega)]
  · rfl
  · intro k x y hx hty _ hk
    have hk':k<x.length:=by omega
    have hk2:k<t.length:=by unfold dropped at hk;simp only [List.length_set] at hk;omega
    simp only [jC hk',cond_true,iW,hty,Option.bind_some,lu,jD (show k<im by omega),Int.toNat_natCast]
    unfold uP
    cases (y.live&&(y.parent==i))
    · simp only [cond_false,Bool.false_eq_true,if_false,sy hty]
    · simp only [cond_true,if_true];rfl
  · intro x hx
    rw [← hx]
    simp only [jB,cond_false]
theorem Dz {N:Nat} (hN:im≤N) {t:List iz} (hB:t.length<im) (i:Int):qt N t i=some (mP t i):=by
  unfold qt mP
  simp only [oO hB,tx hN,Option.bind_some]
  cases ht:kp t
  · rfl
  have hT:=qK.1 ht
  have hl:=hT.len
  cases hi:(i==0)
  case true=>simp only [Bool.not_true,cond_false,cond_true,Option.bind_some,Bool.true_and,bne,hi,Bool.and_false,Bool.false_eq_true,if_false]
  have hi':i ≠ 0:=by simpa using hi
  simp only [Bool.not_true,cond_false,r7 N hl,Option.bind_some]
  cases hv:jI t i
  · rfl
  obtain ⟨i0,i4⟩:=mf hv
  obtain ⟨u0,u4,une,ulv⟩:=Em hT hv hi'
  have eu:idx t (nth t i).parent=some (nth t (up t i)):=jy (i:=up t i) u0 (by omega)
  have e2:∀ z,idx (t.set (nth t i).parent.toNat z) i=some (nth (t.set (nth t i).parent.toNat z) i):=fun z=>jy i0 (by simp only [List.length_set];omega)
  simp only [Bool.not_true,cond_false,jy (l:=t) i0 (by omega),eu,tq,Option.bind_some,e2,bne,hi,Bool.not_false,Bool.and_self,if_true]
  rw [show (((t.set (nth t i).parent.toNat (iz.mk (nth t (up t i)).live (nth t (up t i)).parent (ja (nth t (up t i)).iX (nth t i).iX))).set i.toNat (iz.mk false 0 (iC.mk 0 0 0))))=dropped t i from rfl]
  rw [yf (dropped t i) (uP i (up t i)) (show (dropped t i).length<N by unfold dropped;simp only [List.length_set];omega)]
  · rfl
  · intro k x y hx hty _ hk
    have hk':k<t.length:=by unfold dropped at hk;simp only [List.length_set] at hk;omega
    simp only [jC hk',cond_true,iW,hty,Option.bind_some,lu,jD (show k<im by omega),Int.toNat_natCast]
    unfold uP
    cases (y.live&&(y.parent==i))
    · simp only [cond_false,Bool.false_eq_true,if_false,sy hty]
    · simp only [cond_true,if_true];rfl
  · intro x hx
    rw [show (dropped t i).length=t.length by unfold dropped;simp only [List.length_set]]
    simp only [jB,cond_false]
end Go.Kx
