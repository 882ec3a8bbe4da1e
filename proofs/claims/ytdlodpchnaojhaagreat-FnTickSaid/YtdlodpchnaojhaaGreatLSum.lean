/- Plain laws: sums; what a right world is. No program in sight. -/
import Derived.Test.YtdlodpchnaojhaaGreatLReach
namespace Go.Kx
open Go
set_option linter.unusedVariables false
set_option linter.unusedSimpArgs false
set_option maxRecDepth 10000
def NA (a:ig):Prop:=IntKind.i64.wrap a.bh=a.bh∧IntKind.i64.wrap a.ib=a.ib∧IntKind.i64.wrap a.ik=a.ik
theorem wrap_wrap (n:Int):IntKind.i64.wrap (IntKind.i64.wrap n)=IntKind.i64.wrap n:=by
  have:-9223372036854775808≤IntKind.i64.wrap n∧IntKind.i64.wrap n≤9223372036854775807:=by
    simp only [IntKind.wrap,IntKind.signed,IntKind.bits];simp;omega
  exact iI this.1 this.2
theorem NA.sum (a b:ig):NA (iV a b):=⟨wrap_wrap _,wrap_wrap _,wrap_wrap _⟩
theorem NA.zero:NA ⟨0,0,0⟩:=⟨by decide,by decide,by decide⟩
theorem Ip {a:ig} (h:NA a):iV a ⟨0,0,0⟩=a:=by
  obtain ⟨h1,h2,h3⟩:=h
  unfold iV
  simp only [Int.add_zero,h1,h2,h3]
def jU (t:List ir):ig:=if j8 t then ju ⟨0,0,0⟩ t else ⟨0,0,0⟩
theorem GI {N:Nat} (hN:im≤N) {t:List ir} (hB:t.length<im):rO N t=some (jU t):=by
  unfold rO jU
  rw [wE hN,Option.bind_some,z9 hN hB]
  cases j8 t <;> rfl
theorem B2:∀ (t:List ir) (s:ig),NA s→(∀ r,r ∈ t→r.live=false→r.iL=⟨0,0,0⟩)→t.foldl (fun s r=>iV s r.iL) s=ju s t
  | [],s,_,_=>rfl
  | r::t,s,hs,h=>by
    unfold ju
    simp only [List.foldl_cons]
    cases hl:r.live
    · rw [h r (by simp) hl,Ip hs]
      exact B2 t s hs fun x hx=>h x (by simp [hx])
    · exact B2 t _ (NA.sum _ _) fun x hx=>h x (by simp [hx])
structure Tr (t:List ir):Prop where
  len:t.length=5
  yb:(nth t 0).live=true
  Kt:(nth t 0).parent=-1
  dead:∀ r,r ∈ t→r.live=false→r=vl
  iL:∀ r,r ∈ t→iY r.iL=true
  lead:∀ (k:Nat) (r:ir),t[k]?=some r→r.live=true→leads t 5 (k:Int)=true
  sum:iY (ju ⟨0,0,0⟩ t)=true
theorem Ht:iY vl.iL=true:=by decide
theorem ko {t:List ir}:j8 t=true ↔ Tr t:=by
  unfold j8
  simp only [Bool.and_eq_true,Bool.not_eq_true',bne_eq_false_iff_eq,mB,Nat.zero_add]
  constructor
  · rintro ⟨h1,h2,h3,h4,h5⟩
    have hm:∀ r,r ∈ t→∃ k:Nat,t[k]?=some r:=fun o ho=>List.getElem?_of_mem ho
    refine ⟨by omega,h2,h3,fun r hr hl=>?_,fun r hr=>?_,fun k r hk hl=>?_,h5⟩
    · obtain ⟨k,hk⟩:=hm r hr
      have:=h4 k r hk
      unfold oS at this
      simpa [hl] using this
    · obtain ⟨k,hk⟩:=hm r hr
      have:=h4 k r hk
      unfold oS at this
      split at this
      · simp only [Bool.and_eq_true] at this;exact this.1
      · simp only [decide_eq_true_eq] at this;rw [this];exact Ht
    · have:=h4 k r hk
      unfold oS at this
      rw [if_pos hl] at this
      simp only [Bool.and_eq_true] at this
      exact this.2
  · intro h
    refine ⟨by have:=h.len;omega,h.yb,h.Kt,fun k r hr=>?_,h.sum⟩
    unfold oS
    have hm:=List.mem_of_getElem? hr
    cases hl:r.live
    · simp [h.dead r hm hl]
    · simp [h.iL r hm,h.lead k r hr hl]
theorem Bl {N:Nat} (hN:im≤N) {t:List ir} (hB:t.length<im):pE N t=some (jU t):=by
  unfold pE jU
  rw [tB hN,Option.bind_some]
  cases h:j8 t
  · rfl
  have ht:=ko.1 h
  simp only [Bool.not_true,cond_false,if_true]
  rw [show ((0:Int),(0:Int),(0:Int),(0:Int))=(fun (k:Nat) (s:ig)=>((k:Int),s.bh,s.ib,s.ik)) 0 ⟨0,0,0⟩ from rfl,
    kK t (fun (k:Nat) (s:ig)=>((k:Int),s.bh,s.ib,s.ik)) (fun _ s r=>iV s r.iL) (fun s=>((t.length:Int),s.bh,s.ib,s.ik)) (fun _ _=>True) ?_ ?_ (Nat.lt_of_lt_of_le hB hN) trivial,lA,B2 t _ NA.zero fun r hr hl=>by rw [ht.dead r hr hl];rfl]
  · rfl
  · intro k s r hy hk _
    simp only [jh hk,cond_true,iO,hy,Option.bind_some,tL,jm (Nat.lt_trans hk hB)]
    exact ⟨trivial,trivial⟩
  · intro s _
    simp only [jg,cond_false]
def held (p:dW):Int:=((p.heap.ag.take 10).filter jt).foldl (fun n o=>IntKind.i64.wrap (n+o.bh)) 0
theorem foldl_filter {α β:Type} (p:α→Bool) (g:β→α→β):∀ (l:List α) (b:β),(l.filter p).foldl g b=l.foldl (fun b y=>if p y then g b y else b) b
  | [],_=>rfl
  | y::l,b=>by
    rw [List.filter_cons,List.foldl_cons]
    cases h:p y
    · simp [foldl_filter p g l]
    · simp [foldl_filter p g l]
theorem foldl_map' {α β γ:Type} (f:α→γ) (g:β→γ→β):∀ (l:List α) (b:β),(l.map f).foldl g b=l.foldl (fun b y=>g b (f y)) b
  | [],_=>rfl
  | y::l,b=>by simp [foldl_map' f g l]
theorem AN {α β:Type} (p:α→Bool) (h:α→β):∀ (l:List α) (k:Nat),kE (fun _ y=>p y) (fun _ y=>h y) k l=(l.filter p).map h
  | [],_=>rfl
  | y::l,k=>by
    unfold kE
    rw [AN p h l,List.filter_cons]
    split <;> simp
theorem J4 {N:Nat} (hN:im≤N) {p:dW} (hb:iG p<im) (hw:wP p):vj N p=some (held p):=by
  have h4:=(mq hb).2.2.2.1
  have hl:=lD h4
  have hN':16777216≤N:=hN
  unfold vj held
  rw [foldl_filter,show ((0:Int),(0:Int))=(fun (k:Nat) (n:Int)=>(n,(k:Int))) 0 0 from rfl,
    kK (p.heap.ag.take 10) (fun (k:Nat) (n:Int)=>(n,(k:Int))) (fun _ n o=>if jt o then IntKind.i64.wrap (n+o.bh) else n) (fun n=>(n,(((p.heap.ag.take 10).length:Nat):Int))) (fun _ _=>True) ?_ ?_ (by simp;omega) trivial,lA]
  · rfl
  · intro k n y hy hk _
    have hk2:k<10∧k<p.heap.ag.length:=by simp at hk;omega
    rw [List.getElem?_take_of_lt hk2.1] at hy
    have hm:=List.mem_of_getElem? hy
    have h3:decide ((k:Int)<10)=true:=by simp;omega
    refine ⟨?_,trivial⟩
    simp only [jh hk2.2,h3,cond_true,iO,hy,Option.bind_some,D0 hN (lO h4 hm) (hw y hm),jm (show k<im from Nat.lt_trans hk2.1 (by decide))]
    cases jt y <;> rfl
  · intro n _
    simp only [List.length_take]
    rcases Nat.lt_or_ge 10 p.heap.ag.length with h | h
    · have e:min 10 p.heap.ag.length=10:=by omega
      have h3:decide (((10:Nat):Int)<(p.heap.ag.length:Int))=true:=by simp;omega
      simp only [e,h3,cond_true];rfl
    · have e:min 10 p.heap.ag.length=p.heap.ag.length:=by omega
      simp only [e,jg,cond_false,Option.bind_some]
def view (o:cd):oq:=oq.mk o.gen o.kind o.box o.res o.iU o.bh o.wait o.iW o.iR o.mark
theorem Lb (n:Nat):(if (10:Int)<(n:Int) then (10:Int) else (n:Int))=((min 10 n:Nat):Int):=by split <;> omega
theorem By {N:Nat} (hN:im≤N) {p:dW} (hb:iG p<im):nT N p=some (((p.heap.ag.take 10).filter jt).map view):=by
  have h4:=(mq hb).2.2.2.1
  have h10:jo iz (p.heap.ag.take 10)<im:=Nat.lt_of_le_of_lt (HK _ _ _) h4
  have hl:=lD h10
  unfold nT
  have e:p.heap.ag.take (min 10 p.heap.ag.length)=p.heap.ag.take 10:=by
    rcases Nat.lt_or_ge 10 p.heap.ag.length with h | h
    · rw [show min 10 p.heap.ag.length=10 by omega]
    · rw [show min 10 p.heap.ag.length=p.heap.ag.length by omega,List.take_of_length_le h,List.take_length]
  rw [Lb,wI (by omega),e,Option.bind_some,oQ (p.heap.ag.take 10) (fun _ o=>jt o) (fun _ o=>view o) hl hN,AN]
  · rfl
  · intro k t y hy hk ht
    have hz:=lO h10 (List.mem_of_getElem? hy)
    simp only [jh hk,cond_true,iO,hy,Option.bind_some,Ed hN hz,jm (Nat.lt_trans hk hl),lj ht (Nat.lt_of_le_of_lt hk hl)]
    cases jt y <;> rfl
  · intro t
    simp only [jg,cond_false]
theorem JZ {N:Nat} (hN:im≤N) {p:dW} (hb:iG p<im):vg N p=some (held p):=by
  unfold vg held
  rw [By hN hb,Option.bind_some]
  have hl:(((p.heap.ag.take 10).filter jt).map view).length<im:=by
    have h1:=List.length_filter_le jt (p.heap.ag.take 10)
    have h2:(16777216:Nat)=im:=rfl
    simp only [List.length_map]
    simp only [List.length_take] at h1
    omega
  have e:=foldl_map' view (fun (n:Int) (o:oq)=>IntKind.i64.wrap (n+o.bh)) ((p.heap.ag.take 10).filter jt) 0
  generalize ((p.heap.ag.take 10).filter jt).map view=v at *
  rw [show ((0:Int),(0:Int))=(fun (k:Nat) (n:Int)=>(n,(k:Int))) 0 0 from rfl,
    kK v (fun (k:Nat) (n:Int)=>(n,(k:Int))) (fun _ n o=>IntKind.i64.wrap (n+o.bh)) (fun n=>(n,(v.length:Int))) (fun _ _=>True) ?_ ?_ (Nat.lt_of_lt_of_le hl hN) trivial,lA,e]
  · rfl
  · intro k n y hy hk _
    simp only [jh hk,cond_true,iO,hy,Option.bind_some,jm (Nat.lt_trans hk hl)]
    exact ⟨trivial,trivial⟩
  · intro n _
    simp only [jg,cond_false]
def kF (p:dW):ig:=if iY p.gE then iV ⟨IntKind.i64.wrap ((jU p.tree).bh+held p),(jU p.tree).ib,(jU p.tree).ik⟩ p.gE else jU p.tree
theorem AM {N:Nat} (hN:im≤N) {p:dW} (hb:iG p<im):pq N p=some (kF p):=by
  unfold pq kF
  simp only [Bl hN (mq hb).2.2.1,su,JZ hN hb,tL,Option.bind_some]
  cases iY p.gE <;> rfl
theorem Hl {N:Nat} (hN:im≤N) {p:dW} (hb:iG p<im) (hw:wP p):rL N p=some (kF p):=by
  unfold rL kF
  simp only [GI hN (mq hb).2.2.1,qX,J4 hN hb hw,Option.bind_some]
  cases iY p.gE <;> rfl
def n8 (s:ig) (l:List dW):ig:=l.foldl (fun s p=>iV s (kF p)) s
def kR (w:iN):Bool:=iE w.now 0 1000000&&(iE (w.parts.length:Int) 1 3&&(w.parts.all iS&&iY (n8 ⟨0,0,0⟩ w.parts)))
def wW (l:List dW):Prop:=∀ p,p ∈ l→wP p
theorem B4 {N:Nat} (hN:im≤N) {l:List dW} (hb:jo iG l<im) (hw:wW l):ra N l=some (n8 ⟨0,0,0⟩ l):=by
  have hB:=lD hb
  unfold ra n8
  rw [show ((0:Int),(0:Int),(0:Int),(0:Int))=(fun (k:Nat) (s:ig)=>((k:Int),s.bh,s.ib,s.ik)) 0 ⟨0,0,0⟩ from rfl,
    kK l (fun (k:Nat) (s:ig)=>((k:Int),s.bh,s.ib,s.ik)) (fun _ s p=>iV s (kF p)) (fun s=>((l.length:Int),s.bh,s.ib,s.ik)) (fun _ _=>True) ?_ ?_ (Nat.lt_of_lt_of_le hB hN) trivial,lA]
  · rfl
  · intro k s p hy hk _
    have hm:=List.mem_of_getElem? hy
    simp only [jh hk,cond_true,iO,hy,Option.bind_some,Hl hN (lO hb hm) (hw p hm),jm (Nat.lt_trans hk hB)]
    exact ⟨rfl,trivial⟩
  · intro s _
    simp only [jg,cond_false]
theorem xh {N:Nat} (hN:im≤N) {w:iN} (hb:jo iG w.parts<im) (hw:wW w.parts):n7 N w=some (kR w):=by
  have hB:=lD hb
  unfold n7 kR
  simp only [nB,Option.bind_some,lN]
  cases iE w.now 0 1000000
  · rfl
  cases iE (w.parts.length:Int) 1 3
  · rfl
  simp only [Bool.not_true,Bool.or_self,cond_false,Bool.true_and]
  rw [kn w.parts (fun _ p=>iS p) (.inl (w.parts.length:Int)) (.inr false) (Nat.lt_of_lt_of_le hB hN),kV]
  · simp only [Option.bind_some,B4 hN hb hw,qX]
    cases w.parts.all iS <;> rfl
  · intro k y hy hk
    have hm:=List.mem_of_getElem? hy
    simp only [jh hk,cond_true,iO,hy,Option.bind_some,yH hN (lO hb hm) (hw y hm),jm (Nat.lt_trans hk hB)]
    cases iS y <;> rfl
  · simp only [jg,cond_false]
theorem xG {N:Nat} (hN:im≤N) {w:iN} (hb:jo iG w.parts<im):om N w=some (kR w):=by
  have hB:=lD hb
  unfold om kR
  simp only [wL,oF,Option.bind_some,lN]
  cases iE w.now 0 1000000
  · rfl
  cases iE (w.parts.length:Int) 1 3
  · rfl
  simp only [Bool.not_true,Bool.or_self,cond_false,Bool.true_and]
  rw [show ((0:Int),(0:Int),(0:Int),(0:Int))=(fun (k:Nat) (s:ig)=>((k:Int),s.bh,s.ib,s.ik)) 0 ⟨0,0,0⟩ from rfl,
    mP w.parts (fun (k:Nat) (s:ig)=>((k:Int),s.bh,s.ib,s.ik)) (fun _ s p=>if iS p then .inl (iV s (kF p)) else .inr (.inr false)) (fun s=>.inl ((w.parts.length:Int),s.bh,s.ib,s.ik)) (fun _ _=>True) ?_ ?_ (Nat.lt_of_lt_of_le hB hN) trivial]
  · simp only [Option.bind_some,su]
    have key:∀ (l:List dW) (k:Nat) (s:ig),Sum.elim (fun (o56:Int×Int×Int×Int)=>some (iY (ig.mk o56.2.1 o56.2.2.1 o56.2.2.2))) (fun r61=>some r61) (l6 (fun _ s p=>if iS p then .inl (iV s (kF p)) else .inr (.inr false)) (fun s=>.inl ((w.parts.length:Int),s.bh,s.ib,s.ik)) k s l)=some (l.all iS&&iY (n8 s l)):=by
      intro l
      induction l with
      | nil=>intro k s;rfl
      | cons p l ih =>
        intro k s
        unfold l6
        rw [List.all_cons]
        cases hp:iS p
        · rfl
        · simpa [n8] using ih (k+1) (iV s (kF p))
    exact key w.parts 0 _
  · intro k s p hy hk _
    have hm:=List.mem_of_getElem? hy
    refine ⟨?_,fun _ _=>trivial⟩
    simp only [jh hk,cond_true,iO,hy,Option.bind_some,tF hN (lO hb hm),AM hN (lO hb hm),tL,jm (Nat.lt_trans hk hB)]
    cases iS p <;> rfl
  · intro s _
    simp only [jg,cond_false]
def vk (w:iN):ig:=if kR w then n8 ⟨0,0,0⟩ w.parts else ⟨0,0,0⟩
theorem E5 {N:Nat} (hN:im≤N) {w:iN} (hb:jo iG w.parts<im) (hw:wW w.parts):pQ N w=some (vk w):=by
  unfold pQ vk
  simp only [xh hN hb hw,B4 hN hb hw,Option.bind_some]
  cases kR w <;> rfl
theorem FE {N:Nat} (hN:im≤N) {w:iN} (hb:jo iG w.parts<im):qG N w=some (vk w):=by
  have hB:=lD hb
  unfold qG vk
  rw [xG hN hb,Option.bind_some]
  cases kR w
  · rfl
  simp only [Bool.not_true,cond_false,if_true]
  rw [show ((0:Int),(0:Int),(0:Int),(0:Int))=(fun (k:Nat) (s:ig)=>((k:Int),s.bh,s.ib,s.ik)) 0 ⟨0,0,0⟩ from rfl,
    kK w.parts (fun (k:Nat) (s:ig)=>((k:Int),s.bh,s.ib,s.ik)) (fun _ s p=>iV s (kF p)) (fun s=>((w.parts.length:Int),s.bh,s.ib,s.ik)) (fun _ _=>True) ?_ ?_ (Nat.lt_of_lt_of_le hB hN) trivial,lA]
  · rfl
  · intro k s p hy hk _
    have hm:=List.mem_of_getElem? hy
    simp only [jh hk,cond_true,iO,hy,Option.bind_some,AM hN (lO hb hm),tL,jm (Nat.lt_trans hk hB)]
    exact ⟨trivial,trivial⟩
  · intro s _
    simp only [jg,cond_false]
end Go.Kx
/- Plain laws: what may run; what is safe to collect. No program in sight. -/
namespace Go.Kx
open Go
set_option linter.unusedVariables false
set_option linter.unusedSimpArgs false
set_option maxRecDepth 10000
theorem qZ {t:List ir} (h:j8 t=true):t.length=5:=(ko.1 h).len
def kN (p:dW) (i:Int):Int:=if j8 p.tree&&jl p.tree i then i else 0
theorem kX {t:List ir} {i:Int} (h:jl t i=true):0≤i∧i≤4:=by
  unfold jl at h
  simp only [Bool.and_eq_true,i7] at h
  exact h.1
theorem vr (p:dW) (i:Int):0≤kN p i∧kN p i≤4:=by
  unfold kN
  split
  · rename_i h
    simp only [Bool.and_eq_true] at h
    exact kX h.2
  · omega
theorem EH {N:Nat} (hN:im≤N) (p:dW) (i:Int):sC N p i=some (kN p i):=by
  unfold sC kN
  rw [tB hN,Option.bind_some]
  cases h:j8 p.tree
  · rfl
  · simp only [Bool.not_true,cond_false,uU N (qZ h),Option.bind_some,Bool.true_and]
    cases jl p.tree i <;> rfl
theorem uT {N:Nat} (hN:im≤N) (t:List ir) (i:Int):m8 N t i=some (j8 t&&jl t i):=by
  unfold m8 jl
  simp only [wE hN,uR,Option.bind_some]
  cases h:j8 t
  · rfl
  have hl:=qZ h
  cases hi:iE i 0 4
  · rfl
  · simp only [cond_true,zN hi (by omega) (show (4:Int)<(t.length:Int) by omega),Option.bind_some,Bool.true_and]
theorem EE {N:Nat} (hN:im≤N) (p:dW) (i:Int):sE N p i=some (kN p i):=by
  unfold sE kN
  rw [uT hN,Option.bind_some]
  cases (j8 p.tree&&jl p.tree i) <;> rfl
theorem lB {p:dW} (h:iS p=true):j8 p.tree=true:=by
  unfold iS at h
  simp only [Bool.and_eq_true] at h
  exact h.2.2.1
theorem EA {p:dW} (h:iS p=true) {i:Int} (h0:0≤i) (h4:i≤4):idx p.tree i=some (nth p.tree i):=jC h0 (by have:=qZ (lB h);omega)
def oR (p:dW) (i:Int):ig:=(nth p.tree (kN p (nth p.heap.ag i).res)).iL
theorem Ah {N:Nat} (hN:im≤N) {p:dW} (h:iS p=true) {i:Int} (h0:0≤i) (h9:i≤9):qn N p i=some (oR p i):=by
  unfold qn oR
  obtain ⟨r0,r4⟩:=vr p (nth p.heap.ag i).res
  simp only [((jS h).at h0 h9).1,Option.bind_some,EH hN,EA h r0 r4]
def qi (p:dW) (i:Int):Bool:=((nth p.heap.ag i).wait==0)&&decide ((oR p i).ik > 0)
def runnable (p:dW) (now:Int):List Int:=(threads p now).filter (qi p)
theorem CP (p:dW) (now:Int):(runnable p now).length≤10:=by
  unfold runnable
  refine Nat.le_trans (List.length_filter_le _ _) ?_
  unfold threads
  split
  · rename_i hp
    refine Nat.le_trans (vB _ _ _ _) ?_
    rw [oO (jS hp)];exact Nat.le_refl _
  · exact Nat.zero_le _
theorem E4 {N:Nat} (hN:im≤N) {p:dW} (hb:iG p<im) (now:Int):qo N p now=some (runnable p now):=by
  have hl:=vJ p now
  unfold qo runnable
  rw [A2 hN hb,Option.bind_some,oQ (threads p now) (fun _ i=>qi p i) (fun _ y=>y) hl hN,qA]
  · rfl
  · intro k t y hy hk ht
    obtain ⟨hp,y0,y9⟩:=pA (List.mem_of_getElem? hy)
    simp only [jh hk,cond_true,iO,hy,Option.bind_some,((jS hp).at y0 y9).1,Ah hN hp y0 y9,lK,jm (Nat.lt_trans hk hl),lj ht (Nat.lt_of_le_of_lt hk hl)]
    show (bif qi p y then _ else _)=_
    cases qi p y <;> rfl
  · intro t
    simp only [jg,cond_false]
end Go.Kx
