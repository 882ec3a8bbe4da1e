/- Plain laws: taps. No program in sight. -/
import Derived.Test.YtljikolgijlbeaaGreatLStep
namespace Go.Kx
open Go
set_option linter.unusedVariables false
set_option linter.unusedSimpArgs false
set_option maxRecDepth 10000
theorem copyLoopW {N:Nat} (hN:BIG≤N) {w:List DPart} (hl:w.length<BIG) {F:DPart→Option DPart} (hF:∀ y,y ∈ w→F y=some y) :
    iter (fun (s8:Int×(List DPart))=>(bif (decide (s8.1<(w.length:Int))) then ((idx w s8.1).bind fun y11=>(F y11).bind fun y41=>(app s8.2 [y41]).bind fun y57=>some (.inl (IntKind.i64.wrap (s8.1+1),y57))) else (some (.inr (s8.1,s8.2))):Option ((Int×(List DPart))⊕(Int×(List DPart))))) N (0,[])=some ((w.length:Int),w):=by
  have e:∀ (l:List DPart) (k:Nat) (acc:List DPart),foldI (fun _ (acc:List DPart) y=>acc++[y]) k acc l=acc++l:=by
    intro l
    induction l with
    | nil=>intro k acc;simp [foldI]
    | cons y l ih=>intro k acc;unfold foldI;rw [ih];simp
  rw [show ((0:Int),([]:List DPart))=(fun (k:Nat) (t:List DPart)=>((k:Int),t)) 0 [] from rfl,
    iter_fold w (fun (k:Nat) (t:List DPart)=>((k:Int),t)) (fun _ acc y=>acc++[y]) (fun t=>((w.length:Int),t)) (fun k t=>t.length≤k) ?_ ?_ (Nat.lt_of_lt_of_le hl hN) (by simp),e]
  · simp
  · intro k t y hy hk ht
    refine ⟨?_,by simp;omega⟩
    simp only [lt_dec hk,cond_true,idx_nat,hy,Option.bind_some,hF y (List.mem_of_getElem? hy),wrap1 (Nat.lt_trans hk hl),app1 ht (Nat.lt_of_le_of_lt hk hl)]
  · intro t _
    simp only [ge_dec,cond_false]
theorem i_copyWorld {N:Nat} (hN:BIG≤N) {w:DWorld} (hb:szL sz_DPart w.parts<BIG):F_i_copyWorld N w=some w:=by
  unfold F_i_copyWorld
  rw [copyLoopW hN (szL_len hb) fun y hy=>i_copyPart hN (szL_mem hb hy)];rfl
theorem copyLoopT {N:Nat} (hN:BIG≤N) {w:List DTree} (hl:w.length<BIG) {F:List DRes→Option (List DRes)} (hF:∀ y,y ∈ w→F y.list=some y.list) :
    iter (fun (s4:(List DTree)×Int)=>(bif (decide (s4.2<(w.length:Int))) then ((idx w s4.2).bind fun y7=>(F y7.list).bind fun y22=>(app s4.1 [DTree.mk y22]).bind fun y26=>some (.inl (y26,IntKind.i64.wrap (s4.2+1)))) else (some (.inr (s4.1,s4.2))):Option (((List DTree)×Int)⊕((List DTree)×Int)))) N ([],0)=some (w,(w.length:Int)):=by
  rw [iter_coll w (fun _ _=>true) (fun _ y=>y) hl hN]
  · rw [collI_filter (fun _=>true) w 0];simp
  · intro k t y hy hk ht
    simp only [lt_dec hk,cond_true,idx_nat,hy,Option.bind_some,hF y (List.mem_of_getElem? hy),wrap1 (Nat.lt_trans hk hl),app1 ht (Nat.lt_of_le_of_lt hk hl),if_true]
  · intro t
    simp only [ge_dec,cond_false]
def smallT (ts:List DTree):Prop:=ts.length<BIG∧∀ t,t ∈ ts→t.list.length<BIG
theorem i_copyTrees {N:Nat} (hN:BIG≤N) {ts:List DTree} (h:smallT ts):F_i_copyTrees N ts=some ts:=by
  unfold F_i_copyTrees
  rw [copyLoopT hN h.1 fun y hy=>i_copyTree (h.2 y hy)];rfl
def amtPart (a:DAmt) (w:Int):Int:=if w==0 then a.pages else if w==1 then a.rent else if w==2 then a.cpu else 0
theorem i_AmtPart (N:Nat) (a:DAmt) (w:Int):F_i_AmtPart N a w=some (amtPart a w):=by
  unfold F_i_AmtPart amtPart
  cases w==0 <;> cases w==1 <;> cases w==2 <;> rfl
def flowOf (t:DTap) (n:Int):Int:=if t.kind==1 then (if n<t.rate then n else t.rate) else IntKind.i64.wrap (Int.tdiv (IntKind.i64.wrap (t.rate * n)) 100)
def tapFlow (t:DTap) (a:DAmt):Int:=if tapOk t&&amtOk a then flowOf t (amtPart a t.which) else 0
theorem i_TapFlow (N:Nat) (t:DTap) (a:DAmt):F_i_TapFlow N t a=some (tapFlow t a):=by
  unfold F_i_TapFlow tapFlow flowOf
  simp only [i_TapOk,i_AmtOk,Option.bind_some,bOr,i_AmtPart]
  cases tapOk t
  · rfl
  cases amtOk a
  · rfl
  cases t.kind==1 <;> rfl
theorem flow_rng {t:DTap} {n:Int} (ht:tapOk t=true) (h0:0≤n) (h1:n≤1000000):0≤flowOf t n∧flowOf t n≤n:=by
  unfold tapOk at ht
  simp only [Bool.and_eq_true,Bool.or_eq_true,inR_iff,beq_iff_eq] at ht
  unfold flowOf
  rcases ht.2 with ⟨hk,r0,r1⟩ | ⟨hk,r0,r1⟩
  · rw [hk]
    simp only [beq_self_eq_true,if_true]
    split <;> omega
  · rw [hk,show ((2:Int)==1)=false from rfl]
    simp only [Bool.false_eq_true,if_false]
    have m1:0≤t.rate * n:=Int.mul_nonneg r0 h0
    have m2:t.rate * n≤100 * n:=Int.mul_le_mul_of_nonneg_right r1 h0
    rw [wrap_ok (n:=t.rate * n) (by omega) (by omega),Int.tdiv_eq_ediv_of_nonneg m1]
    have d0:0≤t.rate * n / 100:=by omega
    have d1:t.rate * n / 100≤n:=by omega
    rw [wrap_ok (by omega) (by omega)]
    exact ⟨d0,d1⟩
theorem flow_fits {t:DTap} {a:DAmt} (ht:tapOk t=true) (ha:amtOk a=true):amtFits (amtOne t.which (tapFlow t a)) a=true:=by
  unfold tapFlow
  rw [ht,ha]
  simp only [Bool.and_self,if_true]
  have ht':=ht
  unfold tapOk at ht'
  simp only [Bool.and_eq_true,inR_iff] at ht'
  have ha':=amtOk_iff.1 ha
  have hw:t.which=0∨t.which=1∨t.which=2:=by omega
  unfold amtFits
  rw [ha]
  rcases hw with e | e | e <;> rw [e]
  · obtain ⟨q0,q1⟩:=flow_rng ht (n:=amtPart a 0) ha'.1.1 ha'.1.2
    have q2:flowOf t (amtPart a 0)≤a.pages:=q1
    have:amtOk (amtOne 0 (flowOf t (amtPart a 0)))=true:=amtOk_iff.2 (show (0≤flowOf t (amtPart a 0)∧flowOf t (amtPart a 0)≤1000000)∧(0≤(0:Int)∧(0:Int)≤1000000)∧(0≤(0:Int)∧(0:Int)≤1000000) from ⟨⟨q0,by omega⟩,by decide,by decide⟩)
    rw [this]
    simp only [Bool.true_and,Bool.and_eq_true,decide_eq_true_eq]
    exact ⟨q2,ha'.2.1.1,ha'.2.2.1⟩
  · obtain ⟨q0,q1⟩:=flow_rng ht (n:=amtPart a 1) ha'.2.1.1 ha'.2.1.2
    have q2:flowOf t (amtPart a 1)≤a.rent:=q1
    have:amtOk (amtOne 1 (flowOf t (amtPart a 1)))=true:=amtOk_iff.2 (show (0≤(0:Int)∧(0:Int)≤1000000)∧(0≤flowOf t (amtPart a 1)∧flowOf t (amtPart a 1)≤1000000)∧(0≤(0:Int)∧(0:Int)≤1000000) from ⟨by decide,⟨q0,by omega⟩,by decide⟩)
    rw [this]
    simp only [Bool.true_and,Bool.and_eq_true,decide_eq_true_eq]
    exact ⟨ha'.1.1,q2,ha'.2.2.1⟩
  · obtain ⟨q0,q1⟩:=flow_rng ht (n:=amtPart a 2) ha'.2.2.1 ha'.2.2.2
    have q2:flowOf t (amtPart a 2)≤a.cpu:=q1
    have:amtOk (amtOne 2 (flowOf t (amtPart a 2)))=true:=amtOk_iff.2 (show (0≤(0:Int)∧(0:Int)≤1000000)∧(0≤(0:Int)∧(0:Int)≤1000000)∧(0≤flowOf t (amtPart a 2)∧flowOf t (amtPart a 2)≤1000000) from ⟨by decide,by decide,⟨q0,by omega⟩⟩)
    rw [this]
    simp only [Bool.true_and,Bool.and_eq_true,decide_eq_true_eq]
    exact ⟨ha'.1.1,ha'.2.1.1,q2⟩
def treesOk (ts:List DTree):Bool:=ts.all fun t=>treeOk t.list
def tapMay (ts:List DTree) (p:Int) (t:DTap):Bool :=
  treesOk ts&&(!decide ((ts.length:Int) > 3)&&(tapOk t&&(inR p 0 ((ts.length:Int) - 1)&&(!decide (t.toPart ≥ (ts.length:Int))&&liveAt (nth ts p).list t.res))))
def tapN (ts:List DTree) (p:Int) (t:DTap):Int:=tapFlow t (nth (nth ts p).list t.res).bal
def tapPaid (ts:List DTree) (p:Int) (t:DTap):List DTree:=ts.set p.toNat (DTree.mk (treePay (nth ts p).list t.res (amtOne t.which (tapN ts p t))).1)
def tapBack (ts:List DTree) (p:Int) (t:DTap):List DRes×Bool:=treeBack (nth (tapPaid ts p t) t.toPart).list t.toRes (amtOne t.which (tapN ts p t))
def tapMove (ts:List DTree) (p:Int) (t:DTap):List DTree×Int :=
  if tapMay ts p t&&(tapBack ts p t).2 then ((tapPaid ts p t).set t.toPart.toNat (DTree.mk (tapBack ts p t).1),tapN ts p t) else (ts,0)
theorem small_set {ts:List DTree} (h:smallT ts) {k:Nat} {t:List DRes} (ht:t.length<BIG):smallT (ts.set k (DTree.mk t)):=by
  refine ⟨by rw [List.length_set];exact h.1,fun y hy=>?_⟩
  rcases List.mem_or_eq_of_mem_set hy with h1 | h1
  · exact h.2 y h1
  · subst h1;exact ht
theorem tree_at {ts:List DTree} {p:Int} (h:treesOk ts=true) (h0:0≤p) (h1:p<(ts.length:Int)):treeOk (nth ts p).list=true:=by
  unfold treesOk at h
  rw [List.all_eq_true] at h
  exact h _ (nth_mem h0 h1)
theorem tapMay_iff {ts:List DTree} {p:Int} {t:DTap} (h:tapMay ts p t=true):treesOk ts=true∧tapOk t=true∧(0≤p∧p<(ts.length:Int))∧(0≤t.toPart∧t.toPart<(ts.length:Int))∧liveAt (nth ts p).list t.res=true:=by
  unfold tapMay at h
  simp only [Bool.and_eq_true,Bool.not_eq_true',decide_eq_false_iff_not,inR_iff] at h
  obtain ⟨h1,_,h2,h3,h4,h5⟩:=h
  have h2':=h2
  unfold tapOk at h2'
  simp only [Bool.and_eq_true,inR_iff] at h2'
  exact ⟨h1,h2,⟨h3.1,by omega⟩,⟨h2'.1.2.1.1,by omega⟩,h5⟩
theorem pay_ok {ts:List DTree} {p:Int} {t:DTap} (h:tapMay ts p t=true):(treePay (nth ts p).list t.res (amtOne t.which (tapN ts p t))).2=true:=by
  obtain ⟨h1,h2,⟨p0,p1⟩,_,h5⟩:=tapMay_iff h
  have ho:=tree_at h1 p0 p1
  obtain ⟨f0,f4⟩:=liveAt_rng h5
  have hb:amtOk (nth (nth ts p).list t.res).bal=true:=by
    have hT:=ho
    have hl:=treeLen ho
    unfold treeOk at hT
    simp only [Bool.and_eq_true] at hT
    have hP:=allI_iff.1 hT.2.2.2.1 t.res.toNat _ (nth_get f0 (by omega))
    have hv:(nth (nth ts p).list t.res).live=true:=by
      unfold liveAt at h5
      rw [Bool.and_eq_true] at h5
      exact h5.2
    unfold treeP at hP
    rw [hv,if_pos rfl,Bool.and_eq_true] at hP
    exact hP.1
  unfold treePay
  rw [ho,h5]
  simp only [Bool.and_self,if_true]
  rw [show amtFits (amtOne t.which (tapN ts p t)) (nth (nth ts p).list t.res).bal=true from flow_fits h2 hb]
  rfl
theorem paid_small {ts:List DTree} (h:smallT ts) {p:Int} (p0:0≤p) (p1:p<(ts.length:Int)) (t:DTap):smallT (tapPaid ts p t) :=
  small_set h (by rw [treePay_len];exact h.2 _ (nth_mem p0 p1))
theorem paid_len (ts:List DTree) (p:Int) (t:DTap):(tapPaid ts p t).length=ts.length:=by unfold tapPaid;rw [List.length_set]
theorem i_TapMove {N:Nat} (hN:BIG≤N) {ts:List DTree} (h:smallT ts) (p:Int) (t:DTap):F_i_TapMove N ts p t=some (tapMove ts p t):=by
  have hl:=h.1
  have hB:(16777216:Nat)=BIG:=rfl
  unfold F_i_TapMove
  simp only [i_copyTrees hN h,Option.bind_some]
  rw [iter_all ts (fun _ t=>treeOk t.list) (.inl (ts.length:Int)) (.inr (ts,0)) (Nat.lt_of_lt_of_le hl hN),allI_const]
  · simp only [Option.bind_some,i_TapOk,i_in,wrap_ok (n:=(ts.length:Int) - 1) (by omega) (by omega)]
    cases h1:ts.all (fun t=>treeOk t.list)
    · have:tapMay ts p t=false:=by unfold tapMay treesOk;rw [h1];rfl
      unfold tapMove
      rw [this];rfl
    cases h2:decide ((ts.length:Int) > 3)
    case true =>
      have:tapMay ts p t=false:=by unfold tapMay treesOk;rw [h1,h2];rfl
      unfold tapMove
      rw [this];rfl
    cases h3:tapOk t
    · have:tapMay ts p t=false:=by unfold tapMay treesOk;rw [h1,h2,h3];rfl
      unfold tapMove
      rw [this];rfl
    cases h4:inR p 0 ((ts.length:Int) - 1)
    · have:tapMay ts p t=false:=by unfold tapMay treesOk;rw [h1,h2,h3,h4];rfl
      unfold tapMove
      rw [this];rfl
    cases h5:decide (t.toPart ≥ (ts.length:Int))
    case true =>
      have:tapMay ts p t=false:=by unfold tapMay treesOk;rw [h1,h2,h3,h4,h5];rfl
      unfold tapMove
      rw [this];rfl
    rw [inR_iff] at h4
    have p1:p<(ts.length:Int):=by omega
    have ho:=tree_at (ts:=ts) h1 h4.1 p1
    have h5l:=treeLen ho
    simp only [if_true,Sum.elim_inl,Bool.not_true,cond_false,idx_ok (l:=ts) h4.1 p1,Option.bind_some,i_isLive N h5l]
    cases h6:liveAt (nth ts p).list t.res
    · have:tapMay ts p t=false:=by unfold tapMay;rw [h6];simp
      unfold tapMove
      rw [this];rfl
    have hm:tapMay ts p t=true:=by unfold tapMay treesOk;rw [h1,h2,h3,h5,h6,inR_iff.2 h4];rfl
    obtain ⟨_,_,_,⟨q0,q1⟩,_⟩:=tapMay_iff hm
    obtain ⟨f0,f4⟩:=liveAt_rng h6
    simp only [Bool.not_true,cond_false,idx_ok (l:=(nth ts p).list) f0 (by omega),Option.bind_some,i_TapFlow,i_AmtOne,i_TreePay hN (h.2 _ (nth_mem h4.1 p1)),
      show tapFlow t (nth (nth ts p).list t.res).bal=tapN ts p t from rfl,pay_ok hm,show ts.set p.toNat (DTree.mk (treePay (nth ts p).list t.res (amtOne t.which (tapN ts p t))).1)=tapPaid ts p t from rfl,
      idx_ok (l:=tapPaid ts p t) q0 (by rw [paid_len];exact q1),i_TreeBack hN ((paid_small h h4.1 p1 t).2 _ (nth_mem q0 (by rw [paid_len];exact q1)))]
    unfold tapMove
    rw [hm]
    show (bif !(tapBack ts p t).2 then some (ts,0) else some ((tapPaid ts p t).set t.toPart.toNat (DTree.mk (tapBack ts p t).1),tapN ts p t))=_
    cases (tapBack ts p t).2 <;> rfl
  · intro k y hy hk
    simp only [lt_dec hk,cond_true,idx_nat,hy,Option.bind_some,i_TreeOk hN,wrap1 (Nat.lt_trans hk hl)]
    cases treeOk y.list <;> rfl
  · simp only [ge_dec,cond_false]
def lens (ts:List DTree):List Nat:=ts.map fun t=>t.list.length
theorem lens_set {ts:List DTree} {k:Nat} {y:DTree} {t:List DRes} (hy:ts[k]?=some y) (ht:t.length=y.list.length):lens (ts.set k (DTree.mk t))=lens ts:=by
  unfold lens
  rw [List.map_set]
  show (ts.map fun t=>t.list.length).set k t.length=_
  rw [ht]
  apply set_get
  rw [List.getElem?_map,hy];rfl
theorem tapMove_lens (ts:List DTree) (p:Int) (t:DTap):lens (tapMove ts p t).1=lens ts:=by
  unfold tapMove
  split
  · rename_i h
    rw [Bool.and_eq_true] at h
    obtain ⟨_,_,⟨p0,p1⟩,⟨q0,q1⟩,_⟩:=tapMay_iff h.1
    show lens ((tapPaid ts p t).set t.toPart.toNat (DTree.mk (tapBack ts p t).1))=_
    refine (lens_set (nth_get q0 (by rw [paid_len];exact q1)) (show (tapBack ts p t).1.length=_ from treeBack_len _ _ _)).trans ?_
    exact lens_set (nth_get p0 p1) (treePay_len _ _ _)
  · rfl
theorem small_lens {ts us:List DTree} (h:smallT ts) (e:lens us=lens ts):smallT us:=by
  have hl:us.length=ts.length:=by
    have:=congrArg List.length e
    unfold lens at this
    rwa [List.length_map,List.length_map] at this
  refine ⟨by rw [hl];exact h.1,fun y hy=>?_⟩
  have hm:y.list.length ∈ lens us:=List.mem_map.2 ⟨y,hy,rfl⟩
  rw [e] at hm
  obtain ⟨z,hz,hzz⟩:=List.mem_map.1 hm
  rw [← hzz]
  exact h.2 z hz
def tapped (ts:List DTree) (p:Int) (taps:List DTap):List DTree:=taps.foldl (fun ts t=>(tapMove ts p t).1) ts
theorem tapped_lens (p:Int):∀ (taps:List DTap) (ts:List DTree),lens (tapped ts p taps)=lens ts
  | [],_=>rfl
  | t::taps,ts=>(tapped_lens p taps (tapMove ts p t).1).trans (tapMove_lens ts p t)
theorem tapsLoop {N:Nat} (hN:BIG≤N) {taps:List DTap} (hl:taps.length<BIG) {ts:List DTree} (h:smallT ts) {p:Int} {F:List DTree→DTap→Option (List DTree×Int)} (hF:∀ ts t,smallT ts→F ts t=some (tapMove ts p t)) :
    iter (fun (s94:(List DTree)×Int)=>(bif (decide (s94.2<(taps.length:Int))) then ((idx taps s94.2).bind fun y97=>(F s94.1 y97).bind fun y109=>some (.inl (y109.1,IntKind.i64.wrap (s94.2+1)))) else (some (.inr (s94.1,s94.2))):Option (((List DTree)×Int)⊕((List DTree)×Int)))) N (ts,0)=some (tapped ts p taps,(taps.length:Int)):=by
  rw [show (ts,(0:Int))=(fun (k:Nat) (t:List DTree)=>(t,(k:Int))) 0 ts from rfl,
    iter_fold taps (fun (k:Nat) (t:List DTree)=>(t,(k:Int))) (fun _ ts t=>(tapMove ts p t).1) (fun t=>(t,(taps.length:Int))) (fun _ t=>lens t=lens ts) ?_ ?_ (Nat.lt_of_lt_of_le hl hN) rfl,foldI_const]
  · rfl
  · intro k t y hy hk ht
    refine ⟨?_,(tapMove_lens t p y).trans ht⟩
    simp only [lt_dec hk,cond_true,idx_nat,hy,Option.bind_some,hF t y (small_lens h ht),wrap1 (Nat.lt_trans hk hl)]
  · intro t _
    simp only [ge_dec,cond_false]
def partTaps (w:DWorld) (p:Int):DWorld:=if worldOk w&&hasPart w p then DWorld.mk w.now (putTrees w.parts (treeLists (tapped (treesOf w.parts) p (nth w.parts p).taps))) else w
theorem trees_small {l:List DPart} (hb:szL sz_DPart l<BIG):smallT (treesOf l):=by
  refine ⟨by unfold treesOf partTrees;rw [List.length_map,List.length_map];exact szL_len hb,fun t ht=>?_⟩
  unfold treesOf partTrees at ht
  rw [List.map_map] at ht
  obtain ⟨p,hp,rfl⟩:=List.mem_map.1 ht
  exact (szPart (szL_mem hb hp)).2.2.1
theorem tapped_len {l:List DPart} {p:Int} {taps:List DTap}:(tapped (treesOf l) p taps).length=l.length:=by
  have:=congrArg List.length (tapped_lens p taps (treesOf l))
  unfold lens treesOf partTrees at this
  rw [List.length_map,List.length_map,List.length_map,List.length_map] at this
  exact this
theorem i_PartTaps {N:Nat} (hN:BIG≤N) {w:DWorld} (hb:szL sz_DPart w.parts<BIG) (p:Int):F_i_PartTaps N w p=some (partTaps w p):=by
  unfold F_i_PartTaps partTaps
  simp only [i_copyWorld hN hb,i_WorldOk hN hb,i_hasPart (szL_len hb),Option.bind_some,bOr]
  cases hw:worldOk w
  · rfl
  cases hp:hasPart w p
  · rfl
  obtain ⟨e,hm⟩:=hasPart_idx hp
  have hl:=szL_len hb
  have ht:(nth w.parts p).taps.length<BIG:=(szPart (szL_mem hb hm)).2.2.2.2.2
  simp only [Bool.not_true,Bool.or_self,cond_false,Bool.and_self,if_true,decide_eq_true (Nat.lt_of_lt_of_le hl hN),decide_eq_true hl,e,Option.bind_some]
  rw [show (gd true).bind=fun (k:Unit→Option DWorld)=>k () from rfl]
  simp only []
  rw [tapsLoop hN ht (trees_small hb) (p:=p) (fun ts t h=>i_TapMove hN h p t)]
  simp only [Option.bind_some,tapped_len,decide_true]
  rfl
end Go.Kx
