/- Plain laws: sums; what a right world is. No program in sight. -/
import Derived.Test.YtljikolgijlbeaaGreatLReach
namespace Go.Kx
open Go
set_option linter.unusedVariables false
set_option linter.unusedSimpArgs false
set_option maxRecDepth 10000
def NA (a:DAmt):Prop:=IntKind.i64.wrap a.pages=a.pages∧IntKind.i64.wrap a.rent=a.rent∧IntKind.i64.wrap a.cpu=a.cpu
theorem wrap_wrap (n:Int):IntKind.i64.wrap (IntKind.i64.wrap n)=IntKind.i64.wrap n:=by
  have:-9223372036854775808≤IntKind.i64.wrap n∧IntKind.i64.wrap n≤9223372036854775807:=by
    simp only [IntKind.wrap,IntKind.signed,IntKind.bits];simp;omega
  exact wrap_ok this.1 this.2
theorem NA.sum (a b:DAmt):NA (amtSum a b):=⟨wrap_wrap _,wrap_wrap _,wrap_wrap _⟩
theorem NA.zero:NA ⟨0,0,0⟩:=⟨by decide,by decide,by decide⟩
theorem sum_zero {a:DAmt} (h:NA a):amtSum a ⟨0,0,0⟩=a:=by
  obtain ⟨h1,h2,h3⟩:=h
  unfold amtSum
  simp only [Int.add_zero,h1,h2,h3]
def treeSum (t:List DRes):DAmt:=if treeOk t then sumLive ⟨0,0,0⟩ t else ⟨0,0,0⟩
theorem sumAll:∀ (t:List DRes) (s:DAmt),NA s→(∀ r,r ∈ t→r.live=false→r.bal=⟨0,0,0⟩)→t.foldl (fun s r=>amtSum s r.bal) s=sumLive s t
  | [],s,_,_=>rfl
  | r::t,s,hs,h=>by
    unfold sumLive
    simp only [List.foldl_cons]
    cases hl:r.live
    · rw [h r (by simp) hl,sum_zero hs]
      exact sumAll t s hs fun x hx=>h x (by simp [hx])
    · exact sumAll t _ (NA.sum _ _) fun x hx=>h x (by simp [hx])
structure Tr (t:List DRes):Prop where
  len:t.length=5
  live0:(nth t 0).live=true
  par0:(nth t 0).parent=-1
  dead:∀ r,r ∈ t→r.live=false→r=zRes
  bal:∀ r,r ∈ t→amtOk r.bal=true
  lead:∀ (k:Nat) (r:DRes),t[k]?=some r→r.live=true→leads t 5 (k:Int)=true
  sum:amtOk (sumLive ⟨0,0,0⟩ t)=true
theorem zRes_bal:amtOk zRes.bal=true:=by decide
theorem treeOk_iff {t:List DRes}:treeOk t=true ↔ Tr t:=by
  unfold treeOk
  simp only [Bool.and_eq_true,Bool.not_eq_true',bne_eq_false_iff_eq,allI_iff,Nat.zero_add]
  constructor
  · rintro ⟨h1,h2,h3,h4,h5⟩
    have hm:∀ r,r ∈ t→∃ k:Nat,t[k]?=some r:=fun o ho=>List.getElem?_of_mem ho
    refine ⟨by omega,h2,h3,fun r hr hl=>?_,fun r hr=>?_,fun k r hk hl=>?_,h5⟩
    · obtain ⟨k,hk⟩:=hm r hr
      have:=h4 k r hk
      unfold treeP at this
      simpa [hl] using this
    · obtain ⟨k,hk⟩:=hm r hr
      have:=h4 k r hk
      unfold treeP at this
      split at this
      · simp only [Bool.and_eq_true] at this;exact this.1
      · simp only [decide_eq_true_eq] at this;rw [this];exact zRes_bal
    · have:=h4 k r hk
      unfold treeP at this
      rw [if_pos hl] at this
      simp only [Bool.and_eq_true] at this
      exact this.2
  · intro h
    refine ⟨by have:=h.len;omega,h.live0,h.par0,fun k r hr=>?_,h.sum⟩
    unfold treeP
    have hm:=List.mem_of_getElem? hr
    cases hl:r.live
    · simp [h.dead r hm hl]
    · simp [h.bal r hm,h.lead k r hr hl]
theorem i_TreeSum {N:Nat} (hN:BIG≤N) {t:List DRes} (hB:t.length<BIG):F_i_TreeSum N t=some (treeSum t):=by
  unfold F_i_TreeSum treeSum
  rw [i_TreeOk hN,Option.bind_some]
  cases h:treeOk t
  · rfl
  have ht:=treeOk_iff.1 h
  simp only [Bool.not_true,cond_false,if_true]
  rw [show ((0:Int),(0:Int),(0:Int),(0:Int))=(fun (k:Nat) (s:DAmt)=>((k:Int),s.pages,s.rent,s.cpu)) 0 ⟨0,0,0⟩ from rfl,
    iter_fold t (fun (k:Nat) (s:DAmt)=>((k:Int),s.pages,s.rent,s.cpu)) (fun _ s r=>amtSum s r.bal) (fun s=>((t.length:Int),s.pages,s.rent,s.cpu)) (fun _ _=>True) ?_ ?_ (Nat.lt_of_lt_of_le hB hN) trivial,foldI_const,sumAll t _ NA.zero fun r hr hl=>by rw [ht.dead r hr hl];rfl]
  · rfl
  · intro k s r hy hk _
    simp only [lt_dec hk,cond_true,idx_nat,hy,Option.bind_some,i_sumOf,wrap1 (Nat.lt_trans hk hB)]
    exact ⟨trivial,trivial⟩
  · intro s _
    simp only [ge_dec,cond_false]
def held (p:DPart):Int:=((p.heap.arena.take 10).filter objOk).foldl (fun n o=>IntKind.i64.wrap (n+o.pages)) 0
theorem foldl_map' {α β γ:Type} (f:α→γ) (g:β→γ→β):∀ (l:List α) (b:β),(l.map f).foldl g b=l.foldl (fun b y=>g b (f y)) b
  | [],_=>rfl
  | y::l,b=>by simp [foldl_map' f g l]
theorem collI_map {α β:Type} (p:α→Bool) (h:α→β):∀ (l:List α) (k:Nat),collI (fun _ y=>p y) (fun _ y=>h y) k l=(l.filter p).map h
  | [],_=>rfl
  | y::l,k=>by
    unfold collI
    rw [collI_map p h l,List.filter_cons]
    split <;> simp
def view (o:DObj):DObjP:=DObjP.mk o.gen o.kind o.box o.res o.til o.pages o.wait o.got o.ran o.mark
theorem min10 (n:Nat):(if (10:Int)<(n:Int) then (10:Int) else (n:Int))=((min 10 n:Nat):Int):=by split <;> omega
theorem i_firstThings {N:Nat} (hN:BIG≤N) {p:DPart} (hb:sz_DPart p<BIG):F_i_firstThings N p=some (((p.heap.arena.take 10).filter objOk).map view):=by
  have h4:=(szPart hb).2.2.2.1
  have h10:szL sz_DObj (p.heap.arena.take 10)<BIG:=Nat.lt_of_le_of_lt (szL_take _ _ _) h4
  have hl:=szL_len h10
  unfold F_i_firstThings
  have e:p.heap.arena.take (min 10 p.heap.arena.length)=p.heap.arena.take 10:=by
    rcases Nat.lt_or_ge 10 p.heap.arena.length with h | h
    · rw [show min 10 p.heap.arena.length=10 by omega]
    · rw [show min 10 p.heap.arena.length=p.heap.arena.length by omega,List.take_of_length_le h,List.take_length]
  rw [min10,sub_take (by omega),e,Option.bind_some,iter_coll (p.heap.arena.take 10) (fun _ o=>objOk o) (fun _ o=>view o) hl hN,collI_map]
  · rfl
  · intro k t y hy hk ht
    have hz:=szL_mem h10 (List.mem_of_getElem? hy)
    simp only [lt_dec hk,cond_true,idx_nat,hy,Option.bind_some,i_ObjOk hN hz,wrap1 (Nat.lt_trans hk hl),app1 ht (Nat.lt_of_le_of_lt hk hl)]
    cases objOk y <;> rfl
  · intro t
    simp only [ge_dec,cond_false]
theorem i_Held {N:Nat} (hN:BIG≤N) {p:DPart} (hb:sz_DPart p<BIG):F_i_Held N p=some (held p):=by
  unfold F_i_Held held
  rw [i_firstThings hN hb,Option.bind_some]
  have hl:(((p.heap.arena.take 10).filter objOk).map view).length<BIG:=by
    have h1:=List.length_filter_le objOk (p.heap.arena.take 10)
    have h2:(16777216:Nat)=BIG:=rfl
    simp only [List.length_map]
    simp only [List.length_take] at h1
    omega
  have e:=foldl_map' view (fun (n:Int) (o:DObjP)=>IntKind.i64.wrap (n+o.pages)) ((p.heap.arena.take 10).filter objOk) 0
  generalize ((p.heap.arena.take 10).filter objOk).map view=v at *
  rw [show ((0:Int),(0:Int))=(fun (k:Nat) (n:Int)=>(n,(k:Int))) 0 0 from rfl,
    iter_fold v (fun (k:Nat) (n:Int)=>(n,(k:Int))) (fun _ n o=>IntKind.i64.wrap (n+o.pages)) (fun n=>(n,(v.length:Int))) (fun _ _=>True) ?_ ?_ (Nat.lt_of_lt_of_le hl hN) trivial,foldI_const,e]
  · rfl
  · intro k n y hy hk _
    simp only [lt_dec hk,cond_true,idx_nat,hy,Option.bind_some,wrap1 (Nat.lt_trans hk hl)]
    exact ⟨trivial,trivial⟩
  · intro n _
    simp only [ge_dec,cond_false]
def partSum (p:DPart):DAmt:=if amtOk p.spent then amtSum ⟨IntKind.i64.wrap ((treeSum p.tree).pages+held p),(treeSum p.tree).rent,(treeSum p.tree).cpu⟩ p.spent else treeSum p.tree
theorem i_PartSum {N:Nat} (hN:BIG≤N) {p:DPart} (hb:sz_DPart p<BIG):F_i_PartSum N p=some (partSum p):=by
  unfold F_i_PartSum partSum
  simp only [i_TreeSum hN (szPart hb).2.2.1,i_AmtOk,i_Held hN hb,i_sumOf,Option.bind_some]
  cases amtOk p.spent <;> rfl
def partsSum (s:DAmt) (l:List DPart):DAmt:=l.foldl (fun s p=>amtSum s (partSum p)) s
def worldOk (w:DWorld):Bool:=inR w.now 0 1000000&&(inR (w.parts.length:Int) 1 3&&(w.parts.all partOk&&amtOk (partsSum ⟨0,0,0⟩ w.parts)))
def wW (l:List DPart):Prop:=∀ p,p ∈ l→wP p
theorem i_WorldOk {N:Nat} (hN:BIG≤N) {w:DWorld} (hb:szL sz_DPart w.parts<BIG):F_i_WorldOk N w=some (worldOk w):=by
  have hB:=szL_len hb
  unfold F_i_WorldOk worldOk
  simp only [i_isTime,i_in,Option.bind_some,bOr]
  cases inR w.now 0 1000000
  · rfl
  cases inR (w.parts.length:Int) 1 3
  · rfl
  simp only [Bool.not_true,Bool.or_self,cond_false,Bool.true_and]
  rw [show ((0:Int),(0:Int),(0:Int),(0:Int))=(fun (k:Nat) (s:DAmt)=>((k:Int),s.pages,s.rent,s.cpu)) 0 ⟨0,0,0⟩ from rfl,
    iter_list w.parts (fun (k:Nat) (s:DAmt)=>((k:Int),s.pages,s.rent,s.cpu)) (fun _ s p=>if partOk p then .inl (amtSum s (partSum p)) else .inr (.inr false)) (fun s=>.inl ((w.parts.length:Int),s.pages,s.rent,s.cpu)) (fun _ _=>True) ?_ ?_ (Nat.lt_of_lt_of_le hB hN) trivial]
  · simp only [Option.bind_some,i_AmtOk]
    have key:∀ (l:List DPart) (k:Nat) (s:DAmt),Sum.elim (fun (o56:Int×Int×Int×Int)=>some (amtOk (DAmt.mk o56.2.1 o56.2.2.1 o56.2.2.2))) (fun r61=>some r61) (runL (fun _ s p=>if partOk p then .inl (amtSum s (partSum p)) else .inr (.inr false)) (fun s=>.inl ((w.parts.length:Int),s.pages,s.rent,s.cpu)) k s l)=some (l.all partOk&&amtOk (partsSum s l)):=by
      intro l
      induction l with
      | nil=>intro k s;rfl
      | cons p l ih =>
        intro k s
        unfold runL
        rw [List.all_cons]
        cases hp:partOk p
        · rfl
        · simpa [partsSum] using ih (k+1) (amtSum s (partSum p))
    exact key w.parts 0 _
  · intro k s p hy hk _
    have hm:=List.mem_of_getElem? hy
    refine ⟨?_,fun _ _=>trivial⟩
    simp only [lt_dec hk,cond_true,idx_nat,hy,Option.bind_some,i_PartOk hN (szL_mem hb hm),i_PartSum hN (szL_mem hb hm),i_sumOf,wrap1 (Nat.lt_trans hk hB)]
    cases partOk p <;> rfl
  · intro s _
    simp only [ge_dec,cond_false]
end Go.Kx
