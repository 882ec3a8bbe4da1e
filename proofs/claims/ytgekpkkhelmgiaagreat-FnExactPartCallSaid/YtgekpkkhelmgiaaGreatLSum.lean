/- Plain laws: sums; what a right world is. No program in sight. -/
import Derived.Test.YtgekpkkhelmgiaaGreatLReach
namespace Go.Kx
open Go
set_option linter.unusedVariables false
set_option linter.unusedSimpArgs false
set_option maxRecDepth 10000
def NA (a:DAmt):Prop:=IntKind.i64.wrap a.pages=a.pages∧IntKind.i64.wrap a.rent=a.rent∧IntKind.i64.wrap a.cpu=a.cpu
theorem wrap_wrap (n:Int):IntKind.i64.wrap (IntKind.i64.wrap n)=IntKind.i64.wrap n:=by
  have:-9223372036854775808≤IntKind.i64.wrap n∧IntKind.i64.wrap n≤9223372036854775807:=by
    simp only [IntKind.wrap,IntKind.signed,IntKind.bits];simp;omega
  exact wrap_ok this.1 this.2
theorem NA.sum (a b:DAmt):NA (amtSum a b):=⟨wrap_wrap _,wrap_wrap _,wrap_wrap _⟩
theorem NA.zero:NA ⟨0,0,0⟩:=⟨by decide,by decide,by decide⟩
theorem sum_zero {a:DAmt} (h:NA a):amtSum a ⟨0,0,0⟩=a:=by
  obtain ⟨h1,h2,h3⟩:=h
  unfold amtSum
  simp only [Int.add_zero,h1,h2,h3]
def treeSum (t:List DRes):DAmt:=if treeOk t then sumLive ⟨0,0,0⟩ t else ⟨0,0,0⟩
theorem sumAll:∀ (t:List DRes) (s:DAmt),NA s→(∀ r,r ∈ t→r.live=false→r.bal=⟨0,0,0⟩)→t.foldl (fun s r=>amtSum s r.bal) s=sumLive s t
  | [],s,_,_=>rfl
  | r::t,s,hs,h=>by
    unfold sumLive
    simp only [List.foldl_cons]
    cases hl:r.live
    · rw [h r (by simp) hl,sum_zero hs]
      exact sumAll t s hs fun x hx=>h x (by simp [hx])
    · exact sumAll t _ (NA.sum _ _) fun x hx=>h x (by simp [hx])
structure Tr (t:List DRes):Prop where
  len:t.length=5
  live0:(nth t 0).live=true
  par0:(nth t 0).parent=-1
  dead:∀ r,r ∈ t→r.live=false→r=zRes
  bal:∀ r,r ∈ t→amtOk r.bal=true
  lead:∀ (k:Nat) (r:DRes),t[k]?=some r→r.live=true→leads t 5 (k:Int)=true
  sum:amtOk (sumLive ⟨0,0,0⟩ t)=true
theorem zRes_bal:amtOk zRes.bal=true:=by decide
theorem treeOk_iff {t:List DRes}:treeOk t=true ↔ Tr t:=by
  unfold treeOk
  simp only [Bool.and_eq_true,Bool.not_eq_true',bne_eq_false_iff_eq,allI_iff,Nat.zero_add]
  constructor
  · rintro ⟨h1,h2,h3,h4,h5⟩
    have hm:∀ r,r ∈ t→∃ k:Nat,t[k]?=some r:=fun o ho=>List.getElem?_of_mem ho
    refine ⟨by omega,h2,h3,fun r hr hl=>?_,fun r hr=>?_,fun k r hk hl=>?_,h5⟩
    · obtain ⟨k,hk⟩:=hm r hr
      have:=h4 k r hk
      unfold treeP at this
      simpa [hl] using this
    · obtain ⟨k,hk⟩:=hm r hr
      have:=h4 k r hk
      unfold treeP at this
      split at this
      · simp only [Bool.and_eq_true] at this;exact this.1
      · simp only [decide_eq_true_eq] at this;rw [this];exact zRes_bal
    · have:=h4 k r hk
      unfold treeP at this
      rw [if_pos hl] at this
      simp only [Bool.and_eq_true] at this
      exact this.2
  · intro h
    refine ⟨by have:=h.len;omega,h.live0,h.par0,fun k r hr=>?_,h.sum⟩
    unfold treeP
    have hm:=List.mem_of_getElem? hr
    cases hl:r.live
    · simp [h.dead r hm hl]
    · simp [h.bal r hm,h.lead k r hr hl]
theorem i_TreeSum {N:Nat} (hN:BIG≤N) {t:List DRes} (hB:t.length<BIG):F_i_TreeSum N t=some (treeSum t):=by
  unfold F_i_TreeSum treeSum
  rw [i_TreeOk hN,Option.bind_some]
  cases h:treeOk t
  · rfl
  have ht:=treeOk_iff.1 h
  simp only [Bool.not_true,cond_false,if_true]
  rw [show ((0:Int),(0:Int),(0:Int),(0:Int))=(fun (k:Nat) (s:DAmt)=>((k:Int),s.pages,s.rent,s.cpu)) 0 ⟨0,0,0⟩ from rfl,
    iter_fold t (fun (k:Nat) (s:DAmt)=>((k:Int),s.pages,s.rent,s.cpu)) (fun _ s r=>amtSum s r.bal) (fun s=>((t.length:Int),s.pages,s.rent,s.cpu)) (fun _ _=>True) ?_ ?_ (Nat.lt_of_lt_of_le hB hN) trivial,foldI_const,sumAll t _ NA.zero fun r hr hl=>by rw [ht.dead r hr hl];rfl]
  · rfl
  · intro k s r hy hk _
    simp only [lt_dec hk,cond_true,idx_nat,hy,Option.bind_some,i_sumOf,wrap1 (Nat.lt_trans hk hB)]
    exact ⟨trivial,trivial⟩
  · intro s _
    simp only [ge_dec,cond_false]
def held (p:DPart):Int:=((p.heap.arena.take 10).filter objOk).foldl (fun n o=>IntKind.i64.wrap (n+o.pages)) 0
end Go.Kx
