/- Plain laws: what is freed, shaded, swept; a collector's step. No program in sight. -/
import Derived.Test.YtljikolgijlbeaaGreatLPay
namespace Go.Kx
open Go
set_option linter.unusedVariables false
set_option linter.unusedSimpArgs false
set_option maxRecDepth 10000
def unl1 (i:Int) (x:Int):Int:=if x==i then -1 else x
def unl (i:Int) (o:DObj):DObj:=if o.kind==0 then o else DObj.mk o.gen o.kind (if o.box==i then -1 else o.box) o.res o.til o.pages o.wait o.got o.ran o.mark (o.links.map (unl1 i)) o.data o.queue
def arenaFree (l:List DObj) (i:Int):List DObj×Bool:=if arenaOk l&&(inR i 1 9&&((nth l i).kind != 0)) then ((l.set i.toNat (blank (nth l i).gen)).map (unl i),true) else (l,false)
theorem freed_ok {l:List DObj} (h:Ar l) {i g:Int} {k:Nat} {y:DObj} (hy:(l.set i.toNat (blank g))[k]?=some y) (hk:(y.kind==0)=false):objOk y=true:=by
  rcases List.mem_or_eq_of_mem_set (List.mem_of_getElem? hy) with q | q
  · exact h.ok y q
  · rw [q] at hk;simp [blank] at hk
theorem objOk_two {o:DObj} (h:objOk o=true) (hk:(o.kind==0)=false):o.links.length=2:=by
  unfold objOk at h
  simp only [hk,cond_false,Bool.and_eq_true] at h
  obtain ⟨_,_,_,_,_,_,hl,_⟩:=h
  unfold listsOk at hl
  simp only [Bool.and_eq_true,beq_iff_eq] at hl
  omega
theorem i_ArenaFree {N:Nat} (hN:BIG≤N) {l:List DObj} (hb:szL sz_DObj l<BIG) (i:Int):F_i_ArenaFree N l i=some (arenaFree l i):=by
  unfold F_i_ArenaFree arenaFree
  simp only [i_copyArena hN hb,i_ArenaOk hN hb,i_in,Option.bind_some]
  cases ha:arenaOk l
  · rfl
  have h:=arenaOk_iff.1 ha
  cases hi:inR i 1 9
  · rfl
  have hr:=inR_iff.1 hi
  simp only [Bool.not_true,cond_false,(h.at (i:=i) (by omega) hr.2).1,Option.bind_some,bne,Bool.true_and]
  cases hk:(nth l i).kind==0
  · simp only [cond_false,Bool.not_false,if_true]
    rw [show DObj.mk (nth l i).gen 0 0 0 0 0 0 0 0 false [] [] []=blank (nth l i).gen from rfl]
    have hlen:(l.set i.toNat (blank (nth l i).gen)).length=l.length:=List.length_set
    rw [iter_map (l.set i.toNat (blank (nth l i).gen)) (unl i) (by rw [hlen];exact Nat.lt_of_lt_of_le h.lenB hN)]
    · rfl
    · intro k t y ht hty hy hkl
      have hk10:k<10:=by rw [hlen,h.len] at hkl;exact hkl
      have hd:decide ((k:Int)<(l.length:Int))=true:=by simp [h.len];omega
      have hkt:k<t.length:=lt_of_some hty
      simp only [hd,cond_true,idx_nat,hty,Option.bind_some,wrap1 (show k<BIG from Nat.lt_trans hk10 (by decide))]
      unfold unl
      cases hyk:y.kind==0
      · have ho:=freed_ok h hy hyk
        have h2:=objOk_two ho hyk
        have hLB:y.links.length<BIG:=by rw [h2];decide
        have inner:iter (fun (s124:(List Int)×Int)=>(bif (decide (s124.2<(y.links.length:Int))) then ((idx s124.1 s124.2).bind fun y127=>bif (y127==i) then (some (.inl (s124.1.set (s124.2:Int).toNat (-1),IntKind.i64.wrap (s124.2+1)))) else (some (.inl (s124.1,IntKind.i64.wrap (s124.2+1))))) else (some (.inr (s124.1,s124.2))):Option (((List Int)×Int)⊕((List Int)×Int)))) N (y.links,0)=some (y.links.map (unl1 i),(y.links.length:Int)):=by
          rw [iter_map y.links (unl1 i) (Nat.lt_of_lt_of_le hLB hN)]
          · intro j t2 z ht2 hz _ hj
            simp only [lt_dec hj,cond_true,idx_nat,hz,Option.bind_some,wrap1 (Nat.lt_trans hj hLB),Int.toNat_natCast]
            unfold unl1
            cases z==i
            · simp [set_get hz]
            · rfl
          · intro t2 ht2
            simp only [ge_dec,cond_false]
        simp only [cond_false,Bool.false_eq_true,if_false]
        cases hbx:y.box==i
        · simp only [cond_false,Option.bind_some,idx_nat,hty,Bool.false_eq_true,if_false]
          rw [inner];rfl
        · simp only [cond_true,Option.bind_some,Int.toNat_natCast,idx_nat,List.getElem?_set_self hkt,if_true]
          rw [inner]
          simp only [Option.bind_some,List.set_set]
      · simp only [cond_true,if_true]
        rw [set_get hty]
    · intro t ht
      have hd:decide (((l.set i.toNat (blank (nth l i).gen)).length:Int)<(l.length:Int))=false:=by rw [hlen];simp
      simp only [hd,cond_false]
  · rfl
def treeBack (t:List DRes) (f:Int) (a:DAmt):List DRes×Bool :=
  if treeOk t&&(amtOk a&&amtOk (amtSum (treeSum t) a)) then
    (t.set (if liveAt t f then f else 0).toNat (withBal (nth t (if liveAt t f then f else 0)) (amtSum (nth t (if liveAt t f then f else 0)).bal a)),true)
  else (t,false)
theorem treeBack_len (t:List DRes) (f:Int) (a:DAmt):(treeBack t f a).1.length=t.length:=by
  unfold treeBack
  split <;> simp
theorem i_TreeBack {N:Nat} (hN:BIG≤N) {t:List DRes} (hB:t.length<BIG) (f:Int) (a:DAmt):F_i_TreeBack N t f a=some (treeBack t f a):=by
  unfold F_i_TreeBack treeBack
  simp only [i_copyTree hB,i_TreeOk hN,i_AmtOk,i_TreeSum hN hB,i_sumOf,Option.bind_some,bOr]
  cases ht:treeOk t
  · rfl
  have hl:=treeLen ht
  cases amtOk a
  · rfl
  cases amtOk (amtSum (treeSum t) a)
  · rfl
  simp only [Bool.not_true,Bool.or_self,cond_false,i_isLive N hl,Option.bind_some,Bool.and_self,if_true]
  cases hv:liveAt t f
  · simp only [Bool.not_false,cond_true,Option.bind_some,idx_ok (l:=t) (i:=0) (by omega) (by omega),Bool.false_eq_true,if_false];rfl
  · obtain ⟨f0,f4⟩:=liveAt_rng hv
    simp only [Bool.not_true,cond_false,Option.bind_some,idx_ok (l:=t) f0 (by omega),if_true];rfl
theorem okA_iff {n:Int}:okA n=true ↔ 0≤n∧n≤1000000:=inR_iff
theorem amtOk_iff {a:DAmt}:amtOk a=true ↔ (0≤a.pages∧a.pages≤1000000)∧(0≤a.rent∧a.rent≤1000000)∧(0≤a.cpu∧a.cpu≤1000000):=by
  unfold amtOk;simp only [Bool.and_eq_true,okA_iff]
end Go.Kx
