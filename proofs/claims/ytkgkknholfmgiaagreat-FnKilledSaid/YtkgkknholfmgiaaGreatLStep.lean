/- Plain laws: what is freed, shaded, swept; a collector's step. No program in sight. -/
import Derived.Test.YtkgkknholfmgiaaGreatLPay
namespace Go.Kx
open Go
set_option linter.unusedVariables false
set_option linter.unusedSimpArgs false
set_option maxRecDepth 10000
def unl1 (i:Int) (x:Int):Int:=if x==i then -1 else x
def unl (i:Int) (o:DObj):DObj:=if o.kind==0 then o else DObj.mk o.gen o.kind (if o.box==i then -1 else o.box) o.res o.til o.pages o.wait o.got o.ran o.mark (o.links.map (unl1 i)) o.data o.queue
def arenaFree (l:List DObj) (i:Int):List DObj×Bool:=if arenaOk l&&(inR i 1 9&&((nth l i).kind != 0)) then ((l.set i.toNat (blank (nth l i).gen)).map (unl i),true) else (l,false)
theorem freed_ok {l:List DObj} (h:Ar l) {i g:Int} {k:Nat} {y:DObj} (hy:(l.set i.toNat (blank g))[k]?=some y) (hk:(y.kind==0)=false):objOk y=true:=by
  rcases List.mem_or_eq_of_mem_set (List.mem_of_getElem? hy) with q | q
  · exact h.ok y q
  · rw [q] at hk;simp [blank] at hk
theorem objOk_two {o:DObj} (h:objOk o=true) (hk:(o.kind==0)=false):o.links.length=2:=by
  unfold objOk at h
  simp only [hk,cond_false,Bool.and_eq_true] at h
  obtain ⟨_,_,_,_,_,_,hl,_⟩:=h
  unfold listsOk at hl
  simp only [Bool.and_eq_true,beq_iff_eq] at hl
  omega
theorem s_ArenaFree {N:Nat} (hN:BIG≤N) {l:List DObj} (hb:szL sz_DObj l<BIG) (hw:wA l) (i:Int):F_s_ArenaFree N l i=some (arenaFree l i):=by
  unfold F_s_ArenaFree arenaFree
  simp only [s_l8Copy hN hb,s_ArenaOk hN hb hw,s_in,Option.bind_some]
  cases ha:arenaOk l
  · rfl
  have h:=arenaOk_iff.1 ha
  cases hi:inR i 1 9
  · rfl
  have hr:=inR_iff.1 hi
  simp only [Bool.not_true,cond_false,(h.at (i:=i) (by omega) hr.2).1,Option.bind_some,bne,Bool.true_and]
  cases hk:(nth l i).kind==0
  · simp only [cond_false,Bool.not_false,if_true]
    rw [show DObj.mk (nth l i).gen 0 0 0 0 0 0 0 0 false [] [] []=blank (nth l i).gen from rfl]
    have hlen:(l.set i.toNat (blank (nth l i).gen)).length=l.length:=List.length_set
    rw [iter_map (l.set i.toNat (blank (nth l i).gen)) (unl i) (by rw [hlen];exact Nat.lt_of_lt_of_le h.lenB hN)]
    · rfl
    · intro k t y ht hty hy hkl
      have hk10:k<10:=by rw [hlen,h.len] at hkl;exact hkl
      have hkt:k<t.length:=lt_of_some hty
      simp only [lt_dec hkt,cond_true,idx_nat,hty,Option.bind_some,wrap1 (show k<BIG from Nat.lt_trans hk10 (by decide))]
      unfold unl
      cases hyk:y.kind==0
      · have ho:=freed_ok h hy hyk
        have h2:=objOk_two ho hyk
        simp only [cond_false,Bool.false_eq_true,if_false]
        have inner:∀ (t2:List DObj) (z:DObj),t2.length=t.length→t2[k]?=some z→z.links.length=2→iter (fun (s90:(List DObj)×Int)=>(bif (decide (s90.2<2)) then ((idx s90.1 (k:Int)).bind fun y93=>(idx y93.links s90.2).bind fun y115=>bif (y115==i) then (some (.inl ((s90.1.set (k:Int).toNat (DObj.mk y93.gen y93.kind y93.box y93.res y93.til y93.pages y93.wait y93.got y93.ran y93.mark (y93.links.set (s90.2:Int).toNat (-1)) y93.data y93.queue)),IntKind.i64.wrap (s90.2+1)))) else (some (.inl (s90.1,IntKind.i64.wrap (s90.2+1))))) else (some (.inr (s90.1,s90.2))):Option (((List DObj)×Int)⊕((List DObj)×Int)))) N (t2,0) =
            some (t2.set k (DObj.mk z.gen z.kind z.box z.res z.til z.pages z.wait z.got z.ran z.mark (z.links.map (unl1 i)) z.data z.queue),2):=by
          intro t2 z hl2 hz hz2
          have hk2:k<t2.length:=by omega
          obtain ⟨a,b,hab⟩:∃ a b,z.links=[a,b]:=by
            match hq:z.links with
            | []=>simp [hq] at hz2
            | [a]=>simp [hq] at hz2
            | [a,b]=>exact ⟨a,b,rfl⟩
            | a::b::c::r=>simp [hq] at hz2
          obtain ⟨M,rfl⟩:∃ M,N=M+3:=⟨N - 3,by have:16777216≤N:=hN;omega⟩
          have hset:∀ u:DObj,(t2.set k u)[k]?=some u:=fun u=>List.getElem?_set_self hk2
          have hid:t2.set k (DObj.mk z.gen z.kind z.box z.res z.til z.pages z.wait z.got z.ran z.mark [a,b] z.data z.queue)=t2:=by rw [← hab];exact set_get hz
          have w1:IntKind.i64.wrap (0+1)=1:=by decide
          have w2:IntKind.i64.wrap (1+1)=2:=by decide
          unfold iter
          simp only [show decide ((0:Int)<2)=true from rfl,cond_true,idx_nat,hz,Option.bind_some,hab,show idx [a,b] 0=some a from rfl,w1,Int.toNat_natCast]
          cases hA:a==i
          · simp only [cond_false,Option.bind_some]
            unfold iter
            simp only [show decide ((1:Int)<2)=true from rfl,cond_true,idx_nat,hz,Option.bind_some,hab,show idx [a,b] 1=some b from rfl,w2,Int.toNat_natCast]
            cases hB:b==i
            · simp only [cond_false,Option.bind_some]
              unfold iter
              simp [unl1,hA,hB,hid]
            · simp only [cond_true,Option.bind_some]
              unfold iter
              simp [unl1,hA,hB]
          · simp only [cond_true,Option.bind_some]
            unfold iter
            simp only [show decide ((1:Int)<2)=true from rfl,cond_true,idx_nat,hset,Option.bind_some,w2,Int.toNat_natCast]
            rw [show idx ([a,b].set (0:Int).toNat (-1)) 1=some b from rfl]
            simp only [Option.bind_some]
            cases hB:b==i
            · simp only [cond_false,Option.bind_some]
              unfold iter
              simp [unl1,hA,hB]
            · simp only [cond_true,Option.bind_some,List.set_set]
              unfold iter
              simp [unl1,hA,hB]
        simp only [idx_nat,Int.toNat_natCast] at inner ⊢
        cases hbx:y.box==i
        · simp only [cond_false,Option.bind_some,Bool.false_eq_true,if_false]
          rw [inner t y rfl hty h2];rfl
        · simp only [cond_true,Option.bind_some,Int.toNat_natCast,if_true]
          have e:=inner (t.set k (DObj.mk y.gen y.kind (-1) y.res y.til y.pages y.wait y.got y.ran y.mark y.links y.data y.queue)) (DObj.mk y.gen y.kind (-1) y.res y.til y.pages y.wait y.got y.ran y.mark y.links y.data y.queue) List.length_set (List.getElem?_set_self hkt) h2
          rw [e]
          simp only [Option.bind_some,List.set_set]
      · simp only [cond_true,if_true]
        rw [set_get hty]
    · intro t ht
      rw [← ht]
      simp only [ge_dec,cond_false]
  · rfl
def treeBack (t:List DRes) (f:Int) (a:DAmt):List DRes×Bool :=
  if treeOk t&&(amtOk a&&amtOk (amtSum (treeSum t) a)) then
    (t.set (if liveAt t f then f else 0).toNat (withBal (nth t (if liveAt t f then f else 0)) (amtSum (nth t (if liveAt t f then f else 0)).bal a)),true)
  else (t,false)
theorem treeBack_len (t:List DRes) (f:Int) (a:DAmt):(treeBack t f a).1.length=t.length:=by
  unfold treeBack
  split <;> simp
theorem okA_iff {n:Int}:okA n=true ↔ 0≤n∧n≤1000000:=inR_iff
theorem amtOk_iff {a:DAmt}:amtOk a=true ↔ (0≤a.pages∧a.pages≤1000000)∧(0≤a.rent∧a.rent≤1000000)∧(0≤a.cpu∧a.cpu≤1000000):=by
  unfold amtOk;simp only [Bool.and_eq_true,okA_iff]
theorem sumLive_ge:∀ (t:List DRes) (s:DAmt) (B:Int),(∀ r,r ∈ t→amtOk r.bal=true)→0≤B→B+1000000 * (t.length:Int)≤1000000000→(0≤s.pages∧s.pages≤B)→(0≤s.rent∧s.rent≤B)→(0≤s.cpu∧s.cpu≤B) →
    (s.pages≤(sumLive s t).pages∧s.rent≤(sumLive s t).rent∧s.cpu≤(sumLive s t).cpu) ∧
      ∀ r,r ∈ t→r.live=true→r.bal.pages≤(sumLive s t).pages∧r.bal.rent≤(sumLive s t).rent∧r.bal.cpu≤(sumLive s t).cpu
  | [],s,B,_,_,_,_,_,_=>⟨⟨Int.le_refl _,Int.le_refl _,Int.le_refl _⟩,fun r hr=>by simp at hr⟩
  | r::t,s,B,h,hB,hL,h1,h2,h3=>by
    have hr:=amtOk_iff.1 (h r (by simp))
    simp only [List.length_cons] at hL
    have e:sumLive s (r::t)=sumLive (if r.live then amtSum s r.bal else s) t:=rfl
    rw [e]
    cases hv:r.live
    · obtain ⟨q1,q2⟩:=sumLive_ge t s B (fun x hx=>h x (by simp [hx])) hB (by omega) h1 h2 h3
      refine ⟨q1,fun x hx hl=>?_⟩
      rcases List.mem_cons.1 hx with rfl | hx
      · rw [hv] at hl;cases hl
      · exact q2 x hx hl
    · simp only [if_true]
      have w1:(amtSum s r.bal).pages=s.pages+r.bal.pages:=wrap_ok (by omega) (by omega)
      have w2:(amtSum s r.bal).rent=s.rent+r.bal.rent:=wrap_ok (by omega) (by omega)
      have w3:(amtSum s r.bal).cpu=s.cpu+r.bal.cpu:=wrap_ok (by omega) (by omega)
      obtain ⟨⟨a1,a2,a3⟩,q2⟩:=sumLive_ge t (amtSum s r.bal) (B+1000000) (fun x hx=>h x (by simp [hx])) (by omega) (by omega) (by omega) (by omega) (by omega)
      refine ⟨⟨by omega,by omega,by omega⟩,fun x hx hl=>?_⟩
      rcases List.mem_cons.1 hx with rfl | hx
      · exact ⟨by omega,by omega,by omega⟩
      · exact q2 x hx hl
theorem back_fits {t:List DRes} (h:Tr t) {a:DAmt} (ha:amtOk a=true) (hs:amtOk (amtSum (sumLive ⟨0,0,0⟩ t) a)=true) {i:Int} (hi:0≤i∧i≤4) (hv:(nth t i).live=true):amtAdd (nth t i).bal a=(amtSum (nth t i).bal a,true):=by
  have hl:=h.len
  have hm:nth t i ∈ t:=nth_mem hi.1 (by omega)
  obtain ⟨_,q⟩:=sumLive_ge t ⟨0,0,0⟩ 0 h.bal (by omega) (by omega) ⟨by decide,by decide⟩ ⟨by decide,by decide⟩ ⟨by decide,by decide⟩
  obtain ⟨q1,q2,q3⟩:=q _ hm hv
  have hb:=amtOk_iff.1 (h.bal _ hm)
  have ha':=amtOk_iff.1 ha
  have hS:=amtOk_iff.1 h.sum
  have w1:(amtSum (sumLive ⟨0,0,0⟩ t) a).pages=(sumLive ⟨0,0,0⟩ t).pages+a.pages:=wrap_ok (by omega) (by omega)
  have w2:(amtSum (sumLive ⟨0,0,0⟩ t) a).rent=(sumLive ⟨0,0,0⟩ t).rent+a.rent:=wrap_ok (by omega) (by omega)
  have w3:(amtSum (sumLive ⟨0,0,0⟩ t) a).cpu=(sumLive ⟨0,0,0⟩ t).cpu+a.cpu:=wrap_ok (by omega) (by omega)
  have hs':=amtOk_iff.1 hs
  have v1:(amtSum (nth t i).bal a).pages=(nth t i).bal.pages+a.pages:=wrap_ok (by omega) (by omega)
  have v2:(amtSum (nth t i).bal a).rent=(nth t i).bal.rent+a.rent:=wrap_ok (by omega) (by omega)
  have v3:(amtSum (nth t i).bal a).cpu=(nth t i).bal.cpu+a.cpu:=wrap_ok (by omega) (by omega)
  have:amtOk (amtSum (nth t i).bal a)=true:=amtOk_iff.2 ⟨by omega,by omega,by omega⟩
  unfold amtAdd
  rw [h.bal _ hm,ha,this];rfl
theorem s_TreeBack {N:Nat} (hN:BIG≤N) {t:List DRes} (hB:t.length<BIG) (f:Int) (a:DAmt):F_s_TreeBack N t f a=some (treeBack t f a):=by
  unfold F_s_TreeBack treeBack
  simp only [s_l6Copy hB,s_TreeOk hN,s_l6Sum hN hB,s_AmtAdd,s_l6Live hN,Option.bind_some]
  cases ht:treeOk t
  · rfl
  have hT:=treeOk_iff.1 ht
  have hl:=hT.len
  have e:(amtAdd (sumLive ⟨0,0,0⟩ t) a).2=(amtOk a&&amtOk (amtSum (treeSum t) a)):=by
    unfold amtAdd treeSum
    rw [hT.sum,ht]
    simp only [if_true,Bool.true_and]
    cases amtOk a&&amtOk (amtSum (sumLive ⟨0,0,0⟩ t) a) <;> rfl
  rw [e]
  simp only [Bool.not_true,cond_false,Bool.true_and]
  cases hc:(amtOk a&&amtOk (amtSum (treeSum t) a))
  · rfl
  rw [Bool.and_eq_true] at hc
  have hs:amtOk (amtSum (sumLive ⟨0,0,0⟩ t) a)=true:=by
    have:=hc.2
    unfold treeSum at this
    rwa [ht,if_pos rfl] at this
  simp only [Bool.not_true,cond_false,if_true]
  cases hv:liveAt t f
  · simp only [Bool.not_false,cond_true,Option.bind_some,idx_ok (l:=t) (i:=0) (by omega) (by omega),back_fits hT hc.1 hs (i:=0) ⟨by omega,by omega⟩ hT.live0,Bool.false_eq_true,if_false];rfl
  · obtain ⟨f0,f4⟩:=liveAt_rng hv
    have hlv:(nth t f).live=true:=by unfold liveAt at hv;rw [Bool.and_eq_true] at hv;exact hv.2
    simp only [Bool.not_true,cond_false,Option.bind_some,idx_ok (l:=t) f0 (by omega),back_fits hT hc.1 hs (i:=f) ⟨f0,f4⟩ hlv,if_true];rfl
end Go.Kx
