/- Plain laws: a collector's step; what is collected. No program in sight. -/
import Derived.Test.YtkgkknholfmgiaaGreatLPay
namespace Go.Kx
open Go
set_option linter.unusedVariables false
set_option linter.unusedSimpArgs false
set_option maxRecDepth 10000
def shade (h:DHeap) (k:Int):DHeap :=
  if (h.gc.phase==0)&&(((nth h.arena k).kind != 0)&&!(nth h.arena k).mark) then
    DHeap.mk (h.arena.set k.toNat (marked (nth h.arena k) true)) (DGc.mk h.gc.phase h.gc.pos h.gc.round (if h.gc.grey.contains k then h.gc.grey else h.gc.grey++[k]))
  else h
theorem appB {l:List Int} {k:Int} (h:l.length+1<BIG):app l [k]=some (l++[k]):=by
  unfold app;rw [if_pos (by simpa using h)]
theorem s_l10Shade {N:Nat} (hN:BIG≤N) {h:DHeap} {k:Int} (h0:0≤k) (h1:k<(h.arena.length:Int)) (hg:h.gc.grey.length+1<BIG):F_s_l10Shade N h k=some (shade h k):=by
  have hg':h.gc.grey.length<BIG:=by omega
  unfold F_s_l10Shade shade
  rw [← Bool.cond_eq_ite]
  simp only [idx_ok (l:=h.arena) h0 h1,s_l4Has hN hg',appB hg,Option.bind_some,bne]
  cases h.gc.phase==0
  · rfl
  cases (nth h.arena k).kind==0
  · cases (nth h.arena k).mark
    · cases h.gc.grey.contains k <;> rfl
    · rfl
  · rfl
theorem shade_arena (h:DHeap) (k:Int):(shade h k).arena.length=h.arena.length:=by
  unfold shade;split <;> simp
theorem shade_grey (h:DHeap) (k:Int):(shade h k).gc.grey.length≤h.gc.grey.length+1:=by
  unfold shade
  split
  · simp only
    split
    · exact Nat.le_succ _
    · simp
  · exact Nat.le_succ _
theorem nth_set {l:List DObj} {i j:Int} {o:DObj} (h0:0≤i) (h1:i<(l.length:Int)) (hj:0≤j):nth (l.set i.toNat o) j=if i=j then o else nth l j:=by
  unfold nth
  rw [List.getElem?_set]
  by_cases e:i=j
  · subst e
    rw [if_pos rfl,if_pos (by omega),if_pos rfl];rfl
  · rw [if_neg (by omega),if_neg e]
theorem shade_exp {h:DHeap} {k j:Int} {now:Int} (h0:0≤k) (h1:k<(h.arena.length:Int)) (hj:0≤j):expired (nth (shade h k).arena j) now=expired (nth h.arena j) now:=by
  unfold shade
  split
  · simp only
    rw [nth_set h0 h1 hj]
    split
    · rename_i e;subst e;rfl
    · rfl
  · rfl
def shadeIf (l:List DObj) (now:Int) (h:DHeap) (k:Int):DHeap:=if expired (nth l k) now then h else shade h k
def lastGrey (h:DHeap):Int:=nth h.gc.grey ((h.gc.grey.length:Int) - 1)
def lessGrey (h:DHeap):List Int:=h.gc.grey.take (h.gc.grey.length - 1)
def markStep (h:DHeap) (now:Int):DHeap :=
  if h.gc.grey.length=0 then DHeap.mk h.arena (DGc.mk 1 0 h.gc.round h.gc.grey)
  else if (lastGrey h != 0)&&expired (nth h.arena (lastGrey h)) now then DHeap.mk h.arena (DGc.mk h.gc.phase h.gc.pos h.gc.round (lessGrey h))
  else (edges h.arena (lastGrey h)).foldl (shadeIf h.arena now) (DHeap.mk (h.arena.set (lastGrey h).toNat (marked (nth h.arena (lastGrey h)) true)) (DGc.mk h.gc.phase h.gc.pos h.gc.round (lessGrey h)))
def ht (h:DHeap):List DObj×Int×Int×Int×List Int:=(h.arena,h.gc.phase,h.gc.pos,h.gc.round,h.gc.grey)
theorem shadeLoop {N:Nat} (hN:BIG≤N) {l:List DObj} {now:Int} {e:List Int} (he:∀ y,y ∈ e→0≤y∧y≤9) (hel:e.length≤10) {h:DHeap} (hl:h.arena.length=10) {G:Nat} (hg:h.gc.grey.length≤G) (hG:G+20<BIG)
    (hx:∀ j,0≤j→expired (nth h.arena j) now=expired (nth l j) now)
    {body:Int×List DObj×Int×Int×Int×List Int→Option ((Int×List DObj×Int×Int×Int×List Int)⊕(Int×List DObj×Int×Int×Int×List Int))}
    (hs:∀ (k:Nat) (t:DHeap) (y:Int),e[k]?=some y→k<e.length→t.arena.length=10→t.gc.grey.length+1<BIG→(∀ j,0≤j→expired (nth t.arena j) now=expired (nth l j) now)→0≤y→y≤9→body ((k:Int),ht t)=some (.inl (((k+1:Nat):Int),ht (shadeIf l now t y))))
    (hend:∀ t,body ((e.length:Int),ht t)=some (.inr ((e.length:Int),ht t))) :
    iter body N (0,ht h)=some ((e.length:Int),ht (e.foldl (shadeIf l now) h)):=by
  have hB:e.length<BIG:=by omega
  rw [show ((0:Int),ht h)=(fun (k:Nat) (t:DHeap)=>((k:Int),ht t)) 0 h from rfl,
    iter_fold e (fun (k:Nat) (t:DHeap)=>((k:Int),ht t)) (fun _ t y=>shadeIf l now t y) (fun t=>((e.length:Int),ht t)) (fun k t=>t.arena.length=10∧t.gc.grey.length≤G+k∧∀ j,0≤j→expired (nth t.arena j) now=expired (nth l j) now) ?_ ?_ (Nat.lt_of_lt_of_le hB hN) ⟨hl,hg,hx⟩,foldI_const]
  · intro k t y hy hk ⟨i1,i2,i3⟩
    obtain ⟨y0,y9⟩:=he y (List.mem_of_getElem? hy)
    refine ⟨hs k t y hy hk i1 (by omega) i3 y0 y9,?_⟩
    unfold shadeIf
    split
    · exact ⟨i1,by omega,i3⟩
    · have:=shade_grey t y
      exact ⟨by rw [shade_arena,i1],by omega,fun j hj=>by rw [shade_exp y0 (by omega) hj,i3 j hj]⟩
  · intro t _
    exact hend t
theorem heapOk_grey {h:DHeap} (q:heapOk h=true):∀ y,y ∈ h.gc.grey→0≤y∧y≤9:=by
  unfold heapOk at q
  simp only [Bool.and_eq_true,allI_iff] at q
  intro y hy
  obtain ⟨k,hk⟩:=List.getElem?_of_mem hy
  have:=q.2.2.2 k y hk
  unfold greyP at this
  rw [Bool.and_eq_true,inR_iff] at this
  exact this.1
theorem lastGrey_rng {h:DHeap} (q:heapOk h=true) (hg:h.gc.grey.length ≠ 0):0≤lastGrey h∧lastGrey h≤9:=heapOk_grey q _ (nth_mem (by omega) (by omega))
theorem grey_sub {g:List Int} (hg:g.length ≠ 0) (hB:g.length<BIG):IntKind.i64.wrap ((g.length:Int) - 1)=((g.length - 1:Nat):Int)∧sub g 0 ((g.length - 1:Nat):Int)=some (g.take (g.length - 1)):=by
  have:g.length<16777216:=hB
  exact ⟨by rw [wrap_ok (by omega) (by omega)];omega,sub_take (by omega)⟩
def fresh0 (l:List DObj):List DObj:=l.set 0 (marked (nth l 0) true)
def sweepFree (h:DHeap) (now:Int):Bool:=(h.gc.pos != 0)&&(((nth h.arena h.gc.pos).kind != 0)&&(expired (nth h.arena h.gc.pos) now || !(nth h.arena h.gc.pos).mark))
def swept (h:DHeap) (now:Int):List DObj:=if sweepFree h now then (arenaFree h.arena h.gc.pos).1 else h.arena.set h.gc.pos.toNat (marked (nth h.arena h.gc.pos) false)
def sweepStep (h:DHeap) (now:Int):DHeap×Int :=
  (if h.gc.pos==9 then DHeap.mk (fresh0 (swept h now)) (DGc.mk 0 0 (if 1000000<IntKind.i64.wrap (h.gc.round+1) then 1000000 else IntKind.i64.wrap (h.gc.round+1)) [0])
    else DHeap.mk (swept h now) (DGc.mk h.gc.phase (h.gc.pos+1) h.gc.round h.gc.grey),if sweepFree h now then h.gc.pos else -1)
def gcStep (h:DHeap) (now:Int):DHeap×Int:=if heapOk h then (if h.gc.phase==1 then sweepStep h now else (markStep h now, -1)) else (h, -1)
theorem heapOk_phase {h:DHeap} (q:heapOk h=true):(h.gc.phase=0)∨(h.gc.phase=1∧0≤h.gc.pos∧h.gc.pos≤9):=by
  unfold heapOk phaseOk at q
  simp only [Bool.and_eq_true,Bool.or_eq_true,beq_iff_eq,inR_iff] at q
  rcases q.2.1 with ⟨h1,_⟩ | ⟨h1,h2,_⟩
  · exact .inl h1
  · exact .inr ⟨h1,h2⟩
theorem arenaFree_len (l:List DObj) (i:Int):(arenaFree l i).1.length=l.length:=by
  unfold arenaFree;split <;> simp
theorem swept_len (h:DHeap) (now:Int):(swept h now).length=h.arena.length:=by
  unfold swept
  split
  · exact arenaFree_len _ _
  · simp
theorem pos10 {n:Int} (h0:0≤n) (h9:n≤9):((n+1:Int)==10)=(n==9)∧IntKind.i64.wrap (n+1)=n+1:=by
  rw [wrap_ok (by omega) (by omega)]
  exact ⟨by rw [Bool.eq_iff_iff];simp;omega,rfl⟩
theorem h_eta (t:DHeap):DHeap.mk t.arena (DGc.mk t.gc.phase t.gc.pos t.gc.round t.gc.grey)=t:=rfl
theorem blank_marked {o:DObj} (h:objOk o=true) (hk:(o.kind==0)=true):marked o false=o:=by
  unfold objOk at h
  simp only [hk,cond_true,Bool.and_eq_true,decide_eq_true_eq] at h
  rw [h.2.2];rfl
theorem s_l10Mark {N:Nat} (hN:BIG≤N) {h:DHeap} (q:heapOk h=true) (h1:szL sz_DObj h.arena<BIG) (hw:wA h.arena) (h2:h.gc.grey.length+20<BIG) (now:Int):F_s_l10Mark N h now=some (markStep h now):=by
  have h2':h.gc.grey.length<BIG:=by omega
  have hB:h.gc.grey.length<16777216:=h2'
  have ha:=heapOk_ar q
  unfold F_s_l10Mark markStep
  by_cases hg:h.gc.grey.length=0
  · have:decide (IntKind.i64.wrap ((h.gc.grey.length:Int) - 1)<0)=true:=by rw [hg];decide
    rw [this,if_pos hg];rfl
  · obtain ⟨g1,g2⟩:=grey_sub hg h2'
    obtain ⟨l0,l9⟩:=lastGrey_rng q hg
    obtain ⟨e1,e2⟩:=edges_ok ha (lastGrey h)
    have eg:idx h.gc.grey ((h.gc.grey.length - 1:Nat):Int)=some (lastGrey h):=by
      rw [idx_ok (l:=h.gc.grey) (i:=((h.gc.grey.length - 1:Nat):Int)) (by omega) (by omega)]
      unfold lastGrey
      rw [show ((h.gc.grey.length:Int) - 1)=((h.gc.grey.length - 1:Nat):Int) by omega]
    have hd:decide (((h.gc.grey.length - 1:Nat):Int)<0)=false:=by simp
    have hgt:decide (lastGrey h > 0)=(lastGrey h != 0):=by
      rw [Bool.eq_iff_iff];simp;omega
    rw [g1,hd,if_neg hg]
    simp only [cond_false,eg,g2,(ha.at l0 l9).1,s_Expired,Option.bind_some,hgt]
    rw [show (bif lastGrey h != 0 then some (expired (nth h.arena (lastGrey h)) now) else some false:Option Bool)=some ((lastGrey h != 0)&&expired (nth h.arena (lastGrey h)) now) from bAnd _ _]
    simp only [Option.bind_some]
    cases hc:((lastGrey h != 0)&&expired (nth h.arena (lastGrey h)) now)
    · simp only [cond_false,Bool.false_eq_true,if_false]
      rw [s_Edges hN h1 hw ha l0 l9]
      simp only [Option.bind_some]
      rw [show ((0:Int),h.arena.set (lastGrey h).toNat (DObj.mk (nth h.arena (lastGrey h)).gen (nth h.arena (lastGrey h)).kind (nth h.arena (lastGrey h)).box (nth h.arena (lastGrey h)).res (nth h.arena (lastGrey h)).til (nth h.arena (lastGrey h)).pages (nth h.arena (lastGrey h)).wait (nth h.arena (lastGrey h)).got (nth h.arena (lastGrey h)).ran true (nth h.arena (lastGrey h)).links (nth h.arena (lastGrey h)).data (nth h.arena (lastGrey h)).queue),h.gc.phase,h.gc.pos,h.gc.round,h.gc.grey.take (h.gc.grey.length - 1)) =
        ((0:Int),ht (DHeap.mk (h.arena.set (lastGrey h).toNat (marked (nth h.arena (lastGrey h)) true)) (DGc.mk h.gc.phase h.gc.pos h.gc.round (lessGrey h)))) from rfl,
        shadeLoop hN (l:=h.arena) (now:=now) e1 e2 (h:=DHeap.mk (h.arena.set (lastGrey h).toNat (marked (nth h.arena (lastGrey h)) true)) (DGc.mk h.gc.phase h.gc.pos h.gc.round (lessGrey h))) (by simp [ha.len]) (G:=h.gc.grey.length) (by unfold lessGrey;simp) h2
          (fun j hj=>by
            simp only
            rw [nth_set l0 (by rw [ha.len];omega) hj]
            split
            · rename_i e;rw [← e];rfl
            · rfl)]
      · rfl
      · intro k t y hy hk t1 t2 t3 y0 y9
        simp only [ht,lt_dec hk,cond_true,idx_nat,hy,Option.bind_some,idx_ok (l:=t.arena) y0 (show y<(t.arena.length:Int) by rw [t1];omega),s_Expired,t3 y y0,h_eta,s_l10Shade hN y0 (show y<(t.arena.length:Int) by rw [t1];omega) t2,wrap1 (show k<BIG by omega)]
        unfold shadeIf
        cases expired (nth h.arena y) now <;> rfl
      · intro t
        simp only [ht,ge_dec,cond_false]
    · rfl
theorem s_GcStep {N:Nat} (hN:BIG≤N) {h:DHeap} (h1:szL sz_DObj h.arena<BIG) (hw:wA h.arena) (h2:h.gc.grey.length+20<BIG) (now:Int):F_s_GcStep N h now=some (gcStep h now):=by
  have h2':h.gc.grey.length<BIG:=by omega
  unfold F_s_GcStep gcStep
  simp only [s_l10Copy hN h1 h2',s_HeapOk hN h1 h2' hw,Option.bind_some]
  cases q:heapOk h
  · rfl
  have ha:=heapOk_ar q
  simp only [Bool.not_true,cond_false,if_true]
  rcases heapOk_phase q with hp | ⟨hp,hr⟩
  · rw [hp]
    simp only [beq_self_eq_true,cond_true,s_l10Mark hN q h1 hw h2,Option.bind_some]
    rfl
  · obtain ⟨e1,e2⟩:=pos10 hr.1 hr.2
    have hsl:=swept_len h now
    have e0:idx (swept h now) 0=some (nth (swept h now) 0):=idx_ok (by omega) (by rw [hsl,ha.len];decide)
    have hgt:decide (h.gc.pos > 0)=(h.gc.pos != 0):=by rw [Bool.eq_iff_iff];simp;omega
    rw [show (h.gc.phase==0)=false by rw [hp];rfl,show (h.gc.phase==1)=true by rw [hp];rfl]
    unfold sweepStep
    simp only [cond_false,(ha.at hr.1 hr.2).1,s_Expired,s_ArenaFree hN h1 hw,Option.bind_some,hgt,e1,e2]
    rw [show (bif h.gc.pos != 0 then (bif (nth h.arena h.gc.pos).kind != 0 then (bif !(nth h.arena h.gc.pos).mark then some true else some (expired (nth h.arena h.gc.pos) now)) else some false) else some false:Option Bool)=some (sweepFree h now) by
      unfold sweepFree;rw [bOr,bAnd,bAnd,Bool.or_comm]]
    simp only [Option.bind_some]
    have hsw:(bif sweepFree h now then some (h.gc.pos,(arenaFree h.arena h.gc.pos).1) else bif (nth h.arena h.gc.pos).kind != 0 then some (-1,h.arena.set h.gc.pos.toNat (DObj.mk (nth h.arena h.gc.pos).gen (nth h.arena h.gc.pos).kind (nth h.arena h.gc.pos).box (nth h.arena h.gc.pos).res (nth h.arena h.gc.pos).til (nth h.arena h.gc.pos).pages (nth h.arena h.gc.pos).wait (nth h.arena h.gc.pos).got (nth h.arena h.gc.pos).ran false (nth h.arena h.gc.pos).links (nth h.arena h.gc.pos).data (nth h.arena h.gc.pos).queue)) else some (-1,h.arena):Option (Int×List DObj))=some (if sweepFree h now then h.gc.pos else -1,swept h now):=by
      unfold swept
      cases sweepFree h now
      · cases hk:(nth h.arena h.gc.pos).kind != 0
        · have hk0:((nth h.arena h.gc.pos).kind==0)=true:=by simpa [bne] using hk
          have hid:h.arena.set h.gc.pos.toNat (marked (nth h.arena h.gc.pos) false)=h.arena:=by
            rw [blank_marked (ha.ok _ (ha.at hr.1 hr.2).2) hk0]
            exact set_get (nth_get hr.1 (by rw [ha.len];omega))
          simp [hid]
        · rfl
      · rfl
    rw [hsw]
    simp only [Option.bind_some,e0]
    cases h.gc.pos==9 <;> rfl
theorem sumL_same {α:Type} {f:α→Nat} {z:α}:∀ {l:List α} {k:Nat} {y:α},l[k]?=some y→f z=f y→sumL f (l.set k z)=sumL f l
  | x::l,0,y,h,e=>by simp at h;subst h;simp [sumL,e]
  | x::l,k+1,y,h,e=>by
    simp only [List.set_cons_succ,sumL]
    rw [sumL_same (l:=l) (k:=k) (y:=y) (by simpa using h) e]
theorem szL_same {l:List DObj} {i:Int} {z:DObj} (h0:0≤i) (h1:i<(l.length:Int)) (e:sz_DObj z=sz_DObj (nth l i)):szL sz_DObj (l.set i.toNat z)=szL sz_DObj l:=by
  unfold szL
  rw [sumL_same (nth_get h0 h1) e,List.length_set]
theorem shadeIf_props {l:List DObj} {now:Int}:∀ (e:List Int) (h:DHeap),(∀ y,y ∈ e→0≤y∧y≤9)→h.arena.length=10→wA h.arena →
    szL sz_DObj (e.foldl (shadeIf l now) h).arena=szL sz_DObj h.arena∧wA (e.foldl (shadeIf l now) h).arena∧(e.foldl (shadeIf l now) h).gc.grey.length≤h.gc.grey.length+e.length
  | [],h,_,_,hw=>⟨rfl,hw,Nat.le_refl _⟩
  | y::e,h,he,hl,hw=>by
    obtain ⟨y0,y9⟩:=he y (by simp)
    have hy:y<(h.arena.length:Int):=by rw [hl];omega
    have key:szL sz_DObj (shadeIf l now h y).arena=szL sz_DObj h.arena∧wA (shadeIf l now h y).arena∧(shadeIf l now h y).gc.grey.length≤h.gc.grey.length+1∧(shadeIf l now h y).arena.length=10:=by
      unfold shadeIf
      split
      · exact ⟨rfl,hw,Nat.le_succ _,hl⟩
      · refine ⟨?_,?_,shade_grey h y,by rw [shade_arena,hl]⟩
        · unfold shade
          split
          · exact szL_same y0 hy rfl
          · rfl
        · unfold shade
          split
          · exact wA_set hw (show wOk (marked (nth h.arena y) true) from hw (nth h.arena y) (nth_mem y0 hy))
          · exact hw
    obtain ⟨a1,a2,a3⟩:=shadeIf_props e (shadeIf l now h y) (fun z hz=>he z (by simp [hz])) key.2.2.2 key.2.1
    simp only [List.foldl_cons,List.length_cons]
    exact ⟨a1.trans key.1,a2,by omega⟩
theorem unl_sz (i:Int) (o:DObj):sz_DObj (unl i o)=sz_DObj o:=by
  unfold unl
  split
  · rfl
  · unfold sz_DObj;simp
theorem unl_w {i:Int} {o:DObj} (h:wOk o):wOk (unl i o):=by
  unfold unl
  split
  · exact h
  · exact h
theorem blank_w (g:Int):wOk (blank g):=by show (-9223372036854775808:Int)≤0;decide
theorem free_props {l:List DObj} (hw:wA l) (i:Int):szL sz_DObj (arenaFree l i).1≤szL sz_DObj l∧wA (arenaFree l i).1:=by
  unfold arenaFree
  split
  · refine ⟨?_,fun o ho=>?_⟩
    · show szL sz_DObj ((l.set i.toNat (blank (nth l i).gen)).map (unl i))≤_
      rw [szL_map (unl_sz i)]
      exact szL_set
    · obtain ⟨y,hy,rfl⟩:=List.mem_map.1 ho
      exact unl_w (wA_set hw (blank_w _) y hy)
  · exact ⟨Nat.le_refl _,hw⟩
theorem step_props {h:DHeap} (hw:wA h.arena) (now:Int):szL sz_DObj (gcStep h now).1.arena≤szL sz_DObj h.arena∧wA (gcStep h now).1.arena∧(gcStep h now).1.gc.grey.length≤h.gc.grey.length+10 ∧
    (decide ((gcStep h now).2 ≥ 0)=true→Ar h.arena∧0≤(gcStep h now).2∧(gcStep h now).2≤9):=by
  unfold gcStep
  split
  · rename_i q
    have ha:=heapOk_ar q
    have hl:=ha.len
    split
    · rename_i hp
      have hp:h.gc.phase=1:=by simpa using hp
      have hr:0≤h.gc.pos∧h.gc.pos≤9:=by
        rcases heapOk_phase q with e | e
        · rw [hp] at e;cases e
        · exact e.2
      have hs:szL sz_DObj (swept h now)≤szL sz_DObj h.arena∧wA (swept h now):=by
        unfold swept
        split
        · exact free_props hw _
        · exact ⟨Nat.le_of_eq (szL_same hr.1 (by rw [hl];omega) rfl),wA_set hw (show wOk (marked (nth h.arena h.gc.pos) false) from hw (nth h.arena h.gc.pos) (ha.at hr.1 hr.2).2)⟩
      have hsl:=swept_len h now
      have h0:(0:Int)<((swept h now).length:Int):=by rw [hsl,hl];decide
      refine ⟨?_,?_,?_,fun hd=>⟨ha,?_⟩⟩
      · unfold sweepStep fresh0
        simp only
        split
        · show szL sz_DObj ((swept h now).set (0:Int).toNat _)≤_
          rw [szL_same (z:=marked (nth (swept h now) 0) true) (Int.le_refl 0) h0 rfl];exact hs.1
        · exact hs.1
      · unfold sweepStep fresh0
        simp only
        split
        · exact wA_set hs.2 (show wOk (marked (nth (swept h now) 0) true) from hs.2 (nth (swept h now) 0) (nth_mem (Int.le_refl 0) h0))
        · exact hs.2
      · unfold sweepStep
        simp only
        split
        · simp
        · exact Nat.le_add_right _ _
      · unfold sweepStep at hd ⊢
        simp only at hd ⊢
        split
        · exact hr
        · rename_i hn
          rw [if_neg hn] at hd
          simp at hd
    · refine ⟨?_,?_,?_,fun hd=>by simp at hd⟩
      all_goals
        unfold markStep
        simp only
        split
        · first | exact Nat.le_refl _ | exact hw | exact Nat.le_add_right _ _
        · rename_i hg
          split
          · first | exact Nat.le_refl _ | exact hw | (unfold lessGrey;simp;omega)
          · obtain ⟨l0,l9⟩:=lastGrey_rng q hg
            obtain ⟨e1,e2⟩:=edges_ok ha (lastGrey h)
            obtain ⟨a1,a2,a3⟩:=shadeIf_props (l:=h.arena) (now:=now) (edges h.arena (lastGrey h)) (DHeap.mk (h.arena.set (lastGrey h).toNat (marked (nth h.arena (lastGrey h)) true)) (DGc.mk h.gc.phase h.gc.pos h.gc.round (lessGrey h))) e1 (by simp [hl]) (wA_set hw (show wOk (marked (nth h.arena (lastGrey h)) true) from hw (nth h.arena (lastGrey h)) (ha.at l0 l9).2))
            first
              | exact Nat.le_of_eq (a1.trans (szL_same l0 (by rw [hl];omega) rfl))
              | exact a2
              | (refine Nat.le_trans a3 ?_
                 unfold lessGrey
                 simp
                 omega)
  · exact ⟨Nat.le_refl _,hw,Nat.le_add_right _ _,fun hd=>by simp at hd⟩
end Go.Kx
