/- Plain laws: a collector's step; what is collected. No program in sight. -/
import Derived.Test.YtikeaiogpfjdnaaGreatLSum
namespace Go.Kx
open Go
set_option linter.unusedVariables false
set_option linter.unusedSimpArgs false
set_option maxRecDepth 10000
def shade (h:DHeap) (k:Int):DHeap :=
  if (h.gc.phase==0)&&(((nth h.arena k).kind != 0)&&!(nth h.arena k).mark) then
    DHeap.mk (h.arena.set k.toNat (marked (nth h.arena k) true)) (DGc.mk h.gc.phase h.gc.pos h.gc.round (if h.gc.grey.contains k then h.gc.grey else h.gc.grey++[k]))
  else h
theorem appB {l:List Int} {k:Int} (h:l.length+1<BIG):app l [k]=some (l++[k]):=by
  unfold app;rw [if_pos (by simpa using h)]
theorem s_l10Shade {N:Nat} (hN:BIG≤N) {h:DHeap} {k:Int} (h0:0≤k) (h1:k<(h.arena.length:Int)) (hg:h.gc.grey.length+1<BIG):F_s_l10Shade N h k=some (shade h k):=by
  have hg':h.gc.grey.length<BIG:=by omega
  unfold F_s_l10Shade shade
  rw [← Bool.cond_eq_ite]
  simp only [idx_ok (l:=h.arena) h0 h1,s_l4Has hN hg',appB hg,Option.bind_some,bne]
  cases h.gc.phase==0
  · rfl
  cases (nth h.arena k).kind==0
  · cases (nth h.arena k).mark
    · cases h.gc.grey.contains k <;> rfl
    · rfl
  · rfl
theorem shade_arena (h:DHeap) (k:Int):(shade h k).arena.length=h.arena.length:=by
  unfold shade;split <;> simp
theorem shade_grey (h:DHeap) (k:Int):(shade h k).gc.grey.length≤h.gc.grey.length+1:=by
  unfold shade
  split
  · simp only
    split
    · exact Nat.le_succ _
    · simp
  · exact Nat.le_succ _
theorem nth_set {l:List DObj} {i j:Int} {o:DObj} (h0:0≤i) (h1:i<(l.length:Int)) (hj:0≤j):nth (l.set i.toNat o) j=if i=j then o else nth l j:=by
  unfold nth
  rw [List.getElem?_set]
  by_cases e:i=j
  · subst e
    rw [if_pos rfl,if_pos (by omega),if_pos rfl];rfl
  · rw [if_neg (by omega),if_neg e]
theorem shade_exp {h:DHeap} {k j:Int} {now:Int} (h0:0≤k) (h1:k<(h.arena.length:Int)) (hj:0≤j):expired (nth (shade h k).arena j) now=expired (nth h.arena j) now:=by
  unfold shade
  split
  · simp only
    rw [nth_set h0 h1 hj]
    split
    · rename_i e;subst e;rfl
    · rfl
  · rfl
def shadeIf (l:List DObj) (now:Int) (h:DHeap) (k:Int):DHeap:=if expired (nth l k) now then h else shade h k
def lastGrey (h:DHeap):Int:=nth h.gc.grey ((h.gc.grey.length:Int) - 1)
def lessGrey (h:DHeap):List Int:=h.gc.grey.take (h.gc.grey.length - 1)
def markStep (h:DHeap) (now:Int):DHeap :=
  if h.gc.grey.length=0 then DHeap.mk h.arena (DGc.mk 1 0 h.gc.round h.gc.grey)
  else if (lastGrey h != 0)&&expired (nth h.arena (lastGrey h)) now then DHeap.mk h.arena (DGc.mk h.gc.phase h.gc.pos h.gc.round (lessGrey h))
  else (edges h.arena (lastGrey h)).foldl (shadeIf h.arena now) (DHeap.mk (h.arena.set (lastGrey h).toNat (marked (nth h.arena (lastGrey h)) true)) (DGc.mk h.gc.phase h.gc.pos h.gc.round (lessGrey h)))
def ht (h:DHeap):List DObj×Int×Int×Int×List Int:=(h.arena,h.gc.phase,h.gc.pos,h.gc.round,h.gc.grey)
theorem shadeLoop {N:Nat} (hN:BIG≤N) {l:List DObj} {now:Int} {e:List Int} (he:∀ y,y ∈ e→0≤y∧y≤9) (hel:e.length≤10) {h:DHeap} (hl:h.arena.length=10) {G:Nat} (hg:h.gc.grey.length≤G) (hG:G+20<BIG)
    (hx:∀ j,0≤j→expired (nth h.arena j) now=expired (nth l j) now)
    {body:Int×List DObj×Int×Int×Int×List Int→Option ((Int×List DObj×Int×Int×Int×List Int)⊕(Int×List DObj×Int×Int×Int×List Int))}
    (hs:∀ (k:Nat) (t:DHeap) (y:Int),e[k]?=some y→k<e.length→t.arena.length=10→t.gc.grey.length+1<BIG→(∀ j,0≤j→expired (nth t.arena j) now=expired (nth l j) now)→0≤y→y≤9→body ((k:Int),ht t)=some (.inl (((k+1:Nat):Int),ht (shadeIf l now t y))))
    (hend:∀ t,body ((e.length:Int),ht t)=some (.inr ((e.length:Int),ht t))) :
    iter body N (0,ht h)=some ((e.length:Int),ht (e.foldl (shadeIf l now) h)):=by
  have hB:e.length<BIG:=by omega
  rw [show ((0:Int),ht h)=(fun (k:Nat) (t:DHeap)=>((k:Int),ht t)) 0 h from rfl,
    iter_fold e (fun (k:Nat) (t:DHeap)=>((k:Int),ht t)) (fun _ t y=>shadeIf l now t y) (fun t=>((e.length:Int),ht t)) (fun k t=>t.arena.length=10∧t.gc.grey.length≤G+k∧∀ j,0≤j→expired (nth t.arena j) now=expired (nth l j) now) ?_ ?_ (Nat.lt_of_lt_of_le hB hN) ⟨hl,hg,hx⟩,foldI_const]
  · intro k t y hy hk ⟨i1,i2,i3⟩
    obtain ⟨y0,y9⟩:=he y (List.mem_of_getElem? hy)
    refine ⟨hs k t y hy hk i1 (by omega) i3 y0 y9,?_⟩
    unfold shadeIf
    split
    · exact ⟨i1,by omega,i3⟩
    · have:=shade_grey t y
      exact ⟨by rw [shade_arena,i1],by omega,fun j hj=>by rw [shade_exp y0 (by omega) hj,i3 j hj]⟩
  · intro t _
    exact hend t
theorem heapOk_grey {h:DHeap} (q:heapOk h=true):∀ y,y ∈ h.gc.grey→0≤y∧y≤9:=by
  unfold heapOk at q
  simp only [Bool.and_eq_true,allI_iff] at q
  intro y hy
  obtain ⟨k,hk⟩:=List.getElem?_of_mem hy
  have:=q.2.2.2 k y hk
  unfold greyP at this
  rw [Bool.and_eq_true,inR_iff] at this
  exact this.1
theorem lastGrey_rng {h:DHeap} (q:heapOk h=true) (hg:h.gc.grey.length ≠ 0):0≤lastGrey h∧lastGrey h≤9:=heapOk_grey q _ (nth_mem (by omega) (by omega))
theorem grey_sub {g:List Int} (hg:g.length ≠ 0) (hB:g.length<BIG):IntKind.i64.wrap ((g.length:Int) - 1)=((g.length - 1:Nat):Int)∧sub g 0 ((g.length - 1:Nat):Int)=some (g.take (g.length - 1)):=by
  have:g.length<16777216:=hB
  exact ⟨by rw [wrap_ok (by omega) (by omega)];omega,sub_take (by omega)⟩
def fresh0 (l:List DObj):List DObj:=l.set 0 (marked (nth l 0) true)
def sweepFree (h:DHeap) (now:Int):Bool:=(h.gc.pos != 0)&&(((nth h.arena h.gc.pos).kind != 0)&&(expired (nth h.arena h.gc.pos) now || !(nth h.arena h.gc.pos).mark))
def swept (h:DHeap) (now:Int):List DObj:=if sweepFree h now then (arenaFree h.arena h.gc.pos).1 else h.arena.set h.gc.pos.toNat (marked (nth h.arena h.gc.pos) false)
def sweepStep (h:DHeap) (now:Int):DHeap×Int :=
  (if h.gc.pos==9 then DHeap.mk (fresh0 (swept h now)) (DGc.mk 0 0 (if 1000000<IntKind.i64.wrap (h.gc.round+1) then 1000000 else IntKind.i64.wrap (h.gc.round+1)) [0])
    else DHeap.mk (swept h now) (DGc.mk h.gc.phase (h.gc.pos+1) h.gc.round h.gc.grey),if sweepFree h now then h.gc.pos else -1)
def gcStep (h:DHeap) (now:Int):DHeap×Int:=if heapOk h then (if h.gc.phase==1 then sweepStep h now else (markStep h now, -1)) else (h, -1)
theorem heapOk_phase {h:DHeap} (q:heapOk h=true):(h.gc.phase=0)∨(h.gc.phase=1∧0≤h.gc.pos∧h.gc.pos≤9):=by
  unfold heapOk phaseOk at q
  simp only [Bool.and_eq_true,Bool.or_eq_true,beq_iff_eq,inR_iff] at q
  rcases q.2.1 with ⟨h1,_⟩ | ⟨h1,h2,_⟩
  · exact .inl h1
  · exact .inr ⟨h1,h2⟩
theorem arenaFree_len (l:List DObj) (i:Int):(arenaFree l i).1.length=l.length:=by
  unfold arenaFree;split <;> simp
theorem swept_len (h:DHeap) (now:Int):(swept h now).length=h.arena.length:=by
  unfold swept
  split
  · exact arenaFree_len _ _
  · simp
theorem pos10 {n:Int} (h0:0≤n) (h9:n≤9):((n+1:Int)==10)=(n==9)∧IntKind.i64.wrap (n+1)=n+1:=by
  rw [wrap_ok (by omega) (by omega)]
  exact ⟨by rw [Bool.eq_iff_iff];simp;omega,rfl⟩
theorem h_eta (t:DHeap):DHeap.mk t.arena (DGc.mk t.gc.phase t.gc.pos t.gc.round t.gc.grey)=t:=rfl
theorem blank_marked {o:DObj} (h:objOk o=true) (hk:(o.kind==0)=true):marked o false=o:=by
  unfold objOk at h
  simp only [hk,cond_true,Bool.and_eq_true,decide_eq_true_eq] at h
  rw [h.2.2];rfl
theorem s_l10Mark {N:Nat} (hN:BIG≤N) {h:DHeap} (q:heapOk h=true) (h1:szL sz_DObj h.arena<BIG) (hw:wA h.arena) (h2:h.gc.grey.length+20<BIG) (now:Int):F_s_l10Mark N h now=some (markStep h now):=by
  have h2':h.gc.grey.length<BIG:=by omega
  have hB:h.gc.grey.length<16777216:=h2'
  have ha:=heapOk_ar q
  unfold F_s_l10Mark markStep
  by_cases hg:h.gc.grey.length=0
  · have:decide (IntKind.i64.wrap ((h.gc.grey.length:Int) - 1)<0)=true:=by rw [hg];decide
    rw [this,if_pos hg];rfl
  · obtain ⟨g1,g2⟩:=grey_sub hg h2'
    obtain ⟨l0,l9⟩:=lastGrey_rng q hg
    obtain ⟨e1,e2⟩:=edges_ok ha (lastGrey h)
    have eg:idx h.gc.grey ((h.gc.grey.length - 1:Nat):Int)=some (lastGrey h):=by
      rw [idx_ok (l:=h.gc.grey) (i:=((h.gc.grey.length - 1:Nat):Int)) (by omega) (by omega)]
      unfold lastGrey
      rw [show ((h.gc.grey.length:Int) - 1)=((h.gc.grey.length - 1:Nat):Int) by omega]
    have hd:decide (((h.gc.grey.length - 1:Nat):Int)<0)=false:=by simp
    have hgt:decide (lastGrey h > 0)=(lastGrey h != 0):=by
      rw [Bool.eq_iff_iff];simp;omega
    rw [g1,hd,if_neg hg]
    simp only [cond_false,eg,g2,(ha.at l0 l9).1,s_Expired,Option.bind_some,hgt]
    rw [show (bif lastGrey h != 0 then some (expired (nth h.arena (lastGrey h)) now) else some false:Option Bool)=some ((lastGrey h != 0)&&expired (nth h.arena (lastGrey h)) now) from bAnd _ _]
    simp only [Option.bind_some]
    cases hc:((lastGrey h != 0)&&expired (nth h.arena (lastGrey h)) now)
    · simp only [cond_false,Bool.false_eq_true,if_false]
      rw [s_Edges hN h1 hw ha l0 l9]
      simp only [Option.bind_some]
      rw [show ((0:Int),h.arena.set (lastGrey h).toNat (DObj.mk (nth h.arena (lastGrey h)).gen (nth h.arena (lastGrey h)).kind (nth h.arena (lastGrey h)).box (nth h.arena (lastGrey h)).res (nth h.arena (lastGrey h)).til (nth h.arena (lastGrey h)).pages (nth h.arena (lastGrey h)).wait (nth h.arena (lastGrey h)).got (nth h.arena (lastGrey h)).ran true (nth h.arena (lastGrey h)).links (nth h.arena (lastGrey h)).data (nth h.arena (lastGrey h)).queue),h.gc.phase,h.gc.pos,h.gc.round,h.gc.grey.take (h.gc.grey.length - 1)) =
        ((0:Int),ht (DHeap.mk (h.arena.set (lastGrey h).toNat (marked (nth h.arena (lastGrey h)) true)) (DGc.mk h.gc.phase h.gc.pos h.gc.round (lessGrey h)))) from rfl,
        shadeLoop hN (l:=h.arena) (now:=now) e1 e2 (h:=DHeap.mk (h.arena.set (lastGrey h).toNat (marked (nth h.arena (lastGrey h)) true)) (DGc.mk h.gc.phase h.gc.pos h.gc.round (lessGrey h))) (by simp [ha.len]) (G:=h.gc.grey.length) (by unfold lessGrey;simp) h2
          (fun j hj=>by
            simp only
            rw [nth_set l0 (by rw [ha.len];omega) hj]
            split
            · rename_i e;rw [← e];rfl
            · rfl)]
      · rfl
      · intro k t y hy hk t1 t2 t3 y0 y9
        simp only [ht,lt_dec hk,cond_true,idx_nat,hy,Option.bind_some,idx_ok (l:=t.arena) y0 (show y<(t.arena.length:Int) by rw [t1];omega),s_Expired,t3 y y0,h_eta,s_l10Shade hN y0 (show y<(t.arena.length:Int) by rw [t1];omega) t2,wrap1 (show k<BIG by omega)]
        unfold shadeIf
        cases expired (nth h.arena y) now <;> rfl
      · intro t
        simp only [ht,ge_dec,cond_false]
    · rfl
theorem s_GcStep {N:Nat} (hN:BIG≤N) {h:DHeap} (h1:szL sz_DObj h.arena<BIG) (hw:wA h.arena) (h2:h.gc.grey.length+20<BIG) (now:Int):F_s_GcStep N h now=some (gcStep h now):=by
  have h2':h.gc.grey.length<BIG:=by omega
  unfold F_s_GcStep gcStep
  simp only [s_l10Copy hN h1 h2',s_HeapOk hN h1 h2' hw,Option.bind_some]
  cases q:heapOk h
  · rfl
  have ha:=heapOk_ar q
  simp only [Bool.not_true,cond_false,if_true]
  rcases heapOk_phase q with hp | ⟨hp,hr⟩
  · rw [hp]
    simp only [beq_self_eq_true,cond_true,s_l10Mark hN q h1 hw h2,Option.bind_some]
    rfl
  · obtain ⟨e1,e2⟩:=pos10 hr.1 hr.2
    have hsl:=swept_len h now
    have e0:idx (swept h now) 0=some (nth (swept h now) 0):=idx_ok (by omega) (by rw [hsl,ha.len];decide)
    have hgt:decide (h.gc.pos > 0)=(h.gc.pos != 0):=by rw [Bool.eq_iff_iff];simp;omega
    rw [show (h.gc.phase==0)=false by rw [hp];rfl,show (h.gc.phase==1)=true by rw [hp];rfl]
    unfold sweepStep
    simp only [cond_false,(ha.at hr.1 hr.2).1,s_Expired,s_ArenaFree hN h1 hw,Option.bind_some,hgt,e1,e2]
    rw [show (bif h.gc.pos != 0 then (bif (nth h.arena h.gc.pos).kind != 0 then (bif !(nth h.arena h.gc.pos).mark then some true else some (expired (nth h.arena h.gc.pos) now)) else some false) else some false:Option Bool)=some (sweepFree h now) by
      unfold sweepFree;rw [bOr,bAnd,bAnd,Bool.or_comm]]
    simp only [Option.bind_some]
    have hsw:(bif sweepFree h now then some (h.gc.pos,(arenaFree h.arena h.gc.pos).1) else bif (nth h.arena h.gc.pos).kind != 0 then some (-1,h.arena.set h.gc.pos.toNat (DObj.mk (nth h.arena h.gc.pos).gen (nth h.arena h.gc.pos).kind (nth h.arena h.gc.pos).box (nth h.arena h.gc.pos).res (nth h.arena h.gc.pos).til (nth h.arena h.gc.pos).pages (nth h.arena h.gc.pos).wait (nth h.arena h.gc.pos).got (nth h.arena h.gc.pos).ran false (nth h.arena h.gc.pos).links (nth h.arena h.gc.pos).data (nth h.arena h.gc.pos).queue)) else some (-1,h.arena):Option (Int×List DObj))=some (if sweepFree h now then h.gc.pos else -1,swept h now):=by
      unfold swept
      cases sweepFree h now
      · cases hk:(nth h.arena h.gc.pos).kind != 0
        · have hk0:((nth h.arena h.gc.pos).kind==0)=true:=by simpa [bne] using hk
          have hid:h.arena.set h.gc.pos.toNat (marked (nth h.arena h.gc.pos) false)=h.arena:=by
            rw [blank_marked (ha.ok _ (ha.at hr.1 hr.2).2) hk0]
            exact set_get (nth_get hr.1 (by rw [ha.len];omega))
          simp [hid]
        · rfl
      · rfl
    rw [hsw]
    simp only [Option.bind_some,e0]
    cases h.gc.pos==9 <;> rfl
theorem sumL_same {α:Type} {f:α→Nat} {z:α}:∀ {l:List α} {k:Nat} {y:α},l[k]?=some y→f z=f y→sumL f (l.set k z)=sumL f l
  | x::l,0,y,h,e=>by simp at h;subst h;simp [sumL,e]
  | x::l,k+1,y,h,e=>by
    simp only [List.set_cons_succ,sumL]
    rw [sumL_same (l:=l) (k:=k) (y:=y) (by simpa using h) e]
theorem szL_same {l:List DObj} {i:Int} {z:DObj} (h0:0≤i) (h1:i<(l.length:Int)) (e:sz_DObj z=sz_DObj (nth l i)):szL sz_DObj (l.set i.toNat z)=szL sz_DObj l:=by
  unfold szL
  rw [sumL_same (nth_get h0 h1) e,List.length_set]
theorem shadeIf_props {l:List DObj} {now:Int}:∀ (e:List Int) (h:DHeap),(∀ y,y ∈ e→0≤y∧y≤9)→h.arena.length=10→wA h.arena →
    szL sz_DObj (e.foldl (shadeIf l now) h).arena=szL sz_DObj h.arena∧wA (e.foldl (shadeIf l now) h).arena∧(e.foldl (shadeIf l now) h).gc.grey.length≤h.gc.grey.length+e.length
  | [],h,_,_,hw=>⟨rfl,hw,Nat.le_refl _⟩
  | y::e,h,he,hl,hw=>by
    obtain ⟨y0,y9⟩:=he y (by simp)
    have hy:y<(h.arena.length:Int):=by rw [hl];omega
    have key:szL sz_DObj (shadeIf l now h y).arena=szL sz_DObj h.arena∧wA (shadeIf l now h y).arena∧(shadeIf l now h y).gc.grey.length≤h.gc.grey.length+1∧(shadeIf l now h y).arena.length=10:=by
      unfold shadeIf
      split
      · exact ⟨rfl,hw,Nat.le_succ _,hl⟩
      · refine ⟨?_,?_,shade_grey h y,by rw [shade_arena,hl]⟩
        · unfold shade
          split
          · exact szL_same y0 hy rfl
          · rfl
        · unfold shade
          split
          · exact wA_set hw (show wOk (marked (nth h.arena y) true) from hw (nth h.arena y) (nth_mem y0 hy))
          · exact hw
    obtain ⟨a1,a2,a3⟩:=shadeIf_props e (shadeIf l now h y) (fun z hz=>he z (by simp [hz])) key.2.2.2 key.2.1
    simp only [List.foldl_cons,List.length_cons]
    exact ⟨a1.trans key.1,a2,by omega⟩
theorem unl_sz (i:Int) (o:DObj):sz_DObj (unl i o)=sz_DObj o:=by
  unfold unl
  split
  · rfl
  · unfold sz_DObj;simp
theorem unl_w {i:Int} {o:DObj} (h:wOk o):wOk (unl i o):=by
  unfold unl
  split
  · exact h
  · exact h
theorem blank_w (g:Int):wOk (blank g):=by show (-9223372036854775808:Int)≤0;decide
theorem free_props {l:List DObj} (hw:wA l) (i:Int):szL sz_DObj (arenaFree l i).1≤szL sz_DObj l∧wA (arenaFree l i).1:=by
  unfold arenaFree
  split
  · refine ⟨?_,fun o ho=>?_⟩
    · show szL sz_DObj ((l.set i.toNat (blank (nth l i).gen)).map (unl i))≤_
      rw [szL_map (unl_sz i)]
      exact szL_set
    · obtain ⟨y,hy,rfl⟩:=List.mem_map.1 ho
      exact unl_w (wA_set hw (blank_w _) y hy)
  · exact ⟨Nat.le_refl _,hw⟩
theorem step_props {h:DHeap} (hw:wA h.arena) (now:Int):szL sz_DObj (gcStep h now).1.arena≤szL sz_DObj h.arena∧wA (gcStep h now).1.arena∧(gcStep h now).1.gc.grey.length≤h.gc.grey.length+10 ∧
    (decide ((gcStep h now).2 ≥ 0)=true→Ar h.arena∧0≤(gcStep h now).2∧(gcStep h now).2≤9):=by
  unfold gcStep
  split
  · rename_i q
    have ha:=heapOk_ar q
    have hl:=ha.len
    split
    · rename_i hp
      have hp:h.gc.phase=1:=by simpa using hp
      have hr:0≤h.gc.pos∧h.gc.pos≤9:=by
        rcases heapOk_phase q with e | e
        · rw [hp] at e;cases e
        · exact e.2
      have hs:szL sz_DObj (swept h now)≤szL sz_DObj h.arena∧wA (swept h now):=by
        unfold swept
        split
        · exact free_props hw _
        · exact ⟨Nat.le_of_eq (szL_same hr.1 (by rw [hl];omega) rfl),wA_set hw (show wOk (marked (nth h.arena h.gc.pos) false) from hw (nth h.arena h.gc.pos) (ha.at hr.1 hr.2).2)⟩
      have hsl:=swept_len h now
      have h0:(0:Int)<((swept h now).length:Int):=by rw [hsl,hl];decide
      refine ⟨?_,?_,?_,fun hd=>⟨ha,?_⟩⟩
      · unfold sweepStep fresh0
        simp only
        split
        · show szL sz_DObj ((swept h now).set (0:Int).toNat _)≤_
          rw [szL_same (z:=marked (nth (swept h now) 0) true) (Int.le_refl 0) h0 rfl];exact hs.1
        · exact hs.1
      · unfold sweepStep fresh0
        simp only
        split
        · exact wA_set hs.2 (show wOk (marked (nth (swept h now) 0) true) from hs.2 (nth (swept h now) 0) (nth_mem (Int.le_refl 0) h0))
        · exact hs.2
      · unfold sweepStep
        simp only
        split
        · simp
        · exact Nat.le_add_right _ _
      · unfold sweepStep at hd ⊢
        simp only at hd ⊢
        split
        · exact hr
        · rename_i hn
          rw [if_neg hn] at hd
          simp at hd
    · refine ⟨?_,?_,?_,fun hd=>by simp at hd⟩
      all_goals
        unfold markStep
        simp only
        split
        · first | exact Nat.le_refl _ | exact hw | exact Nat.le_add_right _ _
        · rename_i hg
          split
          · first | exact Nat.le_refl _ | exact hw | (unfold lessGrey;simp;omega)
          · obtain ⟨l0,l9⟩:=lastGrey_rng q hg
            obtain ⟨e1,e2⟩:=edges_ok ha (lastGrey h)
            obtain ⟨a1,a2,a3⟩:=shadeIf_props (l:=h.arena) (now:=now) (edges h.arena (lastGrey h)) (DHeap.mk (h.arena.set (lastGrey h).toNat (marked (nth h.arena (lastGrey h)) true)) (DGc.mk h.gc.phase h.gc.pos h.gc.round (lessGrey h))) e1 (by simp [hl]) (wA_set hw (show wOk (marked (nth h.arena (lastGrey h)) true) from hw (nth h.arena (lastGrey h)) (ha.at l0 l9).2))
            first
              | exact Nat.le_of_eq (a1.trans (szL_same l0 (by rw [hl];omega) rfl))
              | exact a2
              | (refine Nat.le_trans a3 ?_
                 unfold lessGrey
                 simp
                 omega)
  · exact ⟨Nat.le_refl _,hw,Nat.le_add_right _ _,fun hd=>by simp at hd⟩
structure Col where
  n:Int
  tree:List DRes
  heap:DHeap
def colStep (now:Int) (c:Col):Col :=
  if decide ((gcStep c.heap now).2 ≥ 0) then ⟨IntKind.i64.wrap (c.n+1),(treeBack c.tree (nth c.heap.arena (gcStep c.heap now).2).res ⟨(nth c.heap.arena (gcStep c.heap now).2).pages,0,0⟩).1,(gcStep c.heap now).1⟩
  else ⟨c.n,c.tree,(gcStep c.heap now).1⟩
def cols (now:Int):Nat→Col→Col
  | 0,c=>c
  | k+1,c=>cols now k (colStep now c)
def partCollect (p:DPart) (now steps:Int):DPart×Int :=
  if partOk p&&inR steps 0 100 then
    (DPart.mk p.label p.own (cols now steps.toNat ⟨0,p.tree,p.heap⟩).tree (cols now steps.toNat ⟨0,p.tree,p.heap⟩).heap p.taps p.next p.want p.spent p.press p.lost,(cols now steps.toNat ⟨0,p.tree,p.heap⟩).n)
  else (p,0)
def ct (k:Nat) (c:Col):Int×Int×List DRes×List DObj×Int×Int×Int×List Int:=(c.n,(k:Int),c.tree,c.heap.arena,c.heap.gc.phase,c.heap.gc.pos,c.heap.gc.round,c.heap.gc.grey)
structure Cin (S T G:Nat) (k:Nat) (c:Col):Prop where
  sz:szL sz_DObj c.heap.arena≤S
  tl:c.tree.length=T
  gl:c.heap.gc.grey.length≤G+10 * k
  w:wA c.heap.arena
theorem colStep_in {S T G k:Nat} {c:Col} (h:Cin S T G k c) (now:Int):Cin S T G (k+1) (colStep now c):=by
  obtain ⟨s1,s2,s3,_⟩:=step_props h.w now
  have a1:=h.sz
  have a2:=h.tl
  have a3:=h.gl
  unfold colStep
  split
  · exact ⟨by simp only;omega,by simp only;rw [treeBack_len,a2],by simp only;omega,s2⟩
  · exact ⟨by simp only;omega,a2,by simp only;omega,s2⟩
theorem cols_in {S T G:Nat} {now:Int}:∀ (j k:Nat) (c:Col),Cin S T G k c→Cin S T G (k+j) (cols now j c)
  | 0,k,c,h=>h
  | j+1,k,c,h=>by
    have:=cols_in (now:=now) j (k+1) (colStep now c) (colStep_in h now)
    rwa [show k+1+j=k+(j+1) by omega] at this
theorem collect_in {p:DPart} (hb:sz_DPart p≤3000000) (hw:wP p) (now steps:Int):sz_DPart (partCollect p now steps).1≤sz_DPart p+1000∧wP (partCollect p now steps).1:=by
  unfold partCollect
  split
  · rename_i h
    rw [Bool.and_eq_true,inR_iff] at h
    have hI:=cols_in (now:=now) steps.toNat 0 ⟨0,p.tree,p.heap⟩ (S:=szL sz_DObj p.heap.arena) (T:=p.tree.length) (G:=p.heap.gc.grey.length) ⟨Nat.le_refl _,rfl,Nat.le_refl _,hw⟩
    have a1:=hI.sz
    have a2:=hI.tl
    have a3:=hI.gl
    refine ⟨?_,hI.w⟩
    unfold sz_DPart sz_DHeap sz_DGc at hb ⊢
    simp only
    omega
  · exact ⟨Nat.le_add_right _ _,hw⟩
end Go.Kx
/- Plain laws: taps. No program in sight. -/
namespace Go.Kx
open Go
set_option linter.unusedVariables false
set_option linter.unusedSimpArgs false
set_option maxRecDepth 10000
def amtPart (a:DAmt) (w:Int):Int:=if w==0 then a.pages else if w==1 then a.rent else if w==2 then a.cpu else 0
theorem s_AmtPart (N:Nat) (a:DAmt) (w:Int):F_s_AmtPart N a w=some (amtPart a w):=by
  unfold F_s_AmtPart amtPart
  cases w==0 <;> cases w==1 <;> cases w==2 <;> rfl
def flowOf (t:DTap) (n:Int):Int:=if t.kind==1 then (if n<t.rate then n else t.rate) else IntKind.i64.wrap (Int.tdiv (IntKind.i64.wrap (t.rate * n)) 100)
def tapFlow (t:DTap) (a:DAmt):Int:=if tapOk t&&amtOk a then flowOf t (amtPart a t.which) else 0
def treesOk (ts:List DTree):Bool:=ts.all fun t=>treeOk t.list
def tapMay (ts:List DTree) (p:Int) (t:DTap):Bool :=
  treesOk ts&&(!decide ((ts.length:Int) > 3)&&(tapOk t&&(inR p 0 ((ts.length:Int) - 1)&&(!decide (t.toPart ≥ (ts.length:Int))&&liveAt (nth ts p).list t.res))))
def tapN (ts:List DTree) (p:Int) (t:DTap):Int:=tapFlow t (nth (nth ts p).list t.res).bal
def tapPaid (ts:List DTree) (p:Int) (t:DTap):List DTree:=ts.set p.toNat (DTree.mk (treePay (nth ts p).list t.res (amtOne t.which (tapN ts p t))).1)
def tapBack (ts:List DTree) (p:Int) (t:DTap):List DRes×Bool:=treeBack (nth (tapPaid ts p t) t.toPart).list t.toRes (amtOne t.which (tapN ts p t))
def tapMove (ts:List DTree) (p:Int) (t:DTap):List DTree×Int :=
  if tapMay ts p t&&(tapBack ts p t).2 then ((tapPaid ts p t).set t.toPart.toNat (DTree.mk (tapBack ts p t).1),tapN ts p t) else (ts,0)
theorem tapMay_iff {ts:List DTree} {p:Int} {t:DTap} (h:tapMay ts p t=true):treesOk ts=true∧tapOk t=true∧(0≤p∧p<(ts.length:Int))∧(0≤t.toPart∧t.toPart<(ts.length:Int))∧liveAt (nth ts p).list t.res=true:=by
  unfold tapMay at h
  simp only [Bool.and_eq_true,Bool.not_eq_true',decide_eq_false_iff_not,inR_iff] at h
  obtain ⟨h1,_,h2,h3,h4,h5⟩:=h
  have h2':=h2
  unfold tapOk at h2'
  simp only [Bool.and_eq_true,inR_iff] at h2'
  exact ⟨h1,h2,⟨h3.1,by omega⟩,⟨h2'.1.2.1.1,by omega⟩,h5⟩
theorem paid_len (ts:List DTree) (p:Int) (t:DTap):(tapPaid ts p t).length=ts.length:=by unfold tapPaid;rw [List.length_set]
def lens (ts:List DTree):List Nat:=ts.map fun t=>t.list.length
theorem lens_set {ts:List DTree} {k:Nat} {y:DTree} {t:List DRes} (hy:ts[k]?=some y) (ht:t.length=y.list.length):lens (ts.set k (DTree.mk t))=lens ts:=by
  unfold lens
  rw [List.map_set]
  show (ts.map fun t=>t.list.length).set k t.length=_
  rw [ht]
  apply set_get
  rw [List.getElem?_map,hy];rfl
theorem tapMove_lens (ts:List DTree) (p:Int) (t:DTap):lens (tapMove ts p t).1=lens ts:=by
  unfold tapMove
  split
  · rename_i h
    rw [Bool.and_eq_true] at h
    obtain ⟨_,_,⟨p0,p1⟩,⟨q0,q1⟩,_⟩:=tapMay_iff h.1
    show lens ((tapPaid ts p t).set t.toPart.toNat (DTree.mk (tapBack ts p t).1))=_
    refine (lens_set (nth_get q0 (by rw [paid_len];exact q1)) (show (tapBack ts p t).1.length=_ from treeBack_len _ _ _)).trans ?_
    exact lens_set (nth_get p0 p1) (treePay_len _ _ _)
  · rfl
def tapped (ts:List DTree) (p:Int) (taps:List DTap):List DTree:=taps.foldl (fun ts t=>(tapMove ts p t).1) ts
theorem tapped_lens (p:Int):∀ (taps:List DTap) (ts:List DTree),lens (tapped ts p taps)=lens ts
  | [],_=>rfl
  | t::taps,ts=>(tapped_lens p taps (tapMove ts p t).1).trans (tapMove_lens ts p t)
def partTaps (w:DWorld) (p:Int):DWorld:=if worldOk w&&hasPart w p then DWorld.mk w.now (putTrees w.parts (treeLists (tapped (treesOf w.parts) p (nth w.parts p).taps))) else w
end Go.Kx
/- The plain law of 'FnExactTick'. No program in sight. -/
namespace Go.Kx
open Go
set_option linter.unusedVariables false
set_option linter.unusedSimpArgs false
set_option maxRecDepth 10000
theorem wOk_nth {l:List DObj} (h:wA l) (i:Int):wOk (nth l i):=by
  unfold nth
  cases e:l[i.toNat]? with
  | none=>show (-9223372036854775808:Int)≤0;decide
  | some o=>exact h o (List.mem_of_getElem? e)
theorem kill_w {p:DPart} (h:wP p) (now:Int):wP (partKill p now):=by
  unfold partKill
  split
  · show wA (killed p now)
    unfold killed
    split
    · exact wA_set h (wOk_nth h _)
    · exact h
  · exact h
theorem wake_w {p:DPart} (h:wP p) (me now:Int):wP (partWake p me now):=by
  unfold partWake
  split
  · intro o ho
    obtain ⟨x,hx,rfl⟩:=List.mem_map.1 (show o ∈ p.heap.arena.map _ from ho)
    split
    · show (-9223372036854775808:Int)≤0;decide
    · exact h x hx
  · exact h
theorem run_w {p:DPart} (h:wP p) (now:Int):wP (partRun p now).1:=by
  unfold partRun
  split
  · split
    · exact h
    · exact wA_set h (wOk_nth h (nextOf p now))
  · exact h
def tickMid (p:DPart) (i now:Int):DPart:=(partCollect (partWake (partKill p now) i now) now 3).1
def tickPart (n:Nat) (p:DPart) (i now:Int):DPart:=bif Int.tmod now (n:Int)==i then (partRun (tickMid p i now) now).1 else tickMid p i now
def tickStep (n:Nat) (k:Nat) (w:DWorld):DWorld:=DWorld.mk (partTaps w (k:Int)).now ((partTaps w (k:Int)).parts.set k (tickPart n (nth (partTaps w (k:Int)).parts (k:Int)) (k:Int) (partTaps w (k:Int)).now))
theorem tickMid_in {p:DPart} {b:Nat} (hb:sz_DPart p≤b) (h2:b≤2000000) (hw:wP p) (i now:Int):sz_DPart (tickMid p i now)≤b+1200∧wP (tickMid p i now):=by
  have h1:=kill_sz p now
  have h3:=wake_sz (partKill p now) i now
  obtain ⟨a,c⟩:=collect_in (p:=partWake (partKill p now) i now) (by omega) (wake_w (kill_w hw now) i now) now 3
  exact ⟨by show sz_DPart (partCollect (partWake (partKill p now) i now) now 3).1≤_;omega,c⟩
theorem tickPart_in {n:Nat} {p:DPart} {b:Nat} (hb:sz_DPart p≤b) (h2:b≤2000000) (hw:wP p) (i now:Int):sz_DPart (tickPart n p i now)≤b+1300∧wP (tickPart n p i now):=by
  obtain ⟨a,c⟩:=tickMid_in hb h2 hw i now
  unfold tickPart
  cases Int.tmod now (n:Int)==i
  · exact ⟨by simp only [cond_false];omega,c⟩
  · have:=run_sz (tickMid p i now) now
    exact ⟨by simp only [cond_true];omega,run_w c now⟩
theorem put_keep:∀ {l:List DPart} {ts:List (List DRes)},ts.map List.length=(partTrees l).map List.length→(putTrees l ts).length=l.length∧∀ q,q ∈ putTrees l ts→∃ p,p ∈ l∧sz_DPart q=sz_DPart p∧q.heap=p.heap
  | [],[],_=>⟨rfl,fun _ h=>absurd h (by simp [putTrees])⟩
  | [],_::_,h=>by simp [partTrees] at h
  | _::_,[],h=>by simp [partTrees] at h
  | p::l,t::ts,h=>by
    simp only [partTrees,List.map_cons,List.cons.injEq] at h
    obtain ⟨i1,i2⟩:=put_keep (l:=l) (ts:=ts) h.2
    refine ⟨by show (putTree p t::putTrees l ts).length=_;simp [i1],fun q hq=>?_⟩
    rcases List.mem_cons.1 (show q ∈ putTree p t::putTrees l ts from hq) with rfl | hq
    · exact ⟨p,List.mem_cons_self,by unfold sz_DPart putTree;simp only [h.1],rfl⟩
    · obtain ⟨y,hy,e⟩:=i2 q hq
      exact ⟨y,List.mem_cons_of_mem _ hy,e⟩
theorem taps_keep (w:DWorld) (p:Int):(partTaps w p).now=w.now∧(partTaps w p).parts.length=w.parts.length∧∀ q,q ∈ (partTaps w p).parts→∃ p,p ∈ w.parts∧sz_DPart q=sz_DPart p∧q.heap=p.heap:=by
  unfold partTaps
  split
  · refine ⟨rfl,put_keep ?_⟩
    have h:(tapped (treesOf w.parts) p (nth w.parts p).taps).map (fun t=>t.list.length)=(treesOf w.parts).map (fun t=>t.list.length):=tapped_lens p (nth w.parts p).taps (treesOf w.parts)
    unfold treeLists
    rw [List.map_map]
    refine Eq.trans (show _=(tapped (treesOf w.parts) p (nth w.parts p).taps).map (fun t=>t.list.length) from rfl) (h.trans ?_)
    unfold treesOf
    rw [List.map_map]
    rfl
  · exact ⟨rfl,rfl,fun q hq=>⟨q,hq,rfl,rfl⟩⟩
structure Tin (n:Nat) (k:Nat) (t:DWorld):Prop where
  len:t.parts.length=n
  small:n≤3
  sz:∀ p,p ∈ t.parts→sz_DPart p≤1048576+1300 * k∧wP p
theorem Tin.big {n k:Nat} {t:DWorld} (h:Tin n k t) (hk:k≤3):szL sz_DPart t.parts<BIG:=by
  have hB:(16777216:Nat)=BIG:=rfl
  have h1:sumL sz_DPart t.parts≤(1048576+1300 * 3) * t.parts.length:=sumL_le fun y hy=>Nat.le_trans (h.sz y hy).1 (by omega)
  have h2:=h.len
  have h3:=h.small
  have h4:(1048576+1300 * 3) * t.parts.length≤(1048576+1300 * 3) * 3:=Nat.mul_le_mul_left _ (by omega)
  unfold szL
  omega
theorem Tin.w {n k:Nat} {t:DWorld} (h:Tin n k t):wW t.parts:=fun p hp=>(h.sz p hp).2
theorem Tin.taps {n k:Nat} {t:DWorld} (h:Tin n k t) (p:Int):Tin n k (partTaps t p):=by
  obtain ⟨_,h2,h3⟩:=taps_keep t p
  refine ⟨h2.trans h.len,h.small,fun q hq=>?_⟩
  obtain ⟨y,hy,e1,e2⟩:=h3 q hq
  obtain ⟨a,b⟩:=h.sz y hy
  exact ⟨by omega,by unfold wP at *;rw [e2];exact b⟩
theorem Tin.step {n k:Nat} {t:DWorld} (h:Tin n k t) (hk:k<n):Tin n (k+1) (tickStep n k t):=by
  have hT:=h.taps (k:Int)
  have hs:=hT.small
  refine ⟨by show ((partTaps t (k:Int)).parts.set k _).length=n;rw [List.length_set];exact hT.len,hT.small,fun q hq=>?_⟩
  rcases List.mem_or_eq_of_mem_set (show q ∈ (partTaps t (k:Int)).parts.set k _ from hq) with h1 | h1
  · obtain ⟨a,b⟩:=hT.sz q h1
    exact ⟨by omega,b⟩
  · subst h1
    have hl:=hT.len
    obtain ⟨a,b⟩:=hT.sz _ (nth_mem (l:=(partTaps t (k:Int)).parts) (i:=(k:Int)) (by omega) (by omega))
    obtain ⟨c,d⟩:=tickPart_in (n:=n) a (by omega) b (k:Int) (partTaps t (k:Int)).now
    exact ⟨by omega,d⟩
end Go.Kx
/- Plain laws: what is split off, given and dropped in a tree. No program in sight. -/
namespace Go.Kx
open Go
set_option linter.unusedVariables false
set_option linter.unusedSimpArgs false
set_option maxRecDepth 10000
theorem pay_good {t:List DRes} {f:Int} {a:DAmt} (h:(treePay t f a).2=true):treeOk t=true∧liveAt t f=true:=by
  unfold treePay at h
  split at h
  · rename_i q
    simpa using q
  · cases h
theorem pay_live (t:List DRes) (f:Int) (a:DAmt):(treePay t f a).1.map DRes.live=t.map DRes.live:=by
  unfold treePay
  split
  · rename_i q
    simp only [Bool.and_eq_true] at q
    obtain ⟨f0,f4⟩:=liveAt_rng q.2
    have hl:=treeLen q.1
    split
    · rw [List.map_set]
      refine set_get ?_
      rw [List.getElem?_map,nth_get f0 (by omega)]
      rfl
    · rfl
  · rfl
def freeK:Nat→List Bool→Option Nat
  | _,[]=>none
  | k,b::l=>if b then freeK (k+1) l else some k
theorem freeRun {ρ:Type} (g:Nat→ρ) (r:ρ):∀ (l:List DRes) (k:Nat),runL (fun k (_:Unit) (y:DRes)=>if y.live then .inl () else .inr (g k)) (fun _=>r) k () l=(match freeK k (l.map DRes.live) with | none=>r | some k=>g k)
  | [],k=>rfl
  | y::l,k=>by
    unfold runL
    simp only [List.map_cons,freeK]
    cases y.live
    · rfl
    · exact freeRun g r l (k+1)
theorem freeLoop {ρ:Type} {N:Nat} (hN:BIG≤N) {x:List DRes} (hx:x.length<BIG) (g:Nat→ρ) (r:ρ) {body:Int→Option (Int⊕ρ)}
    (hs:∀ (k:Nat) (y:DRes),x[k]?=some y→k<x.length→body (k:Int)=some (if y.live then .inl ((k+1:Nat):Int) else .inr (g k))) (he:body (x.length:Int)=some (.inr r)) :
    iter body N 0=some (match freeK 0 (x.map DRes.live) with | none=>r | some k=>g k):=by
  rw [show (0:Int)=(fun (k:Nat) (_:Unit)=>(k:Int)) 0 () from rfl,
    iter_list x (fun (k:Nat) (_:Unit)=>(k:Int)) (fun k _ y=>if y.live then .inl () else .inr (g k)) (fun _=>r) (fun _ _=>True) ?_ ?_ (Nat.lt_of_lt_of_le hx hN) trivial,freeRun]
  · intro k _ y hy hk _
    refine ⟨?_,fun _ _=>trivial⟩
    show body (k:Int)=_
    rw [hs k y hy hk]
    cases y.live <;> rfl
  · intro _ _
    exact he
def treeSplit (t:List DRes) (f:Int) (a:DAmt):List DRes×Int×Bool :=
  if (treePay t f a).2 then (match freeK 0 (t.map DRes.live) with | none=>(t,0,false) | some k=>((treePay t f a).1.set k (DRes.mk true f a),(k:Int),true)) else (t,0,false)
theorem treeSplit_len (t:List DRes) (f:Int) (a:DAmt):(treeSplit t f a).1.length=t.length:=by
  unfold treeSplit
  split
  · split
    · rfl
    · simp only [List.length_set,treePay_len]
  · rfl
theorem s_TreeSplit {N:Nat} (hN:BIG≤N) {t:List DRes} (hB:t.length<BIG) (f:Int) (a:DAmt):F_s_TreeSplit N t f a=some (treeSplit t f a):=by
  unfold F_s_TreeSplit treeSplit
  simp only [s_TreePay hN hB,Option.bind_some]
  cases h:(treePay t f a).2
  · simp only [Bool.not_false,cond_true,s_l6Copy hB,Option.bind_some,Bool.false_eq_true,if_false]
  have hp:=treePay_len t f a
  simp only [Bool.not_true,cond_false,if_true]
  rw [freeLoop (x:=(treePay t f a).1) hN (by omega) (fun k=>Sum.inr ((treePay t f a).1.set k (DRes.mk true f a),(k:Int),true)) (Sum.inl ((treePay t f a).1.length:Int)),pay_live]
  · simp only [Option.bind_some]
    cases freeK 0 (t.map DRes.live)
    · simp only [Sum.elim_inl,s_l6Copy hB,Option.bind_some]
    · rfl
  · intro k y hy hk
    simp only [lt_dec hk,cond_true,idx_nat,hy,Option.bind_some,wrap1 (show k<BIG by omega),Int.toNat_natCast]
    cases y.live <;> rfl
  · simp only [ge_dec,cond_false]
def treeGive (t:List DRes) (f g:Int) (a:DAmt):List DRes×Bool:=if (treePay t f a).2&&liveAt t g then treeBack (treePay t f a).1 g a else (t,false)
theorem treeGive_len (t:List DRes) (f g:Int) (a:DAmt):(treeGive t f g a).1.length=t.length:=by
  unfold treeGive
  split
  · rw [treeBack_len,treePay_len]
  · rfl
theorem s_TreeGive {N:Nat} (hN:BIG≤N) {t:List DRes} (hB:t.length<BIG) (f g:Int) (a:DAmt):F_s_TreeGive N t f g a=some (treeGive t f g a):=by
  unfold F_s_TreeGive treeGive
  have hp:=treePay_len t f a
  simp only [s_l6Live hN,s_TreePay hN hB,Option.bind_some]
  cases h:(treePay t f a).2
  · cases treeOk t&&liveAt t g <;> simp only [Bool.not_false,Bool.not_true,cond_true,cond_false,s_l6Copy hB,Option.bind_some,Bool.false_and,Bool.false_eq_true,if_false]
  rw [(pay_good h).1]
  simp only [Bool.true_and]
  cases liveAt t g
  · simp only [Bool.not_false,cond_true,s_l6Copy hB,Option.bind_some,Bool.false_eq_true,if_false]
  · simp only [Bool.not_true,cond_false,if_true,s_TreeBack hN (show (treePay t f a).1.length<BIG by omega),Option.bind_some]
theorem up_rng {t:List DRes} (h:Tr t) {i:Int} (hv:liveAt t i=true) (hi:i ≠ 0):0≤up t i∧up t i≤4∧up t i ≠ i∧(nth t (up t i)).live=true:=by
  obtain ⟨i0,i4⟩:=liveAt_rng hv
  have hl:=h.len
  have hg:=nth_get (l:=t) i0 (by omega)
  have hlv:(nth t i).live=true:=by
    unfold liveAt at hv
    simp only [Bool.and_eq_true] at hv
    exact hv.2
  have h1:=h.lead i.toNat (nth t i) hg hlv
  rw [show ((i.toNat:Nat):Int)=i by omega] at h1
  have hne:up t i ≠ i:=fun q=>by rw [leads_no hi q] at h1;cases h1
  have h2:leads t 4 (up t i)=true:=by
    unfold leads at h1
    simpa [hi,hv] using h1
  by_cases hu:up t i=0
  · rw [hu]
    exact ⟨by omega,by omega,fun q=>hi q.symm,h.live0⟩
  · unfold leads at h2
    have h3:liveAt t (up t i)=true:=by
      cases q:liveAt t (up t i)
      · simp [hu,q] at h2
      · rfl
    obtain ⟨a,b⟩:=liveAt_rng h3
    unfold liveAt at h3
    simp only [Bool.and_eq_true] at h3
    exact ⟨a,b,hne,h3.2⟩
def inB (s:DAmt) (B:Int):Prop:=(0≤s.pages∧s.pages≤B)∧(0≤s.rent∧s.rent≤B)∧(0≤s.cpu∧s.cpu≤B)
theorem amtSum_in {s a:DAmt} {B:Int} (hs:inB s B) (ha:amtOk a=true) (hB:B≤1000000000):(amtSum s a).pages=s.pages+a.pages∧(amtSum s a).rent=s.rent+a.rent∧(amtSum s a).cpu=s.cpu+a.cpu∧inB (amtSum s a) (B+1000000):=by
  have h:=amtOk_iff.1 ha
  unfold inB at hs
  have w1:(amtSum s a).pages=s.pages+a.pages:=wrap_ok (by omega) (by omega)
  have w2:(amtSum s a).rent=s.rent+a.rent:=wrap_ok (by omega) (by omega)
  have w3:(amtSum s a).cpu=s.cpu+a.cpu:=wrap_ok (by omega) (by omega)
  exact ⟨w1,w2,w3,⟨by omega,by omega⟩,⟨by omega,by omega⟩,⟨by omega,by omega⟩⟩
theorem live_add:∀ (t:List DRes) (s:DAmt) (B:Int),(∀ r,r ∈ t→amtOk r.bal=true)→0≤B→B+1000000 * (t.length:Int)≤1000000000→inB s B→∀ (k:Nat) (r:DRes),t[k]?=some r→r.live=true →
    s.pages+r.bal.pages≤(sumLive s t).pages∧s.rent+r.bal.rent≤(sumLive s t).rent∧s.cpu+r.bal.cpu≤(sumLive s t).cpu
  | [],s,B,_,_,_,_,k,r,hr,_=>by simp at hr
  | x::t,s,B,h,hB,hL,hs,k,r,hr,hv=>by
    have hx:=h x (by simp)
    simp only [List.length_cons] at hL
    obtain ⟨w1,w2,w3,w4⟩:=amtSum_in hs hx (by omega)
    have hx':=amtOk_iff.1 hx
    have e:sumLive s (x::t)=sumLive (if x.live then amtSum s x.bal else s) t:=rfl
    rw [e]
    have ht:∀ r,r ∈ t→amtOk r.bal=true:=fun r hr=>h r (by simp [hr])
    match k with
    | 0 =>
      simp only [List.getElem?_cons_zero,Option.some.injEq] at hr
      subst hr
      rw [if_pos hv]
      obtain ⟨⟨a1,a2,a3⟩,_⟩:=sumLive_ge t (amtSum s x.bal) (B+1000000) ht (by omega) (by omega) w4.1 w4.2.1 w4.2.2
      exact ⟨by omega,by omega,by omega⟩
    | k+1 =>
      rw [List.getElem?_cons_succ] at hr
      cases hxl:x.live
      · exact live_add t s B ht hB (by omega) hs k r hr hv
      · obtain ⟨a1,a2,a3⟩:=live_add t (amtSum s x.bal) (B+1000000) ht (by omega) (by omega) w4 k r hr hv
        rw [if_pos rfl]
        exact ⟨by omega,by omega,by omega⟩
theorem live_two:∀ (t:List DRes) (s:DAmt) (B:Int),(∀ r,r ∈ t→amtOk r.bal=true)→0≤B→B+1000000 * (t.length:Int)≤1000000000→inB s B→∀ (k j:Nat) (r q:DRes),k<j→t[k]?=some r→r.live=true→t[j]?=some q→q.live=true →
    r.bal.pages+q.bal.pages≤(sumLive s t).pages∧r.bal.rent+q.bal.rent≤(sumLive s t).rent∧r.bal.cpu+q.bal.cpu≤(sumLive s t).cpu
  | [],s,B,_,_,_,_,k,j,r,q,_,hr,_,_,_=>by simp at hr
  | x::t,s,B,h,hB,hL,hs,k,j,r,q,hkj,hr,hv,hq,hw=>by
    have hx:=h x (by simp)
    simp only [List.length_cons] at hL
    obtain ⟨w1,w2,w3,w4⟩:=amtSum_in hs hx (by omega)
    have e:sumLive s (x::t)=sumLive (if x.live then amtSum s x.bal else s) t:=rfl
    rw [e]
    have ht:∀ r,r ∈ t→amtOk r.bal=true:=fun r hr=>h r (by simp [hr])
    unfold inB at hs
    match k,j,hkj with
    | 0,j+1,_ =>
      simp only [List.getElem?_cons_zero,Option.some.injEq] at hr
      subst hr
      rw [List.getElem?_cons_succ] at hq
      rw [if_pos hv]
      obtain ⟨a1,a2,a3⟩:=live_add t (amtSum s x.bal) (B+1000000) ht (by omega) (by omega) w4 j q hq hw
      exact ⟨by omega,by omega,by omega⟩
    | k+1,j+1,hkj =>
      rw [List.getElem?_cons_succ] at hr hq
      cases hxl:x.live
      · exact live_two t s B ht hB (by omega) hs k j r q (by omega) hr hv hq hw
      · rw [if_pos rfl]
        exact live_two t (amtSum s x.bal) (B+1000000) ht (by omega) (by omega) w4 k j r q (by omega) hr hv hq hw
theorem two_fit {t:List DRes} (h:Tr t) {u i:Int} (hu:0≤u∧u≤4) (hi:0≤i∧i≤4) (hne:u ≠ i) (h1:(nth t u).live=true) (h2:(nth t i).live=true):amtAdd (nth t u).bal (nth t i).bal=(amtSum (nth t u).bal (nth t i).bal,true):=by
  have hl:=h.len
  have z:inB ⟨0,0,0⟩ 0:=by unfold inB;decide
  have hS:=amtOk_iff.1 h.sum
  have gu:=nth_get (l:=t) (i:=u) hu.1 (by omega)
  have gi:=nth_get (l:=t) (i:=i) hi.1 (by omega)
  have bu:=h.bal _ (List.mem_of_getElem? gu)
  have bi:=h.bal _ (List.mem_of_getElem? gi)
  have bu':=amtOk_iff.1 bu
  have bi':=amtOk_iff.1 bi
  have key:(nth t u).bal.pages+(nth t i).bal.pages≤(sumLive ⟨0,0,0⟩ t).pages∧(nth t u).bal.rent+(nth t i).bal.rent≤(sumLive ⟨0,0,0⟩ t).rent∧(nth t u).bal.cpu+(nth t i).bal.cpu≤(sumLive ⟨0,0,0⟩ t).cpu:=by
    rcases Int.lt_or_gt_of_ne hne with q | q
    · exact live_two t ⟨0,0,0⟩ 0 h.bal (by omega) (by omega) z u.toNat i.toNat _ _ (by omega) gu h1 gi h2
    · obtain ⟨a,b,c⟩:=live_two t ⟨0,0,0⟩ 0 h.bal (by omega) (by omega) z i.toNat u.toNat _ _ (by omega) gi h2 gu h1
      exact ⟨by omega,by omega,by omega⟩
  have v1:(amtSum (nth t u).bal (nth t i).bal).pages=(nth t u).bal.pages+(nth t i).bal.pages:=wrap_ok (by omega) (by omega)
  have v2:(amtSum (nth t u).bal (nth t i).bal).rent=(nth t u).bal.rent+(nth t i).bal.rent:=wrap_ok (by omega) (by omega)
  have v3:(amtSum (nth t u).bal (nth t i).bal).cpu=(nth t u).bal.cpu+(nth t i).bal.cpu:=wrap_ok (by omega) (by omega)
  have:amtOk (amtSum (nth t u).bal (nth t i).bal)=true:=amtOk_iff.2 ⟨by omega,by omega,by omega⟩
  unfold amtAdd
  rw [bu,bi,this];rfl
def reparent (i u:Int) (r:DRes):DRes:=if r.live&&(r.parent==i) then DRes.mk r.live u r.bal else r
def dropped (t:List DRes) (i:Int):List DRes:=(t.set (up t i).toNat (withBal (nth t (up t i)) (amtSum (nth t (up t i)).bal (nth t i).bal))).set i.toNat zRes
def treeDrop (t:List DRes) (i:Int):List DRes×Bool:=if (treeOk t&&liveAt t i)&&(i != 0) then ((dropped t i).map (reparent i (up t i)),true) else (t,false)
theorem treeDrop_len (t:List DRes) (i:Int):(treeDrop t i).1.length=t.length:=by
  unfold treeDrop dropped
  split <;> simp
theorem s_TreeDrop {N:Nat} (hN:BIG≤N) {t:List DRes} (hB:t.length<BIG) (i:Int):F_s_TreeDrop N t i=some (treeDrop t i):=by
  unfold F_s_TreeDrop treeDrop
  simp only [s_l6Copy hB,s_l6Live hN,Option.bind_some,bOr]
  cases h:(treeOk t&&liveAt t i)
  · rfl
  simp only [Bool.and_eq_true] at h
  have hT:=treeOk_iff.1 h.1
  have hl:=hT.len
  cases hi:(i==0)
  case true=>simp only [Bool.not_true,Bool.or_true,cond_true,Bool.true_and,bne,hi,Bool.false_eq_true,if_false]
  have hi':i ≠ 0:=by simpa using hi
  obtain ⟨i0,i4⟩:=liveAt_rng h.2
  obtain ⟨u0,u4,une,ulv⟩:=up_rng hT h.2 hi'
  have ilv:(nth t i).live=true:=by
    have:=h.2
    unfold liveAt at this
    simp only [Bool.and_eq_true] at this
    exact this.2
  have eu:idx t (nth t i).parent=some (nth t (up t i)):=idx_ok (i:=up t i) u0 (by omega)
  have ff:=two_fit hT ⟨u0,u4⟩ ⟨i0,i4⟩ une ulv ilv
  have e2:∀ z,idx (t.set (nth t i).parent.toNat z) i=some (nth (t.set (nth t i).parent.toNat z) i):=fun z=>idx_ok i0 (by simp only [List.length_set];omega)
  simp only [Bool.not_true,Bool.or_false,cond_false,idx_ok (l:=t) i0 (by omega),eu,s_AmtAdd,ff,Option.bind_some,e2,bne,hi,Bool.not_false,Bool.and_self,if_true]
  rw [show (((t.set (nth t i).parent.toNat (DRes.mk (nth t (up t i)).live (nth t (up t i)).parent (DAmt.mk (amtSum (nth t (up t i)).bal (nth t i).bal).pages (amtSum (nth t (up t i)).bal (nth t i).bal).rent (amtSum (nth t (up t i)).bal (nth t i).bal).cpu))).set i.toNat (DRes.mk false 0 (DAmt.mk 0 0 0))))=dropped t i from rfl]
  rw [iter_map (dropped t i) (reparent i (up t i)) (show (dropped t i).length<N by unfold dropped;simp only [List.length_set];omega)]
  · rfl
  · intro k x y hx hty _ hk
    have hk':k<x.length:=by omega
    have hk2:k<t.length:=by unfold dropped at hk;simp only [List.length_set] at hk;omega
    simp only [lt_dec hk',cond_true,idx_nat,hty,Option.bind_some,bAnd,wrap1 (show k<BIG by omega),Int.toNat_natCast]
    unfold reparent
    cases (y.live&&(y.parent==i))
    · simp only [cond_false,Bool.false_eq_true,if_false,set_get hty]
    · simp only [cond_true,if_true];rfl
  · intro x hx
    rw [← hx]
    simp only [ge_dec,cond_false]
end Go.Kx
/- Plain laws: what trees keep when they pay, are paid back, split, give and drop. No program in sight. -/
namespace Go.Kx
open Go
set_option linter.unusedVariables false
set_option linter.unusedSimpArgs false
set_option maxRecDepth 10000
def tot (f:DAmt→Int):List DRes→Int
  | []=>0
  | r::t=>(if r.live then f r.bal else 0)+tot f t
def has1 (f:DAmt→Int) (r:DRes):Int:=if r.live then f r.bal else 0
theorem tot_set (f:DAmt→Int):∀ (t:List DRes) (k:Nat) (r z:DRes),t[k]?=some r→tot f (t.set k z)=tot f t - has1 f r+has1 f z
  | [],k,r,z,h=>by simp at h
  | x::t,0,r,z,h=>by
    simp only [List.getElem?_cons_zero,Option.some.injEq] at h
    subst h
    show has1 f z+tot f t=has1 f x+tot f t - has1 f x+has1 f z
    omega
  | x::t,k+1,r,z,h=>by
    rw [List.getElem?_cons_succ] at h
    have:=tot_set f t k r z h
    show has1 f x+tot f (t.set k z)=has1 f x+tot f t - has1 f r+has1 f z
    omega
theorem sumLive_tot:∀ (t:List DRes) (s:DAmt) (B:Int),(∀ r,r ∈ t→amtOk r.bal=true)→0≤B→B+1000000 * (t.length:Int)≤1000000000→inB s B →
    (sumLive s t).pages=s.pages+tot DAmt.pages t∧(sumLive s t).rent=s.rent+tot DAmt.rent t∧(sumLive s t).cpu=s.cpu+tot DAmt.cpu t
  | [],s,B,_,_,_,_=>⟨(Int.add_zero _).symm,(Int.add_zero _).symm,(Int.add_zero _).symm⟩
  | x::t,s,B,h,hB,hL,hs=>by
    have hx:=h x (by simp)
    simp only [List.length_cons] at hL
    obtain ⟨w1,w2,w3,w4⟩:=amtSum_in hs hx (by omega)
    have e:sumLive s (x::t)=sumLive (if x.live then amtSum s x.bal else s) t:=rfl
    have ht:∀ r,r ∈ t→amtOk r.bal=true:=fun r hr=>h r (by simp [hr])
    have d:∀ f:DAmt→Int,tot f (x::t)=(if x.live then f x.bal else 0)+tot f t:=fun f=>rfl
    rw [e,d,d,d]
    cases hxl:x.live
    · obtain ⟨a1,a2,a3⟩:=sumLive_tot t s B ht hB (by omega) hs
      simp only [Bool.false_eq_true,if_false]
      exact ⟨by omega,by omega,by omega⟩
    · obtain ⟨a1,a2,a3⟩:=sumLive_tot t (amtSum s x.bal) (B+1000000) ht (by omega) (by omega) w4
      simp only [if_true]
      exact ⟨by omega,by omega,by omega⟩
theorem zero_in:inB ⟨0,0,0⟩ 0:=by unfold inB;decide
theorem Tr.tot {t:List DRes} (h:Tr t):(sumLive ⟨0,0,0⟩ t).pages=tot DAmt.pages t∧(sumLive ⟨0,0,0⟩ t).rent=tot DAmt.rent t∧(sumLive ⟨0,0,0⟩ t).cpu=tot DAmt.cpu t:=by
  have hl:=h.len
  obtain ⟨a,b,c⟩:=sumLive_tot t ⟨0,0,0⟩ 0 h.bal (by omega) (by omega) zero_in
  simp only [Int.zero_add] at a b c
  exact ⟨a,b,c⟩
theorem nth_setR {t:List DRes} {i j:Int} {z:DRes} (h0:0≤i) (h1:i<(t.length:Int)) (hj:0≤j):nth (t.set i.toNat z) j=if i=j then z else nth t j:=by
  unfold nth
  by_cases e:i=j
  · subst e
    rw [if_pos rfl,List.getElem?_set_self (by omega)]
    rfl
  · rw [if_neg e,List.getElem?_set_ne (by omega)]
theorem live_bal {t:List DRes} {i:Int} (h0:0≤i) (h1:i<(t.length:Int)) (b:DAmt) {j:Int} (hj:0≤j):(nth (t.set i.toNat (withBal (nth t i) b)) j).live=(nth t j).live∧(nth (t.set i.toNat (withBal (nth t i) b)) j).parent=(nth t j).parent:=by
  rw [nth_setR h0 h1 hj]
  split
  · rename_i e
    subst e
    exact ⟨rfl,rfl⟩
  · exact ⟨rfl,rfl⟩
theorem liveAt_bal {t:List DRes} {i:Int} (h0:0≤i) (h1:i<(t.length:Int)) (b:DAmt) (j:Int):liveAt (t.set i.toNat (withBal (nth t i) b)) j=liveAt t j:=by
  unfold liveAt
  cases hj:inR j 0 4
  · rfl
  · rw [(live_bal h0 h1 b (inR_iff.1 hj).1).1]
theorem leads_bal {t:List DRes} {i:Int} (h0:0≤i) (h1:i<(t.length:Int)) (b:DAmt):∀ (n:Nat) (j:Int),leads (t.set i.toNat (withBal (nth t i) b)) n j=leads t n j
  | 0,j=>rfl
  | n+1,j=>by
    unfold leads
    rw [liveAt_bal h0 h1]
    cases hv:liveAt t j
    · rfl
    · have:=(liveAt_rng hv).1
      have e:up (t.set i.toNat (withBal (nth t i) b)) j=up t j:=(live_bal h0 h1 b this).2
      rw [e,leads_bal h0 h1 b n (up t j)]
theorem Tr.set {t:List DRes} (h:Tr t) {i:Int} (h0:0≤i) (h4:i≤4) (hv:(nth t i).live=true) {b:DAmt} (hb:amtOk b=true)
    (hs:amtOk ⟨Kx.tot DAmt.pages t - (nth t i).bal.pages+b.pages,Kx.tot DAmt.rent t - (nth t i).bal.rent+b.rent,Kx.tot DAmt.cpu t - (nth t i).bal.cpu+b.cpu⟩=true) :
    Tr (t.set i.toNat (withBal (nth t i) b))∧∀ f:DAmt→Int,Kx.tot f (t.set i.toNat (withBal (nth t i) b))=Kx.tot f t - f (nth t i).bal+f b:=by
  have hl:=h.len
  have hi:i<(t.length:Int):=by omega
  have hg:=nth_get (l:=t) h0 hi
  have ht:∀ f:DAmt→Int,Kx.tot f (t.set i.toNat (withBal (nth t i) b))=Kx.tot f t - f (nth t i).bal+f b:=fun f=>by
    rw [tot_set f t i.toNat _ _ hg]
    have e1:has1 f (nth t i)=f (nth t i).bal:=if_pos hv
    have e2:has1 f (withBal (nth t i) b)=f b:=if_pos hv
    rw [e1,e2]
  have hbal:∀ r,r ∈ t.set i.toNat (withBal (nth t i) b)→amtOk r.bal=true:=fun r hr=>by
    rcases List.mem_or_eq_of_mem_set hr with q | q
    · exact h.bal r q
    · rw [q];exact hb
  have hl':(t.set i.toNat (withBal (nth t i) b)).length=5:=by rw [List.length_set];exact hl
  refine ⟨⟨hl',?_,?_,?_,hbal,?_,?_⟩,ht⟩
  · rw [(live_bal h0 hi b (by omega)).1];exact h.live0
  · rw [(live_bal h0 hi b (by omega)).2];exact h.par0
  · intro r hr hd
    rcases List.mem_or_eq_of_mem_set hr with q | q
    · exact h.dead r q hd
    · rw [q] at hd
      have:(nth t i).live=false:=hd
      rw [hv] at this;cases this
  · intro k r hr hlv
    rw [leads_bal h0 hi]
    have hk:k<(t.set i.toNat (withBal (nth t i) b)).length:=lt_of_some hr
    have e1:=nth_of hr
    have e2:=(live_bal h0 hi b (j:=(k:Int)) (by omega)).1
    rw [e1,hlv] at e2
    exact h.lead k (nth t (k:Int)) (nth_get (l:=t) (i:=(k:Int)) (by omega) (by omega)) e2.symm
  · obtain ⟨a1,a2,a3⟩:=sumLive_tot _ ⟨0,0,0⟩ 0 hbal (by omega) (by omega) zero_in
    have e:sumLive ⟨0,0,0⟩ (t.set i.toNat (withBal (nth t i) b))=⟨Kx.tot DAmt.pages t - (nth t i).bal.pages+b.pages,Kx.tot DAmt.rent t - (nth t i).bal.rent+b.rent,Kx.tot DAmt.cpu t - (nth t i).bal.cpu+b.cpu⟩:=by
      generalize sumLive ⟨0,0,0⟩ (t.set i.toNat (withBal (nth t i) b))=q at *
      obtain ⟨q1,q2,q3⟩:=q
      simp only [Int.zero_add,ht] at a1 a2 a3
      subst a1 a2 a3
      rfl
    rw [e];exact hs
theorem minus_ok {a b:DAmt} (h:amtFits a b=true):(amtMinus b a)=⟨b.pages - a.pages,b.rent - a.rent,b.cpu - a.cpu⟩∧amtOk ⟨b.pages - a.pages,b.rent - a.rent,b.cpu - a.cpu⟩=true:=by
  unfold amtFits at h
  simp only [Bool.and_eq_true,decide_eq_true_eq] at h
  obtain ⟨h1,h2,h3,h4,h5⟩:=h
  have a1:=amtOk_iff.1 h1
  have a2:=amtOk_iff.1 h2
  refine ⟨?_,amtOk_iff.2 ⟨by simp only;omega,by simp only;omega,by simp only;omega⟩⟩
  unfold amtMinus
  rw [wrap_ok (by omega) (by omega),wrap_ok (by omega) (by omega),wrap_ok (by omega) (by omega)]
theorem pay_keep {t:List DRes} {f:Int} {a:DAmt} (h:(treePay t f a).2=true):Tr (treePay t f a).1∧amtOk a=true∧∀ g:DAmt→Int,(∀ x y:DAmt,g ⟨x.pages - y.pages,x.rent - y.rent,x.cpu - y.cpu⟩=g x - g y)→tot g (treePay t f a).1=tot g t - g a:=by
  obtain ⟨h1,h2⟩:=pay_good h
  have hT:=treeOk_iff.1 h1
  obtain ⟨f0,f4⟩:=liveAt_rng h2
  have hlv:(nth t f).live=true:=by
    unfold liveAt at h2
    simp only [Bool.and_eq_true] at h2
    exact h2.2
  unfold treePay at *
  rw [h1,h2] at *
  simp only [Bool.and_self,if_true] at *
  cases hf:amtFits a (nth t f).bal
  · rw [hf] at h;simp at h
  · simp only [if_true]
    obtain ⟨e,ok⟩:=minus_ok hf
    have ha:amtOk a=true:=by
      unfold amtFits at hf
      simp only [Bool.and_eq_true] at hf
      exact hf.1
    rw [e]
    have hl:=hT.len
    have hm:nth t f ∈ t:=nth_mem f0 (by omega)
    have hS:=amtOk_iff.1 hT.sum
    obtain ⟨t1,t2,t3⟩:=hT.tot
    have ha':=amtOk_iff.1 ha
    have ok':=amtOk_iff.1 ok
    obtain ⟨_,q⟩:=sumLive_ge t ⟨0,0,0⟩ 0 hT.bal (by omega) (by omega) ⟨by decide,by decide⟩ ⟨by decide,by decide⟩ ⟨by decide,by decide⟩
    obtain ⟨q1,q2,q3⟩:=q _ hm hlv
    simp only at ok'
    obtain ⟨r1,r2⟩:=hT.set f0 f4 hlv ok (amtOk_iff.2 ⟨by simp only;omega,by simp only;omega,by simp only;omega⟩)
    refine ⟨r1,ha,fun g hg=>?_⟩
    rw [r2 g,hg]
    omega
end Go.Kx
/- Plain laws: who is killed, who runs, who wakes, as the laws ask. No program in sight. -/
namespace Go.Kx
open Go
set_option linter.unusedVariables false
set_option linter.unusedSimpArgs false
set_option maxRecDepth 10000
theorem thr_rng {p:DPart} {now y:Int} (h:y ∈ threads p now):0≤y∧y≤9:=(threads_at h).2
theorem thr_live {p:DPart} {now y:Int} (h:y ∈ threads p now):(nth p.heap.arena y).kind=4∧expired (nth p.heap.arena y) now=false:=by
  obtain ⟨ok,y0,y9⟩:=threads_at h
  have ar:=partOk_ar ok
  unfold threads at h
  rw [if_pos ok] at h
  obtain ⟨i,b,h1,h2,h3⟩:=collI_mem.1 h
  simp only [Nat.zero_add,Bool.and_eq_true,beq_iff_eq] at h2 h3
  obtain ⟨hb,hk⟩:=h2
  subst h3
  rw [hb] at h1
  refine ⟨hk,reach_live ar (((reach_is ar now).2 i).1 h1) fun q=>?_⟩
  rw [q,ar.kind0] at hk
  cases hk
theorem res_live {p:DPart} (h:partOk p=true) (i:Int):liveAt p.tree (resOf p i)=true:=by
  have hT:=treeOk_iff.1 (partOk_tree h)
  unfold resOf
  split
  · rename_i q
    simp only [Bool.and_eq_true] at q
    exact q.2
  · unfold liveAt
    rw [hT.live0];rfl
theorem nextOf_run {p:DPart} {now:Int} (h:noRun p now=false):nextOf p now ∈ runnable p now:=by
  unfold noRun at h
  simp only [Bool.or_eq_false_iff] at h
  exact runNext_mem _ _ _ h.1
theorem run_pay {p:DPart} {now:Int} (ok:partOk p=true) {i:Int} (h:i ∈ runnable p now):(treePay p.tree (resOf p (nth p.heap.arena i).res) ⟨0,0,1⟩).2=true:=by
  unfold runnable at h
  obtain ⟨_,hm⟩:=List.mem_filter.1 h
  unfold mayRun at hm
  simp only [Bool.and_eq_true,decide_eq_true_eq] at hm
  have hT:=treeOk_iff.1 (partOk_tree ok)
  obtain ⟨r0,r4⟩:=resOf_rng p (nth p.heap.arena i).res
  have hl:=hT.len
  have hb:=hT.bal _ (nth_mem (l:=p.tree) (i:=resOf p (nth p.heap.arena i).res) r0 (by omega))
  have hb':=amtOk_iff.1 hb
  have hc:(nth p.tree (resOf p (nth p.heap.arena i).res)).bal.cpu > 0:=hm.2
  have hf:amtFits ⟨0,0,1⟩ (nth p.tree (resOf p (nth p.heap.arena i).res)).bal=true:=by
    unfold amtFits
    rw [hb]
    simp only [show amtOk ⟨0,0,1⟩=true from by decide,Bool.true_and,Bool.and_eq_true,decide_eq_true_eq]
    exact ⟨by omega,by omega,by omega⟩
  unfold treePay
  rw [partOk_tree ok,res_live ok,hf]
  rfl
theorem run_sum {p:DPart} {now:Int} (ok:partOk p=true) {i:Int} (h:i ∈ runnable p now):(treeSum (treePay p.tree (resOf p (nth p.heap.arena i).res) ⟨0,0,1⟩).1).cpu=(treeSum p.tree).cpu - 1∧(treeSum (treePay p.tree (resOf p (nth p.heap.arena i).res) ⟨0,0,1⟩).1).pages=(treeSum p.tree).pages∧(treeSum (treePay p.tree (resOf p (nth p.heap.arena i).res) ⟨0,0,1⟩).1).rent=(treeSum p.tree).rent:=by
  have hT:=treeOk_iff.1 (partOk_tree ok)
  obtain ⟨q,_,k⟩:=pay_keep (run_pay ok h)
  unfold treeSum
  rw [if_pos (treeOk_iff.2 q),if_pos (partOk_tree ok),q.tot.1,q.tot.2.1,q.tot.2.2,hT.tot.1,hT.tot.2.1,hT.tot.2.2,k DAmt.cpu (fun _ _=>rfl),k DAmt.pages (fun _ _=>rfl),k DAmt.rent (fun _ _=>rfl)]
  exact ⟨rfl,Int.sub_zero _,Int.sub_zero _⟩
structure Sk where
  gen:Int
  kind:Int
  box:Int
  til:Int
  links:List Int
def skel (o:DObj):Sk:=⟨o.gen,o.kind,o.box,o.til,o.links⟩
theorem collI_by {α γ β:Type} {s:α→γ} {p:Nat→α→Bool} {q:Nat→γ→Bool} {h:Nat→α→β} {r:Nat→γ→β} (hp:∀ k y,p k y=q k (s y)) (hh:∀ k y,h k y=r k (s y)):∀ (l:List α) (k:Nat),collI p h k l=collI q r k (l.map s)
  | [],_=>rfl
  | y::l,k=>by
    unfold collI
    simp only [List.map_cons,collI]
    rw [hp,hh,collI_by hp hh l (k+1)]
theorem nth_skel {l:List DObj} (i:Int) (h0:0≤i) (h1:i<(l.length:Int)):(l.map skel)[i.toNat]?=some (skel (nth l i)):=by
  rw [List.getElem?_map,nth_get h0 h1];rfl
theorem skel_nth {l m:List DObj} (h:l.map skel=m.map skel) {i:Int} (h0:0≤i) (h1:i<(l.length:Int)):skel (nth l i)=skel (nth m i):=by
  have hl:l.length=m.length:=by simpa using congrArg List.length h
  have a:=nth_skel i h0 h1
  rw [h,nth_skel i h0 (by omega)] at a
  exact (Option.some.inj a).symm
theorem edges_skel {l m:List DObj} (h:l.map skel=m.map skel) {i:Int} (h0:0≤i) (h1:i<(l.length:Int)):edges l i=edges m i:=by
  have e:=skel_nth h h0 h1
  have ek:(nth l i).kind=(nth m i).kind:=congrArg Sk.kind e
  have el:(nth l i).links=(nth m i).links:=congrArg Sk.links e
  unfold edges
  have key:∀ x:List DObj,collI (edge x i) (fun k _=>(k:Int)) 0 x=collI (fun (k:Nat) (y:Sk)=>(decide ((k:Int) > 0)&&(y.kind != 0&&((y.box==i)&&((nth x i).kind==1)))) || (nth x i).links.contains (k:Int)) (fun k _=>(k:Int)) 0 (x.map skel):=fun x=>collI_by (s:=skel) (p:=edge x i) (q:=fun (k:Nat) (y:Sk)=>(decide ((k:Int) > 0)&&(y.kind != 0&&((y.box==i)&&((nth x i).kind==1)))) || (nth x i).links.contains (k:Int)) (h:=fun k _=>(k:Int)) (r:=fun k _=>(k:Int)) (fun k y=>rfl) (fun k y=>rfl) x 0
  rw [key l,key m,h,ek,el]
theorem expired_skel {a b:DObj} (h:skel a=skel b) (now:Int):expired a now=expired b now:=by
  unfold expired
  rw [show a.kind=b.kind from congrArg Sk.kind h,show a.til=b.til from congrArg Sk.til h]
theorem reaches_skel {l m:List DObj} (hl:Ar l) (h:l.map skel=m.map skel) {now k:Int} (r:Reaches l now k):Reaches m now k:=by
  have hlen:=hl.len
  induction r with
  | root=>exact .root
  | step q1 q2 q3 ih =>
    obtain ⟨i0,i9⟩:=q1.rng hl
    obtain ⟨k0,k1⟩:=edges_rng q2
    rw [edges_skel h i0 (by omega)] at q2
    rw [expired_skel (skel_nth h k0 k1)] at q3
    exact .step ih q2 q3
theorem reach_skel {l m:List DObj} (hl:Ar l) (hm:Ar m) (h:l.map skel=m.map skel) (now:Int):reach l now=reach m now:=by
  have a:=reach_is hl now
  have b:=reach_is hm now
  refine List.ext_getElem? fun k=>?_
  have hk:(reach l now)[k]?=some true ↔ (reach m now)[k]?=some true:=by
    rw [a.2 k,b.2 k]
    exact ⟨fun q=>reaches_skel hl h q,fun q=>reaches_skel hm h.symm q⟩
  cases ha:(reach l now)[k]? with
  | none =>
    have:=List.getElem?_eq_none_iff.1 ha
    exact (List.getElem?_eq_none (by rw [b.1];rw [a.1] at this;exact this)).symm
  | some x =>
    have hlt:=lt_of_some ha
    have hkm:k<(reach m now).length:=by rw [b.1];rw [a.1] at hlt;exact hlt
    have hb:(reach m now)[k]?=some ((reach m now)[k]'hkm):=List.getElem?_eq_getElem _
    rw [ha,hb] at hk
    rw [hb]
    generalize (reach m now)[k]'hkm=y at *
    cases x <;> cases y <;> simp at hk ⊢
theorem Ar.skel {l m:List DObj} (hl:Ar l) (h:l.map skel=m.map skel) (ok:∀ o,o ∈ m→objOk o=true):Ar m:=by
  have hlen:l.length=m.length:=by simpa using congrArg List.length h
  have h10:=hl.len
  have e0:=skel_nth h (i:=0) (by omega) (by omega)
  refine ⟨by omega,?_,?_,?_,ok,?_,?_⟩
  · rw [← hl.kind0];exact (congrArg Sk.kind e0).symm
  · rw [← hl.box0];exact (congrArg Sk.box e0).symm
  · rw [← hl.til0];exact (congrArg Sk.til e0).symm
  · intro o ho y hy y0
    obtain ⟨k,hk⟩:=List.getElem?_of_mem ho
    have hkl:=lt_of_some hk
    have e:=skel_nth h (i:=(k:Int)) (by omega) (by omega)
    have el:(nth l (k:Int)).links=o.links:=by rw [show o=nth m (k:Int) from (nth_of hk).symm];exact congrArg Sk.links e
    have hm:=(hl.at (i:=(k:Int)) (by omega) (by omega)).2
    have y9:=((objOk_links (ok o ho)).2 y hy).2
    have:=hl.links _ hm y (by rw [el];exact hy) y0
    rwa [show (nth l y).kind=(nth m y).kind from congrArg Sk.kind (skel_nth h y0 (by omega))] at this
  · intro k o hk k0 hne b0
    have hkl:=lt_of_some hk
    have e:=skel_nth h (i:=(k:Int)) (by omega) (by omega)
    have eo:o=nth m (k:Int):=(nth_of hk).symm
    have eb:(nth l (k:Int)).box=o.box:=by rw [eo];exact congrArg Sk.box e
    have ek:(nth l (k:Int)).kind=o.kind:=by rw [eo];exact congrArg Sk.kind e
    have b9:=inR_iff.1 (objOk_box (ok o (List.mem_of_getElem? hk)) (by simpa using hne)).1
    have:=hl.box k (nth l (k:Int)) (nth_get (l:=l) (i:=(k:Int)) (by omega) (by omega)) k0 (by rw [ek];exact hne) (by rw [eb];exact b0)
    rw [eb] at this
    rwa [show (nth l o.box).kind=(nth m o.box).kind from congrArg Sk.kind (skel_nth h b0 (by omega))] at this
end Go.Kx
