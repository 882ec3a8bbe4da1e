/- Plain laws: a collector's step; what is collected. No program in sight. -/
import Derived.Test.YtljikolgijlbeaaGreatLStep
namespace Go.Kx
open Go
set_option linter.unusedVariables false
set_option linter.unusedSimpArgs false
set_option maxRecDepth 10000
def shade (h:DHeap) (k:Int):DHeap :=
  if (h.gc.phase==0)&&(((nth h.arena k).kind != 0)&&!(nth h.arena k).mark) then
    DHeap.mk (h.arena.set k.toNat (marked (nth h.arena k) true)) (DGc.mk h.gc.phase h.gc.pos h.gc.round (if h.gc.grey.contains k then h.gc.grey else h.gc.grey++[k]))
  else h
theorem appB {l:List Int} {k:Int} (h:l.length+1<BIG):app l [k]=some (l++[k]):=by
  unfold app;rw [if_pos (by simpa using h)]
theorem i_shade {N:Nat} (hN:BIG≤N) {h:DHeap} {k:Int} (h0:0≤k) (h1:k<(h.arena.length:Int)) (hg:h.gc.grey.length+1<BIG):F_i_shade N h k=some (shade h k):=by
  have hg':h.gc.grey.length<BIG:=by omega
  unfold F_i_shade shade
  rw [← Bool.cond_eq_ite]
  simp only [idx_ok (l:=h.arena) h0 h1,z_Contains hN hg',appB hg,Option.bind_some,bne]
  cases h.gc.phase==0
  · rfl
  cases (nth h.arena k).kind==0
  · cases (nth h.arena k).mark
    · cases h.gc.grey.contains k <;> rfl
    · rfl
  · rfl
theorem shade_arena (h:DHeap) (k:Int):(shade h k).arena.length=h.arena.length:=by
  unfold shade;split <;> simp
theorem shade_grey (h:DHeap) (k:Int):(shade h k).gc.grey.length≤h.gc.grey.length+1:=by
  unfold shade
  split
  · simp only
    split
    · exact Nat.le_succ _
    · simp
  · exact Nat.le_succ _
theorem nth_set {l:List DObj} {i j:Int} {o:DObj} (h0:0≤i) (h1:i<(l.length:Int)) (hj:0≤j):nth (l.set i.toNat o) j=if i=j then o else nth l j:=by
  unfold nth
  rw [List.getElem?_set]
  by_cases e:i=j
  · subst e
    rw [if_pos rfl,if_pos (by omega),if_pos rfl];rfl
  · rw [if_neg (by omega),if_neg e]
theorem shade_exp {h:DHeap} {k j:Int} {now:Int} (h0:0≤k) (h1:k<(h.arena.length:Int)) (hj:0≤j):expired (nth (shade h k).arena j) now=expired (nth h.arena j) now:=by
  unfold shade
  split
  · simp only
    rw [nth_set h0 h1 hj]
    split
    · rename_i e;subst e;rfl
    · rfl
  · rfl
def shadeIf (l:List DObj) (now:Int) (h:DHeap) (k:Int):DHeap:=if expired (nth l k) now then h else shade h k
def lastGrey (h:DHeap):Int:=nth h.gc.grey ((h.gc.grey.length:Int) - 1)
def lessGrey (h:DHeap):List Int:=h.gc.grey.take (h.gc.grey.length - 1)
def markStep (h:DHeap) (now:Int):DHeap :=
  if h.gc.grey.length=0 then DHeap.mk h.arena (DGc.mk 1 0 h.gc.round h.gc.grey)
  else if (lastGrey h != 0)&&expired (nth h.arena (lastGrey h)) now then DHeap.mk h.arena (DGc.mk h.gc.phase h.gc.pos h.gc.round (lessGrey h))
  else (edges h.arena (lastGrey h)).foldl (shadeIf h.arena now) (DHeap.mk (h.arena.set (lastGrey h).toNat (marked (nth h.arena (lastGrey h)) true)) (DGc.mk h.gc.phase h.gc.pos h.gc.round (lessGrey h)))
def ht (h:DHeap):List DObj×Int×Int×Int×List Int:=(h.arena,h.gc.phase,h.gc.pos,h.gc.round,h.gc.grey)
theorem shadeLoop {N:Nat} (hN:BIG≤N) {l:List DObj} {now:Int} {e:List Int} (he:∀ y,y ∈ e→0≤y∧y≤9) (hel:e.length≤10) {h:DHeap} (hl:h.arena.length=10) {G:Nat} (hg:h.gc.grey.length≤G) (hG:G+20<BIG)
    (hx:∀ j,0≤j→expired (nth h.arena j) now=expired (nth l j) now)
    {body:Int×List DObj×Int×Int×Int×List Int→Option ((Int×List DObj×Int×Int×Int×List Int)⊕(Int×List DObj×Int×Int×Int×List Int))}
    (hs:∀ (k:Nat) (t:DHeap) (y:Int),e[k]?=some y→k<e.length→t.arena.length=10→t.gc.grey.length+1<BIG→(∀ j,0≤j→expired (nth t.arena j) now=expired (nth l j) now)→0≤y→y≤9→body ((k:Int),ht t)=some (.inl (((k+1:Nat):Int),ht (shadeIf l now t y))))
    (hend:∀ t,body ((e.length:Int),ht t)=some (.inr ((e.length:Int),ht t))) :
    iter body N (0,ht h)=some ((e.length:Int),ht (e.foldl (shadeIf l now) h)):=by
  have hB:e.length<BIG:=by omega
  rw [show ((0:Int),ht h)=(fun (k:Nat) (t:DHeap)=>((k:Int),ht t)) 0 h from rfl,
    iter_fold e (fun (k:Nat) (t:DHeap)=>((k:Int),ht t)) (fun _ t y=>shadeIf l now t y) (fun t=>((e.length:Int),ht t)) (fun k t=>t.arena.length=10∧t.gc.grey.length≤G+k∧∀ j,0≤j→expired (nth t.arena j) now=expired (nth l j) now) ?_ ?_ (Nat.lt_of_lt_of_le hB hN) ⟨hl,hg,hx⟩,foldI_const]
  · intro k t y hy hk ⟨i1,i2,i3⟩
    obtain ⟨y0,y9⟩:=he y (List.mem_of_getElem? hy)
    refine ⟨hs k t y hy hk i1 (by omega) i3 y0 y9,?_⟩
    unfold shadeIf
    split
    · exact ⟨i1,by omega,i3⟩
    · have:=shade_grey t y
      exact ⟨by rw [shade_arena,i1],by omega,fun j hj=>by rw [shade_exp y0 (by omega) hj,i3 j hj]⟩
  · intro t _
    exact hend t
theorem heapOk_grey {h:DHeap} (q:heapOk h=true):∀ y,y ∈ h.gc.grey→0≤y∧y≤9:=by
  unfold heapOk at q
  simp only [Bool.and_eq_true,allI_iff] at q
  intro y hy
  obtain ⟨k,hk⟩:=List.getElem?_of_mem hy
  have:=q.2.2.2 k y hk
  unfold greyP at this
  rw [Bool.and_eq_true,inR_iff] at this
  exact this.1
theorem lastGrey_rng {h:DHeap} (q:heapOk h=true) (hg:h.gc.grey.length ≠ 0):0≤lastGrey h∧lastGrey h≤9:=heapOk_grey q _ (nth_mem (by omega) (by omega))
theorem grey_sub {g:List Int} (hg:g.length ≠ 0) (hB:g.length<BIG):IntKind.i64.wrap ((g.length:Int) - 1)=((g.length - 1:Nat):Int)∧sub g 0 ((g.length - 1:Nat):Int)=some (g.take (g.length - 1)):=by
  have:g.length<16777216:=hB
  exact ⟨by rw [wrap_ok (by omega) (by omega)];omega,sub_take (by omega)⟩
def fresh0 (l:List DObj):List DObj:=l.set 0 (marked (nth l 0) true)
def sweepFree (h:DHeap) (now:Int):Bool:=(h.gc.pos != 0)&&(((nth h.arena h.gc.pos).kind != 0)&&(expired (nth h.arena h.gc.pos) now || !(nth h.arena h.gc.pos).mark))
def swept (h:DHeap) (now:Int):List DObj:=if sweepFree h now then (arenaFree h.arena h.gc.pos).1 else h.arena.set h.gc.pos.toNat (marked (nth h.arena h.gc.pos) false)
def sweepStep (h:DHeap) (now:Int):DHeap×Int :=
  (if h.gc.pos==9 then DHeap.mk (fresh0 (swept h now)) (DGc.mk 0 0 (if 1000000<IntKind.i64.wrap (h.gc.round+1) then 1000000 else IntKind.i64.wrap (h.gc.round+1)) [0])
    else DHeap.mk (swept h now) (DGc.mk h.gc.phase (h.gc.pos+1) h.gc.round h.gc.grey),if sweepFree h now then h.gc.pos else -1)
def gcStep (h:DHeap) (now:Int):DHeap×Int:=if heapOk h then (if h.gc.phase==1 then sweepStep h now else (markStep h now, -1)) else (h, -1)
theorem heapOk_phase {h:DHeap} (q:heapOk h=true):(h.gc.phase=0)∨(h.gc.phase=1∧0≤h.gc.pos∧h.gc.pos≤9):=by
  unfold heapOk phaseOk at q
  simp only [Bool.and_eq_true,Bool.or_eq_true,beq_iff_eq,inR_iff] at q
  rcases q.2.1 with ⟨h1,_⟩ | ⟨h1,h2,_⟩
  · exact .inl h1
  · exact .inr ⟨h1,h2⟩
theorem arenaFree_len (l:List DObj) (i:Int):(arenaFree l i).1.length=l.length:=by
  unfold arenaFree;split <;> simp
theorem swept_len (h:DHeap) (now:Int):(swept h now).length=h.arena.length:=by
  unfold swept
  split
  · exact arenaFree_len _ _
  · simp
theorem pos10 {n:Int} (h0:0≤n) (h9:n≤9):((n+1:Int)==10)=(n==9)∧IntKind.i64.wrap (n+1)=n+1:=by
  rw [wrap_ok (by omega) (by omega)]
  exact ⟨by rw [Bool.eq_iff_iff];simp;omega,rfl⟩
theorem i_sweepStep {N:Nat} (hN:BIG≤N) {h:DHeap} (q:heapOk h=true) (hp:h.gc.phase=1) (h1:szL sz_DObj h.arena<BIG) (now:Int):F_i_sweepStep N h now=some (sweepStep h now):=by
  have ha:=heapOk_ar q
  have hr:0≤h.gc.pos∧h.gc.pos≤9:=by
    rcases heapOk_phase q with e | e
    · rw [hp] at e;cases e
    · exact e.2
  obtain ⟨e1,e2⟩:=pos10 hr.1 hr.2
  have hsl:=swept_len h now
  have e0:idx (swept h now) 0=some (nth (swept h now) 0):=idx_ok (by omega) (by rw [hsl,ha.len];decide)
  unfold F_i_sweepStep sweepStep
  simp only [(ha.at hr.1 hr.2).1,i_Expired,i_ArenaFree hN h1,Option.bind_some,bAnd,bOr,e1,e2]
  rw [show (h.gc.pos != 0&&((nth h.arena h.gc.pos).kind != 0&&(expired (nth h.arena h.gc.pos) now || !(nth h.arena h.gc.pos).mark)))=sweepFree h now from rfl]
  have hsw:(bif sweepFree h now then some (h.gc.pos,(arenaFree h.arena h.gc.pos).1) else some (-1,h.arena.set h.gc.pos.toNat (DObj.mk (nth h.arena h.gc.pos).gen (nth h.arena h.gc.pos).kind (nth h.arena h.gc.pos).box (nth h.arena h.gc.pos).res (nth h.arena h.gc.pos).til (nth h.arena h.gc.pos).pages (nth h.arena h.gc.pos).wait (nth h.arena h.gc.pos).got (nth h.arena h.gc.pos).ran false (nth h.arena h.gc.pos).links (nth h.arena h.gc.pos).data (nth h.arena h.gc.pos).queue)):Option (Int×List DObj))=some (if sweepFree h now then h.gc.pos else -1,swept h now):=by
    unfold swept
    cases sweepFree h now <;> rfl
  rw [hsw]
  simp only [Option.bind_some,e0]
  cases h.gc.pos==9 <;> rfl
theorem h_eta (t:DHeap):DHeap.mk t.arena (DGc.mk t.gc.phase t.gc.pos t.gc.round t.gc.grey)=t:=rfl
theorem i_GcStep {N:Nat} (hN:BIG≤N) {h:DHeap} (h1:szL sz_DObj h.arena<BIG) (h2:h.gc.grey.length+20<BIG) (now:Int):F_i_GcStep N h now=some (gcStep h now):=by
  have h2':h.gc.grey.length<BIG:=by omega
  unfold F_i_GcStep gcStep
  simp only [i_copyHeap hN h1 h2',i_HeapOk hN h1 h2',Option.bind_some]
  cases q:heapOk h
  · rfl
  have ha:=heapOk_ar q
  simp only [Bool.not_true,cond_false,if_true]
  cases hp:h.gc.phase==1
  · simp only [cond_false,Bool.false_eq_true,if_false]
    unfold markStep
    by_cases hg:h.gc.grey.length=0
    · have:((h.gc.grey.length:Int)==0)=true:=by simp [hg]
      rw [this,if_pos hg];rfl
    · have:((h.gc.grey.length:Int)==0)=false:=beq_eq_false_iff_ne.2 (by omega)
      obtain ⟨g1,g2⟩:=grey_sub hg h2'
      obtain ⟨l0,l9⟩:=lastGrey_rng q hg
      obtain ⟨e1,e2⟩:=edges_ok ha (lastGrey h)
      have eg:idx h.gc.grey ((h.gc.grey.length - 1:Nat):Int)=some (lastGrey h):=by
        rw [idx_ok (l:=h.gc.grey) (i:=((h.gc.grey.length - 1:Nat):Int)) (by omega) (by omega)]
        unfold lastGrey
        rw [show ((h.gc.grey.length:Int) - 1)=((h.gc.grey.length - 1:Nat):Int) by omega]
      rw [this,if_neg hg,g1]
      simp only [cond_false,eg,g2,(ha.at l0 l9).1,i_Expired,Option.bind_some]
      rw [show (bif lastGrey h != 0 then some (expired (nth h.arena (lastGrey h)) now) else some false:Option Bool)=some ((lastGrey h != 0)&&expired (nth h.arena (lastGrey h)) now) from bAnd _ _]
      simp only [Option.bind_some]
      cases hc:((lastGrey h != 0)&&expired (nth h.arena (lastGrey h)) now)
      · simp only [cond_false,Bool.false_eq_true,if_false]
        rw [i_edgesOf hN ha l0 l9]
        simp only [Option.bind_some]
        rw [show ((0:Int),h.arena.set (lastGrey h).toNat (DObj.mk (nth h.arena (lastGrey h)).gen (nth h.arena (lastGrey h)).kind (nth h.arena (lastGrey h)).box (nth h.arena (lastGrey h)).res (nth h.arena (lastGrey h)).til (nth h.arena (lastGrey h)).pages (nth h.arena (lastGrey h)).wait (nth h.arena (lastGrey h)).got (nth h.arena (lastGrey h)).ran true (nth h.arena (lastGrey h)).links (nth h.arena (lastGrey h)).data (nth h.arena (lastGrey h)).queue),h.gc.phase,h.gc.pos,h.gc.round,h.gc.grey.take (h.gc.grey.length - 1)) =
          ((0:Int),ht (DHeap.mk (h.arena.set (lastGrey h).toNat (marked (nth h.arena (lastGrey h)) true)) (DGc.mk h.gc.phase h.gc.pos h.gc.round (lessGrey h)))) from rfl,
          shadeLoop hN (l:=h.arena) (now:=now) e1 e2 (h:=DHeap.mk (h.arena.set (lastGrey h).toNat (marked (nth h.arena (lastGrey h)) true)) (DGc.mk h.gc.phase h.gc.pos h.gc.round (lessGrey h))) (by simp [ha.len]) (G:=h.gc.grey.length) (by unfold lessGrey;simp) h2
            (fun j hj=>by
              simp only
              rw [nth_set l0 (by rw [ha.len];omega) hj]
              split
              · rename_i e;rw [← e];rfl
              · rfl)]
        · rfl
        · intro k t y hy hk t1 t2 t3 y0 y9
          simp only [ht,lt_dec hk,cond_true,idx_nat,hy,Option.bind_some,(ha.at y0 y9).1,i_Expired,h_eta,i_shade hN y0 (show y<(t.arena.length:Int) by rw [t1];omega) t2,wrap1 (show k<BIG by omega)]
          unfold shadeIf
          cases expired (nth h.arena y) now <;> rfl
        · intro t
          simp only [ht,ge_dec,cond_false]
      · rfl
  · have hp1:h.gc.phase=1:=by simpa using hp
    simp only [cond_true,i_sweepStep hN q hp1 h1,Option.bind_some,if_true]
theorem sumL_same {α:Type} {f:α→Nat} {z:α}:∀ {l:List α} {k:Nat} {y:α},l[k]?=some y→f z=f y→sumL f (l.set k z)=sumL f l
  | x::l,0,y,h,e=>by simp at h;subst h;simp [sumL,e]
  | x::l,k+1,y,h,e=>by
    simp only [List.set_cons_succ,sumL]
    rw [sumL_same (l:=l) (k:=k) (y:=y) (by simpa using h) e]
theorem szL_same {l:List DObj} {i:Int} {z:DObj} (h0:0≤i) (h1:i<(l.length:Int)) (e:sz_DObj z=sz_DObj (nth l i)):szL sz_DObj (l.set i.toNat z)=szL sz_DObj l:=by
  unfold szL
  rw [sumL_same (nth_get h0 h1) e,List.length_set]
theorem shadeIf_props {l:List DObj} {now:Int}:∀ (e:List Int) (h:DHeap),(∀ y,y ∈ e→0≤y∧y≤9)→h.arena.length=10→wA h.arena →
    szL sz_DObj (e.foldl (shadeIf l now) h).arena=szL sz_DObj h.arena∧wA (e.foldl (shadeIf l now) h).arena∧(e.foldl (shadeIf l now) h).gc.grey.length≤h.gc.grey.length+e.length
  | [],h,_,_,hw=>⟨rfl,hw,Nat.le_refl _⟩
  | y::e,h,he,hl,hw=>by
    obtain ⟨y0,y9⟩:=he y (by simp)
    have hy:y<(h.arena.length:Int):=by rw [hl];omega
    have key:szL sz_DObj (shadeIf l now h y).arena=szL sz_DObj h.arena∧wA (shadeIf l now h y).arena∧(shadeIf l now h y).gc.grey.length≤h.gc.grey.length+1∧(shadeIf l now h y).arena.length=10:=by
      unfold shadeIf
      split
      · exact ⟨rfl,hw,Nat.le_succ _,hl⟩
      · refine ⟨?_,?_,shade_grey h y,by rw [shade_arena,hl]⟩
        · unfold shade
          split
          · exact szL_same y0 hy rfl
          · rfl
        · unfold shade
          split
          · exact wA_set hw (show wOk (marked (nth h.arena y) true) from hw (nth h.arena y) (nth_mem y0 hy))
          · exact hw
    obtain ⟨a1,a2,a3⟩:=shadeIf_props e (shadeIf l now h y) (fun z hz=>he z (by simp [hz])) key.2.2.2 key.2.1
    simp only [List.foldl_cons,List.length_cons]
    exact ⟨a1.trans key.1,a2,by omega⟩
theorem unl_sz (i:Int) (o:DObj):sz_DObj (unl i o)=sz_DObj o:=by
  unfold unl
  split
  · rfl
  · unfold sz_DObj;simp
theorem unl_w {i:Int} {o:DObj} (h:wOk o):wOk (unl i o):=by
  unfold unl
  split
  · exact h
  · exact h
theorem blank_w (g:Int):wOk (blank g):=by show (-9223372036854775808:Int)≤0;decide
theorem free_props {l:List DObj} (hw:wA l) (i:Int):szL sz_DObj (arenaFree l i).1≤szL sz_DObj l∧wA (arenaFree l i).1:=by
  unfold arenaFree
  split
  · refine ⟨?_,fun o ho=>?_⟩
    · show szL sz_DObj ((l.set i.toNat (blank (nth l i).gen)).map (unl i))≤_
      rw [szL_map (unl_sz i)]
      exact szL_set
    · obtain ⟨y,hy,rfl⟩:=List.mem_map.1 ho
      exact unl_w (wA_set hw (blank_w _) y hy)
  · exact ⟨Nat.le_refl _,hw⟩
theorem step_props {h:DHeap} (hw:wA h.arena) (now:Int):szL sz_DObj (gcStep h now).1.arena≤szL sz_DObj h.arena∧wA (gcStep h now).1.arena∧(gcStep h now).1.gc.grey.length≤h.gc.grey.length+10 ∧
    (decide ((gcStep h now).2 ≥ 0)=true→Ar h.arena∧0≤(gcStep h now).2∧(gcStep h now).2≤9):=by
  unfold gcStep
  split
  · rename_i q
    have ha:=heapOk_ar q
    have hl:=ha.len
    split
    · rename_i hp
      have hp:h.gc.phase=1:=by simpa using hp
      have hr:0≤h.gc.pos∧h.gc.pos≤9:=by
        rcases heapOk_phase q with e | e
        · rw [hp] at e;cases e
        · exact e.2
      have hs:szL sz_DObj (swept h now)≤szL sz_DObj h.arena∧wA (swept h now):=by
        unfold swept
        split
        · exact free_props hw _
        · exact ⟨Nat.le_of_eq (szL_same hr.1 (by rw [hl];omega) rfl),wA_set hw (show wOk (marked (nth h.arena h.gc.pos) false) from hw (nth h.arena h.gc.pos) (ha.at hr.1 hr.2).2)⟩
      have hsl:=swept_len h now
      have h0:(0:Int)<((swept h now).length:Int):=by rw [hsl,hl];decide
      refine ⟨?_,?_,?_,fun hd=>⟨ha,?_⟩⟩
      · unfold sweepStep fresh0
        simp only
        split
        · show szL sz_DObj ((swept h now).set (0:Int).toNat _)≤_
          rw [szL_same (z:=marked (nth (swept h now) 0) true) (Int.le_refl 0) h0 rfl];exact hs.1
        · exact hs.1
      · unfold sweepStep fresh0
        simp only
        split
        · exact wA_set hs.2 (show wOk (marked (nth (swept h now) 0) true) from hs.2 (nth (swept h now) 0) (nth_mem (Int.le_refl 0) h0))
        · exact hs.2
      · unfold sweepStep
        simp only
        split
        · simp
        · exact Nat.le_add_right _ _
      · unfold sweepStep at hd ⊢
        simp only at hd ⊢
        split
        · exact hr
        · rename_i hn
          rw [if_neg hn] at hd
          simp at hd
    · refine ⟨?_,?_,?_,fun hd=>by simp at hd⟩
      all_goals
        unfold markStep
        simp only
        split
        · first | exact Nat.le_refl _ | exact hw | exact Nat.le_add_right _ _
        · rename_i hg
          split
          · first | exact Nat.le_refl _ | exact hw | (unfold lessGrey;simp;omega)
          · obtain ⟨l0,l9⟩:=lastGrey_rng q hg
            obtain ⟨e1,e2⟩:=edges_ok ha (lastGrey h)
            obtain ⟨a1,a2,a3⟩:=shadeIf_props (l:=h.arena) (now:=now) (edges h.arena (lastGrey h)) (DHeap.mk (h.arena.set (lastGrey h).toNat (marked (nth h.arena (lastGrey h)) true)) (DGc.mk h.gc.phase h.gc.pos h.gc.round (lessGrey h))) e1 (by simp [hl]) (wA_set hw (show wOk (marked (nth h.arena (lastGrey h)) true) from hw (nth h.arena (lastGrey h)) (ha.at l0 l9).2))
            first
              | exact Nat.le_of_eq (a1.trans (szL_same l0 (by rw [hl];omega) rfl))
              | exact a2
              | (refine Nat.le_trans a3 ?_
                 unfold lessGrey
                 simp
                 omega)
  · exact ⟨Nat.le_refl _,hw,Nat.le_add_right _ _,fun hd=>by simp at hd⟩
structure Col where
  n:Int
  tree:List DRes
  heap:DHeap
def colStep (now:Int) (c:Col):Col :=
  if decide ((gcStep c.heap now).2 ≥ 0) then ⟨IntKind.i64.wrap (c.n+1),(treeBack c.tree (nth c.heap.arena (gcStep c.heap now).2).res ⟨(nth c.heap.arena (gcStep c.heap now).2).pages,0,0⟩).1,(gcStep c.heap now).1⟩
  else ⟨c.n,c.tree,(gcStep c.heap now).1⟩
def cols (now:Int):Nat→Col→Col
  | 0,c=>c
  | k+1,c=>cols now k (colStep now c)
def partCollect (p:DPart) (now steps:Int):DPart×Int :=
  if partOk p&&inR steps 0 100 then
    (DPart.mk p.label p.own (cols now steps.toNat ⟨0,p.tree,p.heap⟩).tree (cols now steps.toNat ⟨0,p.tree,p.heap⟩).heap p.taps p.next p.want p.spent p.press p.lost,(cols now steps.toNat ⟨0,p.tree,p.heap⟩).n)
  else (p,0)
def ct (k:Nat) (c:Col):Int×Int×List DRes×List DObj×Int×Int×Int×List Int:=(c.n,(k:Int),c.tree,c.heap.arena,c.heap.gc.phase,c.heap.gc.pos,c.heap.gc.round,c.heap.gc.grey)
structure Cin (S T G:Nat) (k:Nat) (c:Col):Prop where
  sz:szL sz_DObj c.heap.arena≤S
  tl:c.tree.length=T
  gl:c.heap.gc.grey.length≤G+10 * k
  w:wA c.heap.arena
theorem colStep_in {S T G k:Nat} {c:Col} (h:Cin S T G k c) (now:Int):Cin S T G (k+1) (colStep now c):=by
  obtain ⟨s1,s2,s3,_⟩:=step_props h.w now
  have a1:=h.sz
  have a2:=h.tl
  have a3:=h.gl
  unfold colStep
  split
  · exact ⟨by simp only;omega,by simp only;rw [treeBack_len,a2],by simp only;omega,s2⟩
  · exact ⟨by simp only;omega,a2,by simp only;omega,s2⟩
theorem cols_in {S T G:Nat} {now:Int}:∀ (j k:Nat) (c:Col),Cin S T G k c→Cin S T G (k+j) (cols now j c)
  | 0,k,c,h=>h
  | j+1,k,c,h=>by
    have:=cols_in (now:=now) j (k+1) (colStep now c) (colStep_in h now)
    rwa [show k+1+j=k+(j+1) by omega] at this
theorem colLoop {N:Nat} (hN:BIG≤N) {now steps:Int} (h0:0≤steps) (h1:steps≤100) {S T G:Nat} {c:Col} (hc:Cin S T G 0 c)
    {body:Int×Int×List DRes×List DObj×Int×Int×Int×List Int→Option ((Int×Int×List DRes×List DObj×Int×Int×Int×List Int)⊕(Int×Int×List DRes×List DObj×Int×Int×Int×List Int))}
    (hs:∀ (k:Nat) (c:Col),k<100→(k:Int)<steps→Cin S T G k c→body (ct k c)=some (.inl (ct (k+1) (colStep now c)))) (he:∀ c,body (ct steps.toNat c)=some (.inr (ct steps.toNat c))) :
    iter body N (ct 0 c)=some (ct steps.toNat (cols now steps.toNat c)):=by
  have e:∀ (j i:Nat) (c:Col),foldI (fun _ c (_:Unit)=>colStep now c) i c (List.replicate j ())=cols now j c:=by
    intro j
    induction j with
    | zero=>intro i c;rfl
    | succ j ih=>intro i c;rw [List.replicate_succ];unfold foldI cols;exact ih _ _
  rw [iter_fold (List.replicate steps.toNat ()) ct (fun _ c _=>colStep now c) (fun c=>ct steps.toNat c) (fun k c=>Cin S T G k c) ?_ ?_ (by have:16777216≤N:=hN;simp;omega) hc,e]
  · intro k c y hy hk hI
    have hk:k<steps.toNat:=by simpa using hk
    exact ⟨hs k c (by omega) (by omega) hI,colStep_in hI now⟩
  · intro c _
    rw [show (List.replicate steps.toNat ()).length=steps.toNat by simp]
    exact he c
theorem i_PartCollect {N:Nat} (hN:BIG≤N) {p:DPart} (hb:sz_DPart p≤3000000) (hw:wP p) (now steps:Int):F_i_PartCollect N p now steps=some (partCollect p now steps):=by
  have hB:(16777216:Nat)=BIG:=rfl
  have hb':sz_DPart p<BIG:=by omega
  have hz:szL sz_DObj p.heap.arena≤3000000∧p.heap.gc.grey.length≤3000000∧p.tree.length≤3000000:=by unfold sz_DPart sz_DHeap sz_DGc at hb;omega
  unfold F_i_PartCollect partCollect
  simp only [i_copyPart hN hb',i_PartOk hN hb',i_in,Option.bind_some,bOr]
  cases partOk p
  · rfl
  cases hst:inR steps 0 100
  · rfl
  have hr:=inR_iff.1 hst
  simp only [Bool.not_true,Bool.or_self,cond_false,Bool.and_self,if_true]
  rw [show ((0:Int),(0:Int),p.tree,p.heap.arena,p.heap.gc.phase,p.heap.gc.pos,p.heap.gc.round,p.heap.gc.grey)=ct 0 ⟨0,p.tree,p.heap⟩ from rfl,
    colLoop hN (now:=now) hr.1 hr.2 (S:=3000000) (T:=p.tree.length) (G:=3000000) (c:=⟨0,p.tree,p.heap⟩) ⟨hz.1,rfl,by simp only;omega,hw⟩]
  · rfl
  · intro k c hk hks hI
    have g1:szL sz_DObj c.heap.arena<BIG:=Nat.lt_of_le_of_lt hI.sz (by decide)
    have g2:c.heap.gc.grey.length+20<BIG:=by have:=hI.gl;omega
    have g3:c.tree.length<BIG:=by rw [hI.tl];omega
    have hd:decide ((k:Int)<steps)=true:=by simpa using hks
    obtain ⟨_,_,_,s4⟩:=step_props hI.w now
    show (bif decide ((k:Int)<steps) then _ else _)=_
    rw [hd]
    simp only [ct,cond_true,h_eta,i_GcStep hN g1 g2,Option.bind_some,wrap1 (show k<BIG by omega)]
    unfold colStep
    cases hv:decide ((gcStep c.heap now).2 ≥ 0)
    · rfl
    · obtain ⟨har,v0,v9⟩:=s4 hv
      simp only [cond_true,(har.at v0 v9).1,i_AmtOne,i_TreeBack hN g3,Option.bind_some,if_true];rfl
  · intro c
    have hd:decide (((steps.toNat:Nat):Int)<steps)=false:=by simp;omega
    show (bif decide (((steps.toNat:Nat):Int)<steps) then _ else _)=_
    rw [hd]
    simp only [ct,cond_false]
theorem collect_in {p:DPart} (hb:sz_DPart p≤3000000) (hw:wP p) (now steps:Int):sz_DPart (partCollect p now steps).1≤sz_DPart p+1000∧wP (partCollect p now steps).1:=by
  unfold partCollect
  split
  · rename_i h
    rw [Bool.and_eq_true,inR_iff] at h
    have hI:=cols_in (now:=now) steps.toNat 0 ⟨0,p.tree,p.heap⟩ (S:=szL sz_DObj p.heap.arena) (T:=p.tree.length) (G:=p.heap.gc.grey.length) ⟨Nat.le_refl _,rfl,Nat.le_refl _,hw⟩
    have a1:=hI.sz
    have a2:=hI.tl
    have a3:=hI.gl
    refine ⟨?_,hI.w⟩
    unfold sz_DPart sz_DHeap sz_DGc at hb ⊢
    simp only
    omega
  · exact ⟨Nat.le_add_right _ _,hw⟩
end Go.Kx
