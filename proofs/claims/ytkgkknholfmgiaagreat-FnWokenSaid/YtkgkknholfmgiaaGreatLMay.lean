/- Plain laws: who is killed, who runs, who wakes, as the laws ask. No program in sight. -/
import Derived.Test.YtkgkknholfmgiaaGreatLOp
import Derived.Test.YtkgkknholfmgiaaGreatLDrawP
namespace Go.Kx
open Go
set_option linter.unusedVariables false
set_option linter.unusedSimpArgs false
set_option maxRecDepth 10000
theorem thr_rng {p:DPart} {now y:Int} (h:y ∈ threads p now):0≤y∧y≤9:=(threads_at h).2
theorem pick_next {last pick:Int} (h0:0≤pick):∀ (l:List Int) (a b:Int),pick ∈ l→rnGo last pick a b l=pick
  | [],a,b,h=>by simp at h
  | y::l,a,b,h=>by
    unfold rnGo
    by_cases e:y=pick
    · subst e
      have:decide (y<0)=false:=decide_eq_false (by omega)
      simp [this]
    · have hm:pick ∈ l:=by
        rcases List.mem_cons.1 h with q | q
        · exact absurd q.symm e
        · exact q
      have e':(y==pick)=false:=by rw [beq_eq_false_iff_ne];exact e
      split
      · exact pick_next h0 l _ _ hm
      · rw [e']
        exact pick_next h0 l _ _ hm
theorem treeSum_cpu {t:List DRes} (h:Tr t):(treeSum t).cpu=tot DAmt.cpu t:=by
  unfold treeSum
  rw [if_pos (treeOk_iff.2 h)]
  exact h.tot.2.2
theorem res_live {p:DPart} (h:partOk p=true) (i:Int):liveAt p.tree (resOf p i)=true:=by
  have hT:=treeOk_iff.1 (partOk_tree h)
  unfold resOf
  split
  · rename_i q
    simp only [Bool.and_eq_true] at q
    exact q.2
  · unfold liveAt
    rw [hT.live0];rfl
theorem nextOf_run {p:DPart} {now:Int} (h:noRun p now=false):nextOf p now ∈ runnable p now:=by
  unfold noRun at h
  simp only [Bool.or_eq_false_iff] at h
  exact runNext_mem _ _ _ h.1
theorem run_pay {p:DPart} {now:Int} (ok:partOk p=true) {i:Int} (h:i ∈ runnable p now):(treePay p.tree (resOf p (nth p.heap.arena i).res) ⟨0,0,1⟩).2=true:=by
  unfold runnable at h
  obtain ⟨_,hm⟩:=List.mem_filter.1 h
  unfold mayRun at hm
  simp only [Bool.and_eq_true,decide_eq_true_eq] at hm
  have hT:=treeOk_iff.1 (partOk_tree ok)
  obtain ⟨r0,r4⟩:=resOf_rng p (nth p.heap.arena i).res
  have hl:=hT.len
  have hb:=hT.bal _ (nth_mem (l:=p.tree) (i:=resOf p (nth p.heap.arena i).res) r0 (by omega))
  have hb':=amtOk_iff.1 hb
  have hc:(nth p.tree (resOf p (nth p.heap.arena i).res)).bal.cpu > 0:=hm.2
  have hf:amtFits ⟨0,0,1⟩ (nth p.tree (resOf p (nth p.heap.arena i).res)).bal=true:=by
    unfold amtFits
    rw [hb]
    simp only [show amtOk ⟨0,0,1⟩=true from by decide,Bool.true_and,Bool.and_eq_true,decide_eq_true_eq]
    exact ⟨by omega,by omega,by omega⟩
  unfold treePay
  rw [partOk_tree ok,res_live ok,hf]
  rfl
theorem run_sum {p:DPart} {now:Int} (ok:partOk p=true) {i:Int} (h:i ∈ runnable p now):(treeSum (treePay p.tree (resOf p (nth p.heap.arena i).res) ⟨0,0,1⟩).1).cpu=(treeSum p.tree).cpu - 1∧(treeSum (treePay p.tree (resOf p (nth p.heap.arena i).res) ⟨0,0,1⟩).1).pages=(treeSum p.tree).pages∧(treeSum (treePay p.tree (resOf p (nth p.heap.arena i).res) ⟨0,0,1⟩).1).rent=(treeSum p.tree).rent:=by
  have hT:=treeOk_iff.1 (partOk_tree ok)
  obtain ⟨q,_,k⟩:=pay_keep (run_pay ok h)
  unfold treeSum
  rw [if_pos (treeOk_iff.2 q),if_pos (partOk_tree ok),q.tot.1,q.tot.2.1,q.tot.2.2,hT.tot.1,hT.tot.2.1,hT.tot.2.2,k DAmt.cpu (fun _ _=>rfl),k DAmt.pages (fun _ _=>rfl),k DAmt.rent (fun _ _=>rfl)]
  exact ⟨rfl,Int.sub_zero _,Int.sub_zero _⟩
structure Sk where
  gen:Int
  kind:Int
  box:Int
  til:Int
  links:List Int
def skel (o:DObj):Sk:=⟨o.gen,o.kind,o.box,o.til,o.links⟩
theorem collI_by {α γ β:Type} {s:α→γ} {p:Nat→α→Bool} {q:Nat→γ→Bool} {h:Nat→α→β} {r:Nat→γ→β} (hp:∀ k y,p k y=q k (s y)) (hh:∀ k y,h k y=r k (s y)):∀ (l:List α) (k:Nat),collI p h k l=collI q r k (l.map s)
  | [],_=>rfl
  | y::l,k=>by
    unfold collI
    simp only [List.map_cons,collI]
    rw [hp,hh,collI_by hp hh l (k+1)]
theorem nth_skel {l:List DObj} (i:Int) (h0:0≤i) (h1:i<(l.length:Int)):(l.map skel)[i.toNat]?=some (skel (nth l i)):=by
  rw [List.getElem?_map,nth_get h0 h1];rfl
theorem skel_nth {l m:List DObj} (h:l.map skel=m.map skel) {i:Int} (h0:0≤i) (h1:i<(l.length:Int)):skel (nth l i)=skel (nth m i):=by
  have hl:l.length=m.length:=by simpa using congrArg List.length h
  have a:=nth_skel i h0 h1
  rw [h,nth_skel i h0 (by omega)] at a
  exact (Option.some.inj a).symm
theorem edges_skel {l m:List DObj} (h:l.map skel=m.map skel) {i:Int} (h0:0≤i) (h1:i<(l.length:Int)):edges l i=edges m i:=by
  have e:=skel_nth h h0 h1
  have ek:(nth l i).kind=(nth m i).kind:=congrArg Sk.kind e
  have el:(nth l i).links=(nth m i).links:=congrArg Sk.links e
  unfold edges
  have key:∀ x:List DObj,collI (edge x i) (fun k _=>(k:Int)) 0 x=collI (fun (k:Nat) (y:Sk)=>(decide ((k:Int) > 0)&&(y.kind != 0&&((y.box==i)&&((nth x i).kind==1)))) || (nth x i).links.contains (k:Int)) (fun k _=>(k:Int)) 0 (x.map skel):=fun x=>collI_by (s:=skel) (p:=edge x i) (q:=fun (k:Nat) (y:Sk)=>(decide ((k:Int) > 0)&&(y.kind != 0&&((y.box==i)&&((nth x i).kind==1)))) || (nth x i).links.contains (k:Int)) (h:=fun k _=>(k:Int)) (r:=fun k _=>(k:Int)) (fun k y=>rfl) (fun k y=>rfl) x 0
  rw [key l,key m,h,ek,el]
theorem expired_skel {a b:DObj} (h:skel a=skel b) (now:Int):expired a now=expired b now:=by
  unfold expired
  rw [show a.kind=b.kind from congrArg Sk.kind h,show a.til=b.til from congrArg Sk.til h]
theorem reaches_skel {l m:List DObj} (hl:Ar l) (h:l.map skel=m.map skel) {now k:Int} (r:Reaches l now k):Reaches m now k:=by
  have hlen:=hl.len
  induction r with
  | root=>exact .root
  | step q1 q2 q3 ih =>
    obtain ⟨i0,i9⟩:=q1.rng hl
    obtain ⟨k0,k1⟩:=edges_rng q2
    rw [edges_skel h i0 (by omega)] at q2
    rw [expired_skel (skel_nth h k0 k1)] at q3
    exact .step ih q2 q3
theorem reach_skel {l m:List DObj} (hl:Ar l) (hm:Ar m) (h:l.map skel=m.map skel) (now:Int):reach l now=reach m now:=by
  have a:=reach_is hl now
  have b:=reach_is hm now
  refine List.ext_getElem? fun k=>?_
  have hk:(reach l now)[k]?=some true ↔ (reach m now)[k]?=some true:=by
    rw [a.2 k,b.2 k]
    exact ⟨fun q=>reaches_skel hl h q,fun q=>reaches_skel hm h.symm q⟩
  cases ha:(reach l now)[k]? with
  | none =>
    have:=List.getElem?_eq_none_iff.1 ha
    exact (List.getElem?_eq_none (by rw [b.1];rw [a.1] at this;exact this)).symm
  | some x =>
    have hlt:=lt_of_some ha
    have hkm:k<(reach m now).length:=by rw [b.1];rw [a.1] at hlt;exact hlt
    have hb:(reach m now)[k]?=some ((reach m now)[k]'hkm):=List.getElem?_eq_getElem _
    rw [ha,hb] at hk
    rw [hb]
    generalize (reach m now)[k]'hkm=y at *
    cases x <;> cases y <;> simp at hk ⊢
theorem goodSlot_skel {l m:List DObj} (hl:Ar l) (hm:Ar m) (h:l.map skel=m.map skel) (now part hd:Int):goodSlot l now part hd=goodSlot m now part hd:=by
  unfold goodSlot goodP
  rw [arenaOk_iff.2 hl,arenaOk_iff.2 hm,reach_skel hl hm h]
  cases ho:hOk hd
  · simp
  · obtain ⟨s0,s9⟩:=hSlot_ok ho
    have e:=skel_nth h s0 (by have:=hl.len;omega)
    rw [show (nth l (hSlot hd)).kind=(nth m (hSlot hd)).kind from congrArg Sk.kind e,show (nth l (hSlot hd)).gen=(nth m (hSlot hd)).gen from congrArg Sk.gen e]
theorem Ar.skel {l m:List DObj} (hl:Ar l) (h:l.map skel=m.map skel) (ok:∀ o,o ∈ m→objOk o=true):Ar m:=by
  have hlen:l.length=m.length:=by simpa using congrArg List.length h
  have h10:=hl.len
  have e0:=skel_nth h (i:=0) (by omega) (by omega)
  refine ⟨by omega,?_,?_,?_,ok,?_,?_⟩
  · rw [← hl.kind0];exact (congrArg Sk.kind e0).symm
  · rw [← hl.box0];exact (congrArg Sk.box e0).symm
  · rw [← hl.til0];exact (congrArg Sk.til e0).symm
  · intro o ho y hy y0
    obtain ⟨k,hk⟩:=List.getElem?_of_mem ho
    have hkl:=lt_of_some hk
    have e:=skel_nth h (i:=(k:Int)) (by omega) (by omega)
    have el:(nth l (k:Int)).links=o.links:=by rw [show o=nth m (k:Int) from (nth_of hk).symm];exact congrArg Sk.links e
    have hm:=(hl.at (i:=(k:Int)) (by omega) (by omega)).2
    have y9:=((objOk_links (ok o ho)).2 y hy).2
    have:=hl.links _ hm y (by rw [el];exact hy) y0
    rwa [show (nth l y).kind=(nth m y).kind from congrArg Sk.kind (skel_nth h y0 (by omega))] at this
  · intro k o hk k0 hne b0
    have hkl:=lt_of_some hk
    have e:=skel_nth h (i:=(k:Int)) (by omega) (by omega)
    have eo:o=nth m (k:Int):=(nth_of hk).symm
    have eb:(nth l (k:Int)).box=o.box:=by rw [eo];exact congrArg Sk.box e
    have ek:(nth l (k:Int)).kind=o.kind:=by rw [eo];exact congrArg Sk.kind e
    have b9:=inR_iff.1 (objOk_box (ok o (List.mem_of_getElem? hk)) (by simpa using hne)).1
    have:=hl.box k (nth l (k:Int)) (nth_get (l:=l) (i:=(k:Int)) (by omega) (by omega)) k0 (by rw [ek];exact hne) (by rw [eb];exact b0)
    rw [eb] at this
    rwa [show (nth l o.box).kind=(nth m o.box).kind from congrArg Sk.kind (skel_nth h b0 (by omega))] at this
theorem woken_skel (p:DPart) (me now:Int):p.heap.arena.map skel=(wakes p me now).map skel:=by
  unfold wakes
  rw [List.map_map]
  refine List.map_congr_left fun o _=>?_
  show skel o=skel (if wakeP p me now o then woken o else o)
  split <;> rfl
theorem woken_ok {p:DPart} {me now:Int} (h:∀ o,o ∈ p.heap.arena→objOk o=true):∀ o,o ∈ wakes p me now→objOk o=true:=by
  intro o ho
  obtain ⟨x,hx,rfl⟩:=List.mem_map.1 (show o ∈ p.heap.arena.map _ from ho)
  have hok:=h x hx
  split
  · rename_i q
    unfold wakeP at q
    simp only [Bool.and_eq_true,decide_eq_true_eq] at q
    have hk:(x.kind==0)=false:=by
      cases hk:x.kind==0
      · rfl
      · unfold objOk at hok
        simp only [hk,cond_true,Bool.and_eq_true,decide_eq_true_eq] at hok
        rw [hok.2.2] at q
        simp [blank] at q
    unfold objOk at hok ⊢
    have hk':((woken x).kind==0)=false:=hk
    rw [hk] at hok
    rw [hk']
    simp only [cond_false,Bool.and_eq_true] at hok ⊢
    obtain ⟨a1,a2,a3,a4,a5,a6,a7,a8⟩:=hok
    refine ⟨a1,a2,a3,a4,a5,a6,a7,?_⟩
    cases h4:x.kind != 4
    · rw [h4] at a8
      have h4':((woken x).kind != 4)=false:=h4
      rw [h4']
      simp only [cond_false,Bool.and_eq_true] at a8 ⊢
      exact ⟨rfl,show inR (-1) (-1) 999=true by decide,a8.2.2⟩
    · rw [h4] at a8
      simp only [cond_true,Bool.and_eq_true,beq_iff_eq] at a8
      omega
  · exact hok
end Go.Kx
/- The plain law of 'FnRan'. No program in sight. -/
namespace Go.Kx
open Go
set_option linter.unusedVariables false
set_option linter.unusedSimpArgs false
set_option maxRecDepth 10000
theorem l_has2 {N:Nat} (hN:BIG≤N) {l:List Int} {x:Int} (hb:l.length<BIG):F_l_has N l x=some (l.contains x):=s_l4Has hN hb
theorem cpu_rng {t:List DRes} (h:Tr t):0≤(treeSum t).cpu∧(treeSum t).cpu≤5000000:=by
  rw [treeSum_cpu h]
  have:=tot_rng (f:=DAmt.cpu) (fun a ha=>by rw [amtOk_iff] at ha;exact ⟨ha.2.2.1,ha.2.2.2⟩) t h.bal
  have:=h.len
  omega
theorem L_FnRan {x:List U8} (hx:Fit.fit x):∃ N,F_l_FnRan N x=some true:=by
  obtain ⟨N,hN⟩:∃ N,BIG≤N:=⟨BIG,Nat.le_refl _⟩
  suffices h:WD (F_l_FnRan N x) (fun r=>r=true) by
    obtain ⟨_,e,rfl⟩:=h
    exact ⟨N,e⟩
  unfold F_l_FnRan F_l_big
  refine WD.step rfl (WD.ite (fun _=>WD.ret rfl) fun c=>?_)
  have hl:x.length≤1048576:=by have:=of_decide_eq_false c;omega
  refine WD.bind (wd_DrawRun hN hl) fun d ⟨⟨d1,d2⟩,n0,n1⟩=>?_
  obtain ⟨p,now⟩:=d
  dsimp only at *
  have hB:(16777216:Nat)=BIG:=rfl
  have hb:sz_DPart p<BIG:=by omega
  have s0:=run_sz p now
  refine WD.step (i_PartRun hN hb now) (WD.step (s_PartOk hN hb d2) (WD.ite (fun c=>?_) fun c=>?_))
  · have ok:partOk p=false:=by simpa using c
    have e:partRun p now=(p, -1):=by unfold partRun;rw [ok];rfl
    rw [e]
    exact WD.step (a:=true) (by rw [show ((-1:Int)==-1)=true from rfl,cond_true,s_SamePart hN hb];rw [show decide (p=p)=true from decide_eq_true rfl];rfl) (WD.ret rfl)
  · have ok:partOk p=true:=by simpa using c
    have ar:=partOk_ar ok
    have hT:=treeOk_iff.1 (partOk_tree ok)
    have hrl:(runnable p now).length<BIG:=by have:=runnable_len p now;omega
    refine WD.step (s_Runnable hN hb d2 now) ?_
    cases hr:noRun p now
    · have e:partRun p now=(DPart.mk p.label p.own (treePay p.tree (resOf p (nth p.heap.arena (nextOf p now)).res) ⟨0,0,1⟩).1 (DHeap.mk (p.heap.arena.set (nextOf p now).toNat (ranMore (nth p.heap.arena (nextOf p now)))) p.heap.gc) p.taps (nextOf p now) 0
        (DAmt.mk p.spent.pages p.spent.rent (IntKind.i64.wrap (p.spent.cpu+1))) p.press p.lost,nextOf p now):=by
        unfold partRun
        rw [if_pos ok,hr]
        rfl
      have hm:=nextOf_run hr
      obtain ⟨q0,q9⟩:=thr_rng (List.mem_filter.1 hm).1
      have hs:=(run_sum ok hm).1
      have hp:=(pay_keep (run_pay ok hm)).1
      have hc:=cpu_rng hT
      have ha:=ar.len
      have n0:decide (nextOf p now<0)=false:=decide_eq_false (by omega)
      have e2:(treeSum (treePay p.tree (resOf p (nth p.heap.arena (nextOf p now)).res) ⟨0,0,1⟩).1).cpu==IntKind.i64.wrap ((treeSum p.tree).cpu - 1):=by
        rw [wrap_ok (by omega) (by omega),hs]
        exact beq_self_eq_true _
      have t1:F_s_TreeSum N (treePay p.tree (resOf p (nth p.heap.arena (nextOf p now)).res) ⟨0,0,1⟩).1=some (treeSum (treePay p.tree (resOf p (nth p.heap.arena (nextOf p now)).res) ⟨0,0,1⟩).1):=s_TreeSum hN (by have:=hp.len;omega)
      have t2:F_s_TreeSum N p.tree=some (treeSum p.tree):=s_TreeSum hN (by have:=hT.len;omega)
      rw [e]
      dsimp only
      rw [n0,cond_false]
      refine WD.step (l_has2 hN hrl) ?_
      rw [show (runnable p now).contains (nextOf p now)=true by simpa using hm,cond_true,List.length_set,ha]
      simp only [beq_self_eq_true,cond_true,show (((10:Nat):Int)==10)=true from rfl]
      refine WD.step (idx_ok (l:=p.heap.arena.set (nextOf p now).toNat (ranMore (nth p.heap.arena (nextOf p now)))) q0 (by rw [List.length_set];omega)) (WD.step (ar.at q0 q9).1 ?_)
      rw [nth_set q0 (by omega) q0,if_pos rfl]
      rw [show ((ranMore (nth p.heap.arena (nextOf p now))).ran==IntKind.i64.wrap ((nth p.heap.arena (nextOf p now)).ran+1))=true from beq_self_eq_true _,cond_true]
      refine WD.step (l_has2 hN hrl) ?_
      refine WD.ite (fun _=>WD.step t1 (WD.step t2 (WD.ret e2))) fun w=>?_
      have hw:IntKind.i64.wrap (p.want - 1) ∈ runnable p now:=by simpa using w
      have w0:=(thr_rng (List.mem_filter.1 hw).1).1
      have:nextOf p now=IntKind.i64.wrap (p.want - 1):=pick_next w0 (runnable p now) (-1) (-1) hw
      rw [show (nextOf p now==IntKind.i64.wrap (p.want - 1))=true from by rw [← this];exact beq_self_eq_true _,cond_true]
      exact WD.step t1 (WD.step t2 (WD.ret e2))
    · have e:partRun p now=(DPart.mk p.label p.own p.tree p.heap p.taps p.next 0 p.spent p.press p.lost, -1):=by
        unfold partRun
        rw [if_pos ok,hr]
        rfl
      rw [e]
      dsimp only
      rw [show decide ((-1:Int)<0)=true from rfl,cond_true]
      refine WD.step (s_RunNext hN hrl _ _) (WD.bind (P:=fun j=>j=true) ?_ fun j hj=>WD.ret hj)
      refine WD.step (s_SamePart (a:=p) (b:=p) hN hb) ?_
      rw [show decide (p=p)=true from decide_eq_true rfl,cond_true]
      refine WD.ite (fun _=>WD.ret rfl) fun c1=>WD.ite (fun _=>WD.ret rfl) fun c2=>?_
      obtain ⟨q0,q9⟩:=thr_rng (List.mem_filter.1 (runNext_mem _ _ _ c1)).1
      refine WD.step (ar.at q0 q9).1 (WD.ret ?_)
      have c1:decide (nextOf p now<0)=false:=c1
      unfold noRun at hr
      rw [c1,c2,Bool.false_or,Bool.false_or] at hr
      exact hr
end Go.Kx
/- The plain law of 'FnWoken'. No program in sight. -/
namespace Go.Kx
open Go
set_option linter.unusedVariables false
set_option linter.unusedSimpArgs false
set_option maxRecDepth 10000
theorem wk_w {p:DPart} (h:wP p) (me now:Int):wA (wakes p me now):=by
  intro o ho
  obtain ⟨x,hx,rfl⟩:=List.mem_map.1 (show o ∈ p.heap.arena.map _ from ho)
  split
  · show (-9223372036854775808:Int)≤0;decide
  · exact h x hx
theorem wk_ar {p:DPart} (h:partOk p=true) (me now:Int):Ar (wakes p me now):=by
  have ar:=partOk_ar h
  exact ar.skel (woken_skel p me now) (woken_ok ar.ok)
theorem wk_ok {p:DPart} (h:partOk p=true) (me now:Int):partOk (changeAt p (wakes p me now))=true:=by
  have hw:=arenaOk_iff.2 (wk_ar h me now)
  unfold partOk heapOk at *
  simp only [Bool.and_eq_true] at h ⊢
  obtain ⟨a,b,c,⟨_,d⟩,e⟩:=h
  exact ⟨a,b,c,⟨hw,d⟩,e⟩
theorem held_of {l m:List DObj} (h:l.map DObj.pages=m.map DObj.pages) (hl:∀ o,o ∈ l→objOk o=true) (hm:∀ o,o ∈ m→objOk o=true):((l.take 10).filter objOk).foldl (fun n o=>IntKind.i64.wrap (n+o.pages)) 0=((m.take 10).filter objOk).foldl (fun n o=>IntKind.i64.wrap (n+o.pages)) 0:=by
  rw [List.filter_eq_self.2 fun o ho=>hl o (List.mem_of_mem_take ho),List.filter_eq_self.2 fun o ho=>hm o (List.mem_of_mem_take ho)]
  have key:∀ (x:List DObj) (s:Int),x.foldl (fun n o=>IntKind.i64.wrap (n+o.pages)) s=(x.map DObj.pages).foldl (fun n k=>IntKind.i64.wrap (n+k)) s:=fun x s=>by rw [List.foldl_map]
  rw [key,key,List.map_take,List.map_take,h]
theorem wk_sum {p:DPart} (h:partOk p=true) (me now:Int):partSum (changeAt p (wakes p me now))=partSum p:=by
  have ar:=partOk_ar h
  have hp:(wakes p me now).map DObj.pages=p.heap.arena.map DObj.pages:=by
    unfold wakes
    rw [List.map_map]
    refine List.map_congr_left fun o _=>?_
    show DObj.pages (if wakeP p me now o then woken o else o)=o.pages
    split <;> rfl
  have e:held (changeAt p (wakes p me now))=held p:=held_of hp (wk_ar h me now).ok ar.ok
  unfold partSum
  rw [e]
  rfl
theorem L_FnWoken {x:List U8} (hx:Fit.fit x):∃ N,F_l_FnWoken N x=some true:=by
  obtain ⟨N,hN⟩:∃ N,BIG≤N:=⟨BIG,Nat.le_refl _⟩
  suffices h:WD (F_l_FnWoken N x) (fun r=>r=true) by
    obtain ⟨_,e,rfl⟩:=h
    exact ⟨N,e⟩
  unfold F_l_FnWoken F_l_big
  refine WD.step rfl (WD.ite (fun _=>WD.ret rfl) fun c=>?_)
  have hl:x.length≤1048576:=by have:=of_decide_eq_false c;omega
  refine WD.bind (wd_DrawWake hN hl) fun d ⟨⟨d1,d2⟩,n0,n1⟩=>?_
  obtain ⟨p,me,now⟩:=d
  dsimp only at *
  have hB:(16777216:Nat)=BIG:=rfl
  have hb:sz_DPart p<BIG:=by omega
  have s0:=wake_sz p me now
  refine WD.step (i_PartWake hN hb me now) ?_
  refine WD.bind (P:=fun j=>j=!(partOk p&&inR me 0 2)) ?_ fun j hj=>WD.ite (fun c=>?_) fun c=>?_
  · refine WD.step (s_PartOk hN hb d2) ?_
    have e:inR me 0 2=(!decide (me<0)&&!decide (me ≥ 3)):=by
      unfold inR
      rw [← decide_not, ← decide_not,decide_eq_decide.2 (show 0≤me ↔ ¬me<0 by omega),decide_eq_decide.2 (show me≤2 ↔ ¬me ≥ 3 by omega)]
    rw [e]
    cases partOk p
    · exact WD.ret rfl
    cases decide (me<0)
    · exact WD.ret (by simp)
    · exact WD.ret rfl
  · rw [hj] at c
    have e:partWake p me now=p:=by unfold partWake;cases q:(partOk p&&inR me 0 2) <;> simp [q] at c ⊢
    rw [e]
    exact WD.step (s_SamePart hN hb) (WD.ret (decide_eq_true rfl))
  · rw [hj] at c
    have c:partOk p=true∧inR me 0 2=true:=by simpa using c
    obtain ⟨ok,hme⟩:=c
    have ar:=partOk_ar ok
    have ar2:=wk_ar ok me now
    have e:partWake p me now=changeAt p (wakes p me now):=by
      unfold partWake
      rw [ok,hme]
      rfl
    have hb2:sz_DPart (changeAt p (wakes p me now))<BIG:=by rw [← e];omega
    have hw2:wP (changeAt p (wakes p me now)):=wk_w d2 me now
    rw [e]
    have l1:((changeAt p (wakes p me now)).heap.arena.length:Int)=10:=by show ((wakes p me now).length:Int)=10;rw [ar2.len];rfl
    rw [l1]
    simp only [bne_self_eq_false,cond_false,beq_self_eq_true,cond_true]
    refine WD.bind (WD.loop (fun s=>0≤s∧s≤10) (fun r=>∃ s,r=.inl s) (fun s=>(10 - s).toNat) ⟨Int.le_refl _,by omega⟩ (by omega) ?_) fun r ⟨s,hr⟩=>?_
    · intro s ⟨s1,s2⟩
      refine WD.ite (fun c=>?_) fun _=>WD.inr ⟨_,rfl⟩
      have c:=of_decide_eq_true c
      have w:nth (wakes p me now) s=if wakeP p me now (nth p.heap.arena s) then woken (nth p.heap.arena s) else nth p.heap.arena s:=by
        have:=nth_get (l:=p.heap.arena) s1 (by rw [ar.len];exact c)
        unfold wakes
        have h2:(p.heap.arena.map fun o=>if wakeP p me now o then woken o else o)[s.toNat]?=some (if wakeP p me now (nth p.heap.arena s) then woken (nth p.heap.arena s) else nth p.heap.arena s):=by rw [List.getElem?_map,this];rfl
        show ((p.heap.arena.map fun o=>if wakeP p me now o then woken o else o)[s.toNat]?).getD Dat.zero=_
        rw [h2];rfl
      have gs:∀ h,goodSlot (wakes p me now) now me h=goodSlot p.heap.arena now me h:=fun h=>(goodSlot_skel ar ar2 (woken_skel p me now) now me h).symm
      have b1:szL sz_DObj p.heap.arena<BIG:=(szPart hb).2.2.2.1
      have b2:szL sz_DObj (wakes p me now)<BIG:=(szPart hb2).2.2.2.1
      refine WD.step (ar.at s1 (by omega)).1 (WD.step (ar2.at s1 (by omega)).1 ?_)
      rw [w,wrap_ok (n:=s+1) (by omega) (by omega)]
      cases hk:wakeP p me now (nth p.heap.arena s)
      · simp only [if_false,Bool.false_eq_true]
        unfold wakeP at hk
        generalize nth p.heap.arena s=o at *
        refine WD.step (a:=false) ?_ (WD.step (a:=false) ?_ (WD.inl ⟨by omega,by omega⟩ (by omega)))
        · simp only [bne_self_eq_false,cond_false]
          cases q:decide (o.wait > 0)
          · rfl
          · rw [q,Bool.true_and] at hk
            simp only [cond_true]
            rw [show (changeAt p (wakes p me now)).heap.arena=wakes p me now from rfl,s_GoodSlot hN b2 hw2,gs,Option.bind_some,hk]
        · cases q:o.wait==0
          · rfl
          · have:o.wait=0:=by simpa using q
            rw [show decide (o.wait > 0)=false by rw [this];rfl]
            rfl
      · simp only [if_true]
        unfold wakeP at hk
        generalize nth p.heap.arena s=o at *
        simp only [Bool.and_eq_true,decide_eq_true_eq] at hk
        refine WD.step (a:=false) rfl (WD.step (a:=false) ?_ (WD.inl ⟨by omega,by omega⟩ (by omega)))
        rw [show ((woken o).wait==0)=true from rfl,cond_true,show decide (o.wait > 0)=true from decide_eq_true hk.1,cond_true,show ((woken o).got != -1)=false from rfl,cond_false,s_GoodSlot hN b1 d2,Option.bind_some]
        exact congrArg some (decide_eq_false (by omega))
    · rw [hr]
      simp only [Sum.elim_inl]
      refine WD.step (s_PartOk hN hb2 hw2) ?_
      rw [wk_ok ok,cond_true]
      refine WD.step (s_PartSum hN hb2 hw2) (WD.step (s_PartSum hN hb d2) (WD.ret ?_))
      rw [wk_sum ok]
      exact decide_eq_true rfl
end Go.Kx
