/- Plain laws: what stands in a message does not matter. No program in sight. -/
import Derived.Test.YtljikolgijlbeaaGreatLCollect
namespace Go.Kx
open Go
set_option linter.unusedVariables false
set_option linter.unusedSimpArgs false
set_option linter.unusedSectionVars false
set_option maxRecDepth 10000
structure Chg where
  q:List DMsg→List DMsg
  t:Int→Int
structure Gq (g:Chg):Prop where
  len:∀ q,(g.q q).length=q.length
  ok:∀ q,(g.q q).all msgOk=q.all msgOk
  told:∀ x,inR (g.t x) (-1) 999=inR x (-1) 999
  not:g.t (-1)=-1
theorem Gq.nil {g:Chg} (h:Gq g):g.q []=[]:=List.eq_nil_of_length_eq_zero (h.len [])
def gotOf (g:Chg) (o:DObj):Int:=bif o.kind==4 then g.t o.got else o.got
def fq (g:Chg) (o:DObj):DObj:=DObj.mk o.gen o.kind o.box o.res o.til o.pages o.wait (gotOf g o) o.ran o.mark o.links o.data (g.q o.queue)
def fA (g:Chg) (l:List DObj):List DObj:=l.map (fq g)
def fH (g:Chg) (h:DHeap):DHeap:=DHeap.mk (fA g h.arena) h.gc
def fP (g:Chg) (p:DPart):DPart:=DPart.mk p.label p.own p.tree (fH g p.heap) p.taps p.next p.want p.spent p.press p.lost
def fW (g:Chg) (w:DWorld):DWorld:=DWorld.mk w.now (w.parts.map (fP g))
section
variable {g:Chg} (hg:Gq g)
include hg
theorem fq_zero:fq g Dat.zero=Dat.zero:=by
  show DObj.mk 0 0 0 0 0 0 0 0 0 false [] [] (g.q [])=_
  rw [hg.nil];rfl
theorem nth_f (l:List DObj) (i:Int):nth (fA g l) i=fq g (nth l i):=by
  unfold nth fA
  rw [List.getElem?_map]
  cases l[i.toNat]? with
  | none=>exact (fq_zero hg).symm
  | some o=>rfl
theorem objOk_f (o : DObj) : objOk (fq g o) = objOk o := by
  have h1 : listsOk (fq g o) = listsOk o := by
    unfold listsOk
    show (o.links.all (fun y => inR y (-1) 9) && (o.data.all (fun y => inR y 0 999) && ((g.q o.queue).all msgOk && (((o.links.length : Int) == 2) && (((o.data.length : Int) == (bif o.kind == 2 then o.pages else 0)) && decide (((g.q o.queue).length : Int) ≤ (bif o.kind == 3 then 2 else 0))))))) = _
    rw [hg.ok, hg.len]
  have h2 : (o.kind == 0) = true → decide (fq g o = blank o.gen) = decide (o = blank o.gen) := fun hk => by
    have hk : o.kind = 0 := by simpa using hk
    have hgo : gotOf g o = o.got := by unfold gotOf; rw [hk]; rfl
    by_cases h : o = blank o.gen
    · have hq : o.queue = [] := by rw [h]; rfl
      have : fq g o = o := by
        unfold fq; rw [hq, hg.nil, hgo]
        conv => rhs; rw [show o = DObj.mk o.gen o.kind o.box o.res o.til o.pages o.wait o.got o.ran o.mark o.links o.data o.queue from rfl, hq]
      rw [this]
    · have : fq g o ≠ blank o.gen := fun e => h (by
        have hq : g.q o.queue = [] := congrArg DObj.queue e
        have hq2 : o.queue = [] := List.eq_nil_of_length_eq_zero (by rw [← hg.len, hq]; rfl)
        unfold fq at e
        rw [hq, hgo] at e
        rw [← e]
        conv => lhs; rw [show o = DObj.mk o.gen o.kind o.box o.res o.til o.pages o.wait o.got o.ran o.mark o.links o.data o.queue from rfl, hq2])
      rw [decide_eq_false this, decide_eq_false h]
  unfold objOk
  rw [h1]
  show (inR o.gen 0 999 && (inR o.kind 0 4 && (bif o.kind == 0 then decide (fq g o = blank o.gen) else inR o.box (-1) 9 && (inR o.res 0 4 && (inR o.til 0 1000000 && (inR o.pages 0 8 && (listsOk o && (bif o.kind != 4 then (o.wait == 0 && (gotOf g o == 0 && o.ran == 0)) else
    (o.wait == 0 || inR (IntKind.i64.wrap (o.wait - 1)) 0 29999) && (inR (gotOf g o) (-1) 999 && inR o.ran 0 1000000))))))))) = _
  cases hk : o.kind == 0
  · have h4 : (bif o.kind != 4 then (o.wait == 0 && (gotOf g o == 0 && o.ran == 0)) else (o.wait == 0 || inR (IntKind.i64.wrap (o.wait - 1)) 0 29999) && (inR (gotOf g o) (-1) 999 && inR o.ran 0 1000000)) =
        (bif o.kind != 4 then (o.wait == 0 && (o.got == 0 && o.ran == 0)) else (o.wait == 0 || inR (IntKind.i64.wrap (o.wait - 1)) 0 29999) && (inR o.got (-1) 999 && inR o.ran 0 1000000)) := by
      unfold gotOf
      unfold bne
      cases o.kind == 4
      · rfl
      · simp only [Bool.not_true, cond_false, cond_true, hg.told]
    rw [h4]
    rfl
  · rw [h2 hk]
    rfl
theorem allI_f {p q:Nat→DObj→Bool} (h:∀ k o,p k (fq g o)=q k o):∀ (l:List DObj) (k:Nat),allI p k (fA g l)=allI q k l
  | [],_=>rfl
  | o::l,k=>by
    show (p k (fq g o)&&allI p (k+1) (fA g l))=(q k o&&allI q (k+1) l)
    rw [h,allI_f h l]
theorem arenaOk_f (l:List DObj):arenaOk (fA g l)=arenaOk l:=by
  unfold arenaOk headBad
  rw [allI_f hg (q:=arenaP l) (fun k o=>by
    unfold arenaP linksP freeAt
    simp only [objOk_f hg,nth_f hg];rfl),nth_f hg]
  unfold fA
  rw [List.length_map];rfl
theorem heapOk_f (h:DHeap):heapOk (fH g h)=heapOk h:=by
  unfold heapOk
  rw [show arenaOk (fH g h).arena=arenaOk h.arena from arenaOk_f hg _];rfl
theorem partOk_f (p:DPart):partOk (fP g p)=partOk p:=by
  unfold partOk
  rw [show heapOk (fP g p).heap=heapOk p.heap from heapOk_f hg _];rfl
theorem collI_f {β:Type} {p q:Nat→DObj→Bool} {r:Nat→β} (h:∀ k o,p k (fq g o)=q k o):∀ (l:List DObj) (k:Nat),collI p (fun k _=>r k) k (fA g l)=collI q (fun k _=>r k) k l
  | [],_=>rfl
  | o::l,k=>by
    show (if p k (fq g o) then r k::collI p (fun k _=>r k) (k+1) (fA g l) else collI p (fun k _=>r k) (k+1) (fA g l))=(if q k o then _ else _)
    rw [h,collI_f h l]
theorem edges_f (l:List DObj) (i:Int):edges (fA g l) i=edges l i:=by
  unfold edges
  exact collI_f hg (r:=fun k=>(k:Int)) (fun k o=>by unfold edge;rw [nth_f hg];rfl) l 0
theorem foldI_f {τ:Type} {p q:Nat→τ→DObj→τ} (h:∀ k t o,p k t (fq g o)=q k t o):∀ (l:List DObj) (k:Nat) (t:τ),foldI p k t (fA g l)=foldI q k t l
  | [],_,_=>rfl
  | o::l,k,t=>by
    show foldI p (k+1) (p k t (fq g o)) (fA g l)=foldI q (k+1) (q k t o) l
    rw [h,foldI_f h l]
theorem hit_f (l:List DObj) (now:Int):hit (fA g l) now=hit l now:=by
  funext r y
  unfold hit
  rw [nth_f hg];rfl
theorem sweep_f (l:List DObj) (now:Int) (r:List Bool):sweep (fA g l) now r=sweep l now r:=by
  unfold sweep
  exact foldI_f hg (fun k t o=>by unfold visit;rw [edges_f hg,hit_f hg];rfl) l 0 r
theorem sweeps_f (l:List DObj) (now:Int):∀ (n:Nat) (r:List Bool),sweeps (fA g l) now n r=sweeps l now n r
  | 0,_=>rfl
  | n+1,r=>by
    show sweeps (fA g l) now n (sweep (fA g l) now r)=sweeps l now n (sweep l now r)
    rw [sweep_f hg,sweeps_f l now n]
theorem reach_f (l:List DObj) (now:Int):reach (fA g l) now=reach l now:=by
  unfold reach
  rw [arenaOk_f hg,sweeps_f hg]
theorem goodSlot_f (l:List DObj) (now part h:Int):goodSlot (fA g l) now part h=goodSlot l now part h:=by
  unfold goodSlot goodP
  rw [arenaOk_f hg,reach_f hg,nth_f hg];rfl
theorem fA_set (l:List DObj) (k:Nat) (o:DObj):(fA g l).set k (fq g o)=fA g (l.set k o):=by
  unfold fA;rw [List.map_set]
theorem wake_f (p:DPart) (me now:Int):partWake (fP g p) me now=fP g (partWake p me now):=by
  unfold partWake
  rw [partOk_f hg]
  split
  · unfold changeAt wakes fP fH
    show DPart.mk _ _ _ (DHeap.mk ((fA g p.heap.arena).map fun o=>if wakeP (fP g p) me now o then woken o else o) _) _ _ _ _ _ _=DPart.mk _ _ _ (DHeap.mk (fA g (p.heap.arena.map fun o=>if wakeP p me now o then woken o else o)) _) _ _ _ _ _ _
    have:(fA g p.heap.arena).map (fun o=>if wakeP (fP g p) me now o then woken o else o)=fA g (p.heap.arena.map fun o=>if wakeP p me now o then woken o else o):=by
      unfold fA
      rw [List.map_map,List.map_map]
      refine List.map_congr_left fun o _=>?_
      show (if wakeP (fP g p) me now (fq g o) then woken (fq g o) else fq g o)=fq g (if wakeP p me now o then woken o else o)
      have e:wakeP (fP g p) me now (fq g o)=wakeP p me now o:=by
        unfold wakeP
        rw [show (fP g p).heap.arena=fA g p.heap.arena from rfl,goodSlot_f hg];rfl
      rw [e]
      split
      · have:gotOf g (woken o)=-1:=by
          unfold gotOf
          show (bif o.kind==4 then g.t (-1) else -1)=-1
          rw [hg.not]
          cases o.kind==4 <;> rfl
        show DObj.mk _ _ _ _ _ _ 0 (-1) _ _ _ _ _=DObj.mk _ _ _ _ _ _ 0 (gotOf g (woken o)) _ _ _ _ _
        rw [this]
        rfl
      · rfl
    rw [this]
  · rfl
theorem marked_f (o:DObj) (m:Bool):marked (fq g o) m=fq g (marked o m):=rfl
theorem shade_f (h:DHeap) (k:Int):shade (fH g h) k=fH g (shade h k):=by
  unfold shade
  rw [show nth (fH g h).arena k=fq g (nth h.arena k) from nth_f hg _ _]
  show (if (h.gc.phase==0)&&(((nth h.arena k).kind != 0)&&!(nth h.arena k).mark) then DHeap.mk ((fA g h.arena).set k.toNat (fq g (marked (nth h.arena k) true))) _ else _)=_
  rw [fA_set hg]
  split <;> rfl
theorem shadeIf_f (l:List DObj) (now:Int) (h:DHeap) (k:Int):shadeIf (fA g l) now (fH g h) k=fH g (shadeIf l now h k):=by
  unfold shadeIf
  rw [nth_f hg,shade_f hg]
  show (if expired (nth l k) now then _ else _)=_
  split <;> rfl
theorem shades_f (l:List DObj) (now:Int):∀ (e:List Int) (h:DHeap),e.foldl (shadeIf (fA g l) now) (fH g h)=fH g (e.foldl (shadeIf l now) h)
  | [],_=>rfl
  | k::e,h=>by
    rw [List.foldl_cons,List.foldl_cons,shadeIf_f hg,shades_f l now e]
theorem markStep_f (h:DHeap) (now:Int):markStep (fH g h) now=fH g (markStep h now):=by
  unfold markStep
  rw [show lastGrey (fH g h)=lastGrey h from rfl,show nth (fH g h).arena (lastGrey h)=fq g (nth h.arena (lastGrey h)) from nth_f hg _ _,show edges (fH g h).arena (lastGrey h)=edges h.arena (lastGrey h) from edges_f hg _ _]
  show (if h.gc.grey.length=0 then _ else if (lastGrey h != 0)&&expired (nth h.arena (lastGrey h)) now then _ else (edges h.arena (lastGrey h)).foldl (shadeIf (fA g h.arena) now) (DHeap.mk ((fA g h.arena).set (lastGrey h).toNat (fq g (marked (nth h.arena (lastGrey h)) true))) (DGc.mk h.gc.phase h.gc.pos h.gc.round (lessGrey h))))=_
  rw [fA_set hg]
  split
  · rfl
  split
  · rfl
  · exact shades_f hg h.arena now _ ⟨h.arena.set (lastGrey h).toNat (marked (nth h.arena (lastGrey h)) true),DGc.mk h.gc.phase h.gc.pos h.gc.round (lessGrey h)⟩
theorem blank_f (n:Int):fq g (blank n)=blank n:=by
  show DObj.mk n 0 0 0 0 0 0 0 0 false [] [] (g.q [])=_
  rw [hg.nil];rfl
theorem unl_f (i:Int) (o:DObj):unl i (fq g o)=fq g (unl i o):=by
  unfold unl
  show (if o.kind==0 then _ else _)=_
  split <;> rfl
theorem free_f (l:List DObj) (i:Int):arenaFree (fA g l) i=(fA g (arenaFree l i).1,(arenaFree l i).2):=by
  unfold arenaFree
  rw [arenaOk_f hg,nth_f hg]
  show (if arenaOk l&&(inR i 1 9&&((nth l i).kind != 0)) then (((fA g l).set i.toNat (blank (nth l i).gen)).map (unl i),true) else _)=_
  split
  · have e:(fA g l).set i.toNat (blank (nth l i).gen)=fA g (l.set i.toNat (blank (nth l i).gen)):=by
      rw [← blank_f hg (nth l i).gen,fA_set hg,blank_f hg]
    rw [e]
    unfold fA
    rw [List.map_map,show (unl i ∘ fq g)=(fq g ∘ unl i) from funext fun o=>unl_f hg i o, ← List.map_map]
  · rfl
theorem sweepFree_f (h:DHeap) (now:Int):sweepFree (fH g h) now=sweepFree h now:=by
  unfold sweepFree
  rw [show nth (fH g h).arena (fH g h).gc.pos=fq g (nth h.arena h.gc.pos) from nth_f hg _ _];rfl
theorem swept_f (h:DHeap) (now:Int):swept (fH g h) now=fA g (swept h now):=by
  unfold swept
  rw [sweepFree_f hg]
  split
  · show (arenaFree (fA g h.arena) h.gc.pos).1=_
    rw [free_f hg]
  · show (fA g h.arena).set h.gc.pos.toNat (marked (nth (fA g h.arena) h.gc.pos) false)=_
    rw [nth_f hg,marked_f hg,fA_set hg]
theorem fresh0_f (l:List DObj):fresh0 (fA g l)=fA g (fresh0 l):=by
  unfold fresh0
  rw [nth_f hg,marked_f hg,fA_set hg]
theorem gcStep_f (h:DHeap) (now:Int):gcStep (fH g h) now=(fH g (gcStep h now).1,(gcStep h now).2):=by
  unfold gcStep
  rw [heapOk_f hg]
  split
  · show (if h.gc.phase==1 then sweepStep (fH g h) now else (markStep (fH g h) now, -1))=_
    split
    · unfold sweepStep
      rw [swept_f hg,sweepFree_f hg,fresh0_f hg]
      show ((if h.gc.pos==9 then _ else _),(if sweepFree h now then h.gc.pos else -1))=_
      refine Prod.ext ?_ rfl
      show (if h.gc.pos==9 then _ else _)=fH g (if h.gc.pos==9 then _ else _)
      split <;> rfl
    · rw [markStep_f hg]
  · rfl
def fC (g:Chg) (c:Col):Col:=⟨c.n,c.tree,fH g c.heap⟩
theorem colStep_f (now:Int) (c:Col):colStep now (fC g c)=fC g (colStep now c):=by
  unfold colStep
  rw [show gcStep (fC g c).heap now=_ from gcStep_f hg _ _,show nth (fC g c).heap.arena (gcStep c.heap now).2=fq g (nth c.heap.arena (gcStep c.heap now).2) from nth_f hg _ _]
  show (if decide ((gcStep c.heap now).2 ≥ 0) then _ else _)=fC g (if decide ((gcStep c.heap now).2 ≥ 0) then _ else _)
  split <;> rfl
theorem cols_f (now:Int):∀ (k:Nat) (c:Col),cols now k (fC g c)=fC g (cols now k c)
  | 0,_=>rfl
  | k+1,c=>by
    show cols now k (colStep now (fC g c))=fC g (cols now k (colStep now c))
    rw [colStep_f hg,cols_f now k]
theorem collect_f (p:DPart) (now steps:Int):partCollect (fP g p) now steps=(fP g (partCollect p now steps).1,(partCollect p now steps).2):=by
  unfold partCollect
  rw [partOk_f hg,show (⟨0,(fP g p).tree,(fP g p).heap⟩:Col)=fC g ⟨0,p.tree,p.heap⟩ from rfl,cols_f hg]
  split <;> rfl
theorem threads_f (p:DPart) (now:Int):threads (fP g p) now=threads p now:=by
  unfold threads
  rw [partOk_f hg,show (fP g p).heap.arena=fA g p.heap.arena from rfl,reach_f hg]
  split
  · congr 1
    funext k b
    rw [nth_f hg];rfl
  · rfl
theorem balAt_f (p:DPart) (i:Int):balAt (fP g p) i=balAt p i:=by
  unfold balAt
  rw [show nth (fP g p).heap.arena i=fq g (nth p.heap.arena i) from nth_f hg _ _];rfl
theorem runnable_f (p:DPart) (now:Int):runnable (fP g p) now=runnable p now:=by
  unfold runnable
  rw [threads_f hg]
  congr 1
  funext i
  unfold mayRun
  rw [balAt_f hg,show nth (fP g p).heap.arena i=fq g (nth p.heap.arena i) from nth_f hg _ _];rfl
theorem run_f (p:DPart) (now:Int):partRun (fP g p) now=(fP g (partRun p now).1,(partRun p now).2):=by
  have hn:nextOf (fP g p) now=nextOf p now:=by
    unfold nextOf
    rw [runnable_f hg];rfl
  have ht:∀ i,nth (fP g p).heap.arena i=fq g (nth p.heap.arena i):=fun i=>nth_f hg _ _
  have hno:noRun (fP g p) now=noRun p now:=by
    unfold noRun
    rw [hn,ht];rfl
  unfold partRun
  rw [partOk_f hg,hno,hn,ht]
  split
  · split
    · rfl
    · show (DPart.mk _ _ _ (DHeap.mk ((fA g p.heap.arena).set (nextOf p now).toNat (fq g (ranMore (nth p.heap.arena (nextOf p now))))) _) _ _ _ _ _ _,_)=_
      rw [fA_set hg]
      rfl
  · rfl
theorem held_f (p:DPart):held (fP g p)=held p:=by
  unfold held
  show (((fA g p.heap.arena).take 10).filter objOk).foldl (fun n o=>IntKind.i64.wrap (n+o.pages)) 0=_
  unfold fA
  rw [← List.map_take,List.filter_map,List.foldl_map,show (objOk ∘ fq g)=objOk from funext fun o=>objOk_f hg o]
  rfl
theorem partSum_f (p:DPart):partSum (fP g p)=partSum p:=by
  unfold partSum
  rw [held_f hg];rfl
theorem worldOk_f (w:DWorld):worldOk (fW g w)=worldOk w:=by
  unfold worldOk
  have h1:(fW g w).parts.all partOk=w.parts.all partOk:=by
    unfold fW
    rw [List.all_map,show (partOk ∘ fP g)=partOk from funext fun p=>partOk_f hg p]
  have h2:∀ (l:List DPart) (s:DAmt),partsSum s (l.map (fP g))=partsSum s l:=by
    intro l s
    unfold partsSum
    rw [List.foldl_map]
    congr 1
    funext s p
    rw [partSum_f hg]
  rw [h1,show partsSum ⟨0,0,0⟩ (fW g w).parts=partsSum ⟨0,0,0⟩ w.parts from h2 _ _,show (fW g w).parts.length=w.parts.length from List.length_map ..]
  rfl
theorem canCall_f (p:DPart) (now th:Int):canCall (fP g p) now th=canCall p now th:=by
  unfold canCall
  rw [threads_f hg,show nth (fP g p).heap.arena th=fq g (nth p.heap.arena th) from nth_f hg _ _];rfl
end
end Go.Kx
