/- Plain laws: sizes of what is right; a thing put into an arena; what is born. No program in sight. -/
import Derived.Test.YtkgkknholfmgiaaGreatLReach
namespace Go.Kx
open Go
set_option linter.unusedVariables false
set_option linter.unusedSimpArgs false
set_option maxRecDepth 10000
theorem sumL_le {α:Type} {f:α→Nat} {c:Nat}:∀ {l:List α},(∀ y,y ∈ l→f y≤c)→sumL f l≤c * l.length
  | [],_=>Nat.zero_le _
  | y::l,h=>by
    have h1:=h y (by simp)
    have h2:=sumL_le (l:=l) fun z hz=>h z (by simp [hz])
    simp only [sumL,List.length_cons,Nat.mul_add];omega
theorem sumL_set {α:Type} {f:α→Nat} {y:α}:∀ {l:List α} {k:Nat},sumL f (l.set k y)≤sumL f l+f y
  | [],k=>by simp [sumL]
  | z::l,0=>by simp only [List.set_cons_zero,sumL];omega
  | z::l,k+1=>by
    have:=sumL_set (f:=f) (y:=y) (l:=l) (k:=k)
    simp only [List.set_cons_succ,sumL];omega
theorem szL_set {α:Type} {f:α→Nat} {y:α} {l:List α} {k:Nat}:szL f (l.set k y)≤szL f l+f y:=by
  have:=sumL_set (f:=f) (y:=y) (l:=l) (k:=k)
  unfold szL
  simp only [List.length_set];omega
theorem objOk_sz {o:DObj} (h:objOk o=true):sz_DObj o≤12:=by
  have hl:=(objOk_links h).1
  unfold objOk at h
  unfold sz_DObj
  cases hk:o.kind==0
  · simp only [hk,cond_false,Bool.and_eq_true] at h
    obtain ⟨_,_,_,_,_,hp,hl2,_⟩:=h
    unfold listsOk at hl2
    simp only [Bool.and_eq_true,decide_eq_true_eq,beq_iff_eq] at hl2
    obtain ⟨_,_,_,_,hd,hq⟩:=hl2
    rw [inR_iff] at hp
    have:o.data.length≤8:=by
      cases h2:o.kind==2
      · rw [h2] at hd;simp only [cond_false] at hd;omega
      · rw [h2] at hd;simp only [cond_true] at hd;omega
    have:o.queue.length≤2:=by
      cases h3:o.kind==3
      · rw [h3] at hq;simp only [cond_false] at hq;omega
      · rw [h3] at hq;simp only [cond_true] at hq;omega
    omega
  · simp only [hk,cond_true,Bool.and_eq_true,decide_eq_true_eq] at h
    rw [h.2.2];simp [blank]
theorem Ar.sz {l:List DObj} (h:Ar l):szL sz_DObj l≤130:=by
  have h1:=sumL_le (f:=sz_DObj) (c:=12) fun y hy=>objOk_sz (h.ok y hy)
  have h2:=h.len
  unfold szL
  rw [h2] at h1 ⊢
  omega
theorem wA_set {l:List DObj} {k:Nat} {o:DObj} (h:wA l) (ho:wOk o):wA (l.set k o):=fun y hy=>by
  rcases List.mem_or_eq_of_mem_set hy with q | q
  · exact h y q
  · rw [q];exact ho
def genned (o:DObj) (g:Int):DObj:=DObj.mk g o.kind o.box o.res o.til o.pages o.wait o.got o.ran o.mark o.links o.data o.queue
def putAt (l:List DObj) (o:DObj) (k:Nat) (x:DObj):List DObj×Int:=if arenaOk (l.set k (genned o (IntKind.i64.wrap (x.gen+1))))&&(o.kind != 0) then (l.set k (genned o (IntKind.i64.wrap (x.gen+1))),(k:Int)) else (l, -1)
def putGo (l:List DObj) (o:DObj):Nat→List DObj→List DObj×Int
  | _,[]=>(l, -1)
  | k,x::m=>if x.kind != 0 || decide (x.gen ≥ 999) then putGo l o (k+1) m else putAt l o k x
def arenaPut (l:List DObj) (o:DObj):List DObj×Int:=if arenaOk l then putGo l o 1 (l.drop 1) else (l, -1)
theorem iter_put {ρ:Type} {body:Int→Option (Int⊕ρ)} (l:List DObj) (p:DObj→Bool) (g:Nat→DObj→ρ) (r:ρ) {N:Nat} (hN:l.length+1<N) (hl:1≤l.length)
    (hs:∀ (k:Nat) (x:DObj),l[k]?=some x→1≤k→k<l.length→body (k:Int)=some (if p x then .inl ((k+1:Nat):Int) else .inr (g k x))) (he:body (l.length:Int)=some (.inr r)) :
    iter body N 1=some (runL (fun k (_:Unit) x=>if p x then .inl () else .inr (g (k+1) x)) (fun _=>r) 0 () (l.drop 1)):=by
  have hd:(l.drop 1).length+1=l.length:=by simp;omega
  rw [show (1:Int)=(fun (k:Nat) (_:Unit)=>((k+1:Nat):Int)) 0 () from rfl,
    iter_list (l.drop 1) (fun (k:Nat) (_:Unit)=>((k+1:Nat):Int)) (fun k _ x=>if p x then .inl () else .inr (g (k+1) x)) (fun _=>r) (fun _ _=>True) ?_ ?_ (by omega) trivial]
  · intro k _ x hx hk _
    have hx:l[k+1]?=some x:=by rw [← hx,List.getElem?_drop,Nat.add_comm]
    refine ⟨?_,fun _ _=>trivial⟩
    show body ((k+1:Nat):Int)=_
    rw [hs (k+1) x hx (by omega) (by omega)]
    cases p x <;> rfl
  · intro _ _
    simp only [hd]
    exact he
theorem put_run {ρ:Type} (l:List DObj) (o:DObj) (r:ρ) (c:ρ→Option (List DObj×Int)) (g:Nat→DObj→ρ) (hr:c r=some (l, -1)) (hg:∀ k x,c (g k x)=some (putAt l o k x)):∀ (m:List DObj) (k:Nat),
    c (runL (fun k (_:Unit) x=>if x.kind != 0 || decide (x.gen ≥ 999) then .inl () else .inr (g (k+1) x)) (fun _=>r) k () m)=some (putGo l o (k+1) m)
  | [],k=>hr
  | x::m,k=>by
    unfold runL putGo
    cases h:(x.kind != 0 || decide (x.gen ≥ 999))
    · simp only [Bool.false_eq_true,if_false];exact hg _ _
    · simp only [if_true];exact put_run l o r c g hr hg m (k+1)
theorem genned_sz (o:DObj) (g:Int):sz_DObj (genned o g)=sz_DObj o:=rfl
theorem genned_w {o:DObj} {g:Int} (h:wOk o):wOk (genned o g):=h
theorem setB {l:List DObj} (h:Ar l) {o:DObj} (ho:sz_DObj o≤100000) (k:Nat):szL sz_DObj (l.set k o)<BIG:=by
  have h1:=h.sz
  have h2:=szL_set (f:=sz_DObj) (y:=o) (l:=l) (k:=k)
  have:(16777216:Nat)=BIG:=rfl
  omega
theorem s_ArenaPut {N:Nat} (hN:BIG≤N) {l:List DObj} (hb:szL sz_DObj l<BIG) (hw:wA l) {o:DObj} (ho:sz_DObj o≤100000) (hwo:wOk o):F_s_ArenaPut N l o=some (arenaPut l o):=by
  have hB:(16777216:Nat)=BIG:=rfl
  have hoB:sz_DObj o<BIG:=by omega
  unfold F_s_ArenaPut arenaPut
  simp only [s_l8Copy hN hb,s_ArenaOk hN hb hw,Option.bind_some]
  cases ha:arenaOk l
  · rfl
  have h:=arenaOk_iff.1 ha
  have hl:=h.len
  simp only [Bool.not_true,cond_false,if_true]
  rw [iter_put l (fun x=>x.kind != 0 || decide (x.gen ≥ 999)) (fun k x=>Sum.inr (putAt l o k x)) (Sum.inl (l.length:Int)) (by omega) (by omega)]
  · simp only [Option.bind_some]
    exact put_run l o (Sum.inl (l.length:Int)) (fun o84=>Sum.elim (fun o84=>some (l, -1)) (fun r87=>some r87) o84) (fun k x=>Sum.inr (putAt l o k x)) rfl (fun k x=>rfl) _ 0
  · intro k x hx hk1 hkl
    simp only [lt_dec hkl,cond_true,idx_nat,hx,Option.bind_some,bOr,wrap1 (show k<BIG by omega),s_l8Obj hoB,Int.toNat_natCast]
    rw [show DObj.mk (IntKind.i64.wrap (x.gen+1)) o.kind o.box o.res o.til o.pages o.wait o.got o.ran o.mark o.links o.data o.queue=genned o (IntKind.i64.wrap (x.gen+1)) from rfl,s_ArenaOk hN (setB h (by rw [genned_sz];exact ho) k) (wA_set hw (genned_w hwo))]
    simp only [Option.bind_some,bOr]
    unfold putAt
    have hk:(o.kind==0)=!(o.kind != 0):=by simp [bne]
    rw [hk]
    cases (x.kind != 0 || decide (x.gen ≥ 999))
    · cases arenaOk (l.set k (genned o (IntKind.i64.wrap (x.gen+1)))) <;> cases (o.kind != 0) <;> rfl
    · rfl
  · simp only [ge_dec,cond_false]
def marked (o:DObj) (m:Bool):DObj:=DObj.mk o.gen o.kind o.box o.res o.til o.pages o.wait o.got o.ran m o.links o.data o.queue
def gcBorn (h:DHeap) (i:Int):DHeap:=if heapOk h&&(inR i 0 9&&((nth h.arena i).kind != 0)) then DHeap.mk (h.arena.set i.toNat (marked (nth h.arena i) ((h.gc.phase==0) || decide (i ≥ h.gc.pos)))) h.gc else h
theorem s_GcBorn {N:Nat} (hN:BIG≤N) {h:DHeap} (h1:szL sz_DObj h.arena<BIG) (h2:h.gc.grey.length<BIG) (hw:wA h.arena) (i:Int):F_s_GcBorn N h i=some (gcBorn h i):=by
  unfold F_s_GcBorn gcBorn
  simp only [s_l10Copy hN h1 h2,s_HeapOk hN h1 h2 hw,s_l8Slot,Option.bind_some,bne]
  cases q:heapOk h
  · rfl
  cases hi:inR i 0 9
  · rfl
  have hr:=inR_iff.1 hi
  simp only [Bool.not_true,cond_false,((heapOk_ar q).at hr.1 hr.2).1,Option.bind_some,Bool.true_and]
  cases (nth h.arena i).kind==0
  · cases h.gc.phase==0 <;> rfl
  · rfl
end Go.Kx
/- Plain laws: a new part. No program in sight. -/
namespace Go.Kx
open Go
set_option linter.unusedVariables false
set_option linter.unusedSimpArgs false
set_option maxRecDepth 10000
def arenaNew:List DObj:=(List.replicate 10 (blank 0)).set 0 (DObj.mk 0 1 (-1) 0 1000000 0 0 0 0 false [-1, -1] [] [])
def aThread:DObj:=DObj.mk 0 4 0 0 1000000 0 0 0 0 false [-1, -1] [] []
def arena1:List DObj:=arenaNew.set 1 (genned aThread 1)
def arena2:List DObj:=arenaNew.set 1 (marked (genned aThread 1) true)
theorem s_ArenaNew (N:Nat):F_s_ArenaNew N=some arenaNew:=rfl
theorem arenaPut_new:arenaPut arenaNew aThread=(arena1,1):=by decide
theorem arenaNew_w:wA arenaNew:=by
  intro o ho
  have:∀ o ∈ arenaNew, -9223372036854775808≤o.wait:=by decide
  exact this o ho
theorem arena1_w:wA arena1:=by
  intro o ho
  have:∀ o ∈ arena1, -9223372036854775808≤o.wait:=by decide
  exact this o ho
def newHeap:DHeap:=DHeap.mk arena2 (DGc.mk 0 0 0 [0])
theorem gcBorn_new:gcBorn (DHeap.mk arena1 (DGc.mk 0 0 0 [0])) 1=newHeap:=by decide
def treeNew (a:DAmt):List DRes:=(List.replicate 5 zRes).set 0 (DRes.mk true (-1) a)
theorem s_TreeNew (N:Nat) (a:DAmt):F_s_TreeNew N a=some (if amtOk a then (treeNew a,true) else ([],false)):=by
  unfold F_s_TreeNew
  rw [s_AmtOk,Option.bind_some]
  cases amtOk a <;> rfl
def zPart:DPart:=DPart.mk (DLabel.mk []) [] [] (DHeap.mk [] (DGc.mk 0 0 0 [])) [] 0 0 (DAmt.mk 0 0 0) 0 0
def newPart (b:DBoot):DPart:=DPart.mk b.label b.own (treeNew b.amt) newHeap [] 0 0 (DAmt.mk 0 0 0) 0 0
def bOk (b:DBoot):Bool:=amtOk b.amt&&(labelOk b.label&&ownOk b.own)
def partNew (b:DBoot):DPart×Bool:=if bOk b then (newPart b,true) else (zPart,false)
theorem aThread_w:wOk aThread:=by show (-9223372036854775808:Int)≤0;decide
theorem newPart_sz (b:DBoot):sz_DPart (newPart b)=sz_DBoot b+20:=by
  show sz_DLabel b.label+(b.own.length+((treeNew b.amt).length+((szL sz_DObj newHeap.arena+((newHeap.gc.grey.length+0)+0))+(([]:List DTap).length+0))))=sz_DLabel b.label+(b.own.length+0)+20
  have h1:szL sz_DObj newHeap.arena=14:=by decide
  have h2:newHeap.gc.grey.length=1:=by decide
  have h3:(treeNew b.amt).length=5:=rfl
  have h4:([]:List DTap).length=0:=rfl
  simp only [h1,h2,h3,h4]
  omega
theorem s_PartNew {N:Nat} (hN:BIG≤N) {b:DBoot} (hb:sz_DBoot b≤1048576):F_s_PartNew N b=some (partNew b):=by
  have h1:b.label.levels.length<BIG∧b.own.length<BIG:=by have:(16777216:Nat)=BIG:=rfl;unfold sz_DBoot sz_DLabel at hb;omega
  unfold F_s_PartNew partNew bOk
  simp only [s_TreeNew,s_LabelOk hN h1.1,s_OwnOk hN h1.2,Option.bind_some,bOr]
  cases amtOk b.amt
  · cases labelOk b.label <;> cases ownOk b.own <;> rfl
  cases labelOk b.label
  · rfl
  cases ownOk b.own
  · rfl
  simp only [if_true,Bool.not_true,Bool.or_self,cond_false,Bool.and_self,s_ArenaNew,Option.bind_some]
  rw [show DObj.mk 0 4 0 0 1000000 0 0 0 0 false ([-1, -1]:List Int) [] []=aThread from rfl,s_ArenaPut hN (by decide) arenaNew_w (by decide) aThread_w,arenaPut_new]
  simp only [Option.bind_some]
  rw [show F_s_GcNew N=some (DGc.mk 0 0 0 [0]) from rfl]
  simp only [Option.bind_some]
  rw [s_GcBorn hN (by decide) (by decide) arena1_w,gcBorn_new]
  simp only [Option.bind_some]
  rw [show DPart.mk b.label b.own (treeNew b.amt) newHeap [] 0 0 (DAmt.mk 0 0 0) 0 0=newPart b from rfl,s_l13Copy hN (by rw [newPart_sz];have:(16777216:Nat)=BIG:=rfl;omega)]
  rfl
end Go.Kx
