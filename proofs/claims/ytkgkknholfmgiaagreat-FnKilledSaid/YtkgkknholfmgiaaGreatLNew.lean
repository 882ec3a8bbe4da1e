/- Plain laws: a new part. No program in sight. -/
import Derived.Test.YtkgkknholfmgiaaGreatLPut
namespace Go.Kx
open Go
set_option linter.unusedVariables false
set_option linter.unusedSimpArgs false
set_option maxRecDepth 10000
def arenaNew:List DObj:=(List.replicate 10 (blank 0)).set 0 (DObj.mk 0 1 (-1) 0 1000000 0 0 0 0 false [-1, -1] [] [])
def aThread:DObj:=DObj.mk 0 4 0 0 1000000 0 0 0 0 false [-1, -1] [] []
def arena1:List DObj:=arenaNew.set 1 (genned aThread 1)
def arena2:List DObj:=arenaNew.set 1 (marked (genned aThread 1) true)
theorem s_ArenaNew (N:Nat):F_s_ArenaNew N=some arenaNew:=rfl
theorem arenaPut_new:arenaPut arenaNew aThread=(arena1,1):=by decide
theorem arenaNew_w:wA arenaNew:=by
  intro o ho
  have:∀ o ∈ arenaNew, -9223372036854775808≤o.wait:=by decide
  exact this o ho
theorem arena1_w:wA arena1:=by
  intro o ho
  have:∀ o ∈ arena1, -9223372036854775808≤o.wait:=by decide
  exact this o ho
def newHeap:DHeap:=DHeap.mk arena2 (DGc.mk 0 0 0 [0])
theorem gcBorn_new:gcBorn (DHeap.mk arena1 (DGc.mk 0 0 0 [0])) 1=newHeap:=by decide
def treeNew (a:DAmt):List DRes:=(List.replicate 5 zRes).set 0 (DRes.mk true (-1) a)
theorem s_TreeNew (N:Nat) (a:DAmt):F_s_TreeNew N a=some (if amtOk a then (treeNew a,true) else ([],false)):=by
  unfold F_s_TreeNew
  rw [s_AmtOk,Option.bind_some]
  cases amtOk a <;> rfl
def zPart:DPart:=DPart.mk (DLabel.mk []) [] [] (DHeap.mk [] (DGc.mk 0 0 0 [])) [] 0 0 (DAmt.mk 0 0 0) 0 0
def newPart (b:DBoot):DPart:=DPart.mk b.label b.own (treeNew b.amt) newHeap [] 0 0 (DAmt.mk 0 0 0) 0 0
def bOk (b:DBoot):Bool:=amtOk b.amt&&(labelOk b.label&&ownOk b.own)
def partNew (b:DBoot):DPart×Bool:=if bOk b then (newPart b,true) else (zPart,false)
theorem aThread_w:wOk aThread:=by show (-9223372036854775808:Int)≤0;decide
theorem newPart_sz (b:DBoot):sz_DPart (newPart b)=sz_DBoot b+20:=by
  show sz_DLabel b.label+(b.own.length+((treeNew b.amt).length+((szL sz_DObj newHeap.arena+((newHeap.gc.grey.length+0)+0))+(([]:List DTap).length+0))))=sz_DLabel b.label+(b.own.length+0)+20
  have h1:szL sz_DObj newHeap.arena=14:=by decide
  have h2:newHeap.gc.grey.length=1:=by decide
  have h3:(treeNew b.amt).length=5:=rfl
  have h4:([]:List DTap).length=0:=rfl
  simp only [h1,h2,h3,h4]
  omega
theorem s_PartNew {N:Nat} (hN:BIG≤N) {b:DBoot} (hb:sz_DBoot b≤1048576):F_s_PartNew N b=some (partNew b):=by
  have h1:b.label.levels.length<BIG∧b.own.length<BIG:=by have:(16777216:Nat)=BIG:=rfl;unfold sz_DBoot sz_DLabel at hb;omega
  unfold F_s_PartNew partNew bOk
  simp only [s_TreeNew,s_LabelOk hN h1.1,s_OwnOk hN h1.2,Option.bind_some,bOr]
  cases amtOk b.amt
  · cases labelOk b.label <;> cases ownOk b.own <;> rfl
  cases labelOk b.label
  · rfl
  cases ownOk b.own
  · rfl
  simp only [if_true,Bool.not_true,Bool.or_self,cond_false,Bool.and_self,s_ArenaNew,Option.bind_some]
  rw [show DObj.mk 0 4 0 0 1000000 0 0 0 0 false ([-1, -1]:List Int) [] []=aThread from rfl,s_ArenaPut hN (by decide) arenaNew_w (by decide) aThread_w,arenaPut_new]
  simp only [Option.bind_some]
  rw [show F_s_GcNew N=some (DGc.mk 0 0 0 [0]) from rfl]
  simp only [Option.bind_some]
  rw [s_GcBorn hN (by decide) (by decide) arena1_w,gcBorn_new]
  simp only [Option.bind_some]
  rw [show DPart.mk b.label b.own (treeNew b.amt) newHeap [] 0 0 (DAmt.mk 0 0 0) 0 0=newPart b from rfl,s_l13Copy hN (by rw [newPart_sz];have:(16777216:Nat)=BIG:=rfl;omega)]
  rfl
end Go.Kx
