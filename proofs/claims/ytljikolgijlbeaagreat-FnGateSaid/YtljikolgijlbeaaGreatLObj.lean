/- Plain laws: things, arenas, heaps, taps, parts: what is right. No program in sight. -/
import Derived.Test.YtljikolgijlbeaaGreatLTree
import Derived.Test.YtljikolgijlbeaaGreatLSame
namespace Go.Kx
open Go
set_option linter.unusedVariables false
set_option linter.unusedSimpArgs false
set_option maxRecDepth 10000
theorem cond_some {α:Type} (p:Bool) (a b:α):(bif p then some a else some b)=some (bif p then a else b):=by cases p <;> rfl
theorem i_isPart (N:Nat) (a:Int):F_i_isPart N a=some (inR a 0 2):=by unfold F_i_isPart;rw [i_in];rfl
theorem i_isSlot (N:Nat) (a:Int):F_i_isSlot N a=some (inR a 0 9):=by unfold F_i_isSlot;rw [i_in];rfl
theorem i_isTime (N:Nat) (a:Int):F_i_isTime N a=some (inR a 0 1000000):=by unfold F_i_isTime;rw [i_in];rfl
theorem i_isHandle (N:Nat) (a:Int):F_i_isHandle N a=some (inR a 0 29999):=by unfold F_i_isHandle;rw [i_in];rfl
def msgOk (m:DMsg):Bool:=!(bif (m.src != (-1)) then (!inR m.src 0 29999 || !inR m.n 0 999) else !inR m.n 0 999)
def listsOk (o:DObj):Bool:=o.links.all (fun y=>inR y (-1) 9)&&(o.data.all (fun y=>inR y 0 999)&&(o.queue.all msgOk&&(((o.links.length:Int)==2)&&(((o.data.length:Int)==(bif o.kind==2 then o.pages else 0))&&decide ((o.queue.length:Int)≤(bif o.kind==3 then 2 else 0))))))
theorem i_listsOk {N:Nat} (hN:BIG≤N) {o:DObj} (ho:sz_DObj o<BIG):F_i_listsOk N o=some (listsOk o):=by
  obtain ⟨h1,h2,h3⟩:=szObj ho
  unfold F_i_listsOk listsOk
  rw [iter_all o.links (fun _ y=>inR y (-1) 9) (.inl (o.links.length:Int)) (.inr false) (Nat.lt_of_lt_of_le h1 hN),allI_const,Option.bind_some]
  · cases o.links.all fun y=>inR y (-1) 9
    · rfl
    simp only [if_true,Sum.elim_inl,Bool.true_and]
    rw [iter_all o.data (fun _ y=>inR y 0 999) (.inl (o.data.length:Int)) (.inr false) (Nat.lt_of_lt_of_le h2 hN),allI_const,Option.bind_some]
    · cases o.data.all fun y=>inR y 0 999
      · rfl
      simp only [if_true,Sum.elim_inl,Bool.true_and]
      rw [iter_all o.queue (fun _ y=>msgOk y) (.inl (o.queue.length:Int)) (.inr false) (Nat.lt_of_lt_of_le h3 hN),allI_const,Option.bind_some]
      · cases o.queue.all msgOk
        · rfl
        simp only [if_true,Sum.elim_inl,Bool.true_and,cond_some,Option.bind_some]
        congr 1
        cases ((o.links.length:Int)==2) <;> cases ((o.data.length:Int)==(bif o.kind==2 then o.pages else 0)) <;> simp
      · intro k y hy hk
        simp only [lt_dec hk,cond_true,idx_nat,hy,Option.bind_some,i_in,i_isHandle,bOr,cond_some,wrap1 (Nat.lt_trans hk h3)]
        unfold msgOk
        cases (y.src != (-1)) <;> cases inR y.src 0 29999 <;> cases inR y.n 0 999 <;> rfl
      · simp only [ge_dec,cond_false]
    · intro k y hy hk
      simp only [lt_dec hk,cond_true,idx_nat,hy,Option.bind_some,i_in,wrap1 (Nat.lt_trans hk h2)]
      cases inR y 0 999 <;> rfl
    · simp only [ge_dec,cond_false]
  · intro k y hy hk
    simp only [lt_dec hk,cond_true,idx_nat,hy,Option.bind_some,i_in,wrap1 (Nat.lt_trans hk h1)]
    cases inR y (-1) 9 <;> rfl
  · simp only [ge_dec,cond_false]
def blank (g:Int):DObj:=DObj.mk g 0 0 0 0 0 0 0 0 false [] [] []
def objOk (o:DObj):Bool:=inR o.gen 0 999&&(inR o.kind 0 4&&(bif o.kind==0 then decide (o=blank o.gen) else
  inR o.box (-1) 9&&(inR o.res 0 4&&(inR o.til 0 1000000&&(inR o.pages 0 8&&(listsOk o&&(bif o.kind != 4 then (o.wait==0&&(o.got==0&&o.ran==0)) else
    (o.wait==0 || inR (IntKind.i64.wrap (o.wait - 1)) 0 29999)&&(inR o.got (-1) 999&&inR o.ran 0 1000000))))))))
theorem i_ObjOk {N:Nat} (hN:BIG≤N) {o:DObj} (ho:sz_DObj o<BIG):F_i_ObjOk N o=some (objOk o):=by
  unfold F_i_ObjOk objOk
  simp only [i_in,i_isPlace,i_isTime,i_isHandle,i_listsOk hN ho,i_sameObj hN ho,Option.bind_some,bOr,bAnd,cond_some]
  rw [show DObj.mk o.gen 0 0 0 0 0 0 0 0 false [] [] []=blank o.gen from rfl]
  congr 1
  simp only [Bool.cond_true_left,Bool.cond_false_left,Bool.cond_true_right,Bool.cond_false_right,Bool.not_or,Bool.not_not,Bool.and_assoc]
  cases o.wait==0 <;> rfl
def wOk (o:DObj):Prop:=-9223372036854775808≤o.wait
end Go.Kx
