/- Plain laws: what is paid and paid back; who runs next. No program in sight. -/
import Derived.Test.YtkgkknholfmgiaaGreatLKill
namespace Go.Kx
open Go
set_option linter.unusedVariables false
set_option linter.unusedSimpArgs false
set_option maxRecDepth 10000
def amtOne (w n:Int):DAmt:=if w==0 then ⟨n,0,0⟩ else if w==1 then ⟨0,n,0⟩ else if w==2 then ⟨0,0,n⟩ else ⟨0,0,0⟩
theorem s_AmtOne (N:Nat) (w n:Int):F_s_AmtOne N w n=some (amtOne w n):=by
  unfold F_s_AmtOne amtOne
  cases w==0 <;> cases w==1 <;> cases w==2 <;> rfl
def amtFits (a b:DAmt):Bool:=amtOk a&&(amtOk b&&(decide (a.pages≤b.pages)&&(decide (a.rent≤b.rent)&&decide (a.cpu≤b.cpu))))
theorem s_AmtFits (N:Nat) (a b:DAmt):F_s_AmtFits N a b=some (amtFits a b):=by
  unfold F_s_AmtFits amtFits
  simp only [s_AmtOk,Option.bind_some,bAnd]
def amtMinus (a b:DAmt):DAmt:=⟨IntKind.i64.wrap (a.pages - b.pages),IntKind.i64.wrap (a.rent - b.rent),IntKind.i64.wrap (a.cpu - b.cpu)⟩
def amtSub (a b:DAmt):DAmt×Bool:=if amtFits b a then (amtMinus a b,true) else (a,false)
theorem s_AmtSub (N:Nat) (a b:DAmt):F_s_AmtSub N a b=some (amtSub a b):=by
  unfold F_s_AmtSub amtSub
  rw [s_AmtFits,Option.bind_some]
  cases amtFits b a <;> rfl
def withBal (r:DRes) (b:DAmt):DRes:=DRes.mk r.live r.parent b
theorem nth_get {α:Type} [Dat α] {l:List α} {i:Int} (h0:0≤i) (h1:i<(l.length:Int)):l[i.toNat]?=some (nth l i):=by
  have:=idx_ok (l:=l) h0 h1
  unfold idx at this
  rwa [if_pos h0] at this
def treePay (t:List DRes) (f:Int) (a:DAmt):List DRes×Bool :=
  if treeOk t&&liveAt t f then (if amtFits a (nth t f).bal then (t.set f.toNat (withBal (nth t f) (amtMinus (nth t f).bal a)),true) else (t,false)) else (t,false)
theorem s_TreePay {N:Nat} (hN:BIG≤N) {t:List DRes} (hB:t.length<BIG) (f:Int) (a:DAmt):F_s_TreePay N t f a=some (treePay t f a):=by
  unfold F_s_TreePay treePay
  simp only [s_l6Copy hB,s_l6Live hN,Option.bind_some]
  cases h:(treeOk t&&liveAt t f)
  · rfl
  rw [Bool.and_eq_true] at h
  have hl:=treeLen h.1
  obtain ⟨f0,f4⟩:=liveAt_rng h.2
  simp only [Bool.not_true,cond_false,idx_ok (l:=t) f0 (by omega),s_AmtSub,Option.bind_some,if_true]
  unfold amtSub
  cases amtFits a (nth t f).bal <;> rfl
theorem treePay_len (t:List DRes) (f:Int) (a:DAmt):(treePay t f a).1.length=t.length:=by
  unfold treePay
  split
  · split <;> simp
  · rfl
end Go.Kx
