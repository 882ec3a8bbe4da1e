/- What each function computes, as a plain function. Printed by drive.py. -/
import Derived.Test.YtecnkfamlpjbgaaDat
namespace Go.Kx
open Go
set_option maxRecDepth 10000
set_option maxHeartbeats 2000000
set_option linter.unusedVariables false
set_option linter.unusedSimpArgs false
def F_s_l1In (N : Nat) (x0 : Int) (x1 : Int) (x2 : Int) : Option Bool :=
  bif (decide (x0 ≥ x1)) then (some (decide (x0 ≤ x2))) else (some false)
def F_s_CodeWord (N : Nat) (x0 : Int) : Option Str :=
  (F_s_l1In N x0 0 8).bind fun y1 => bif (!y1) then (some (⟨#[]⟩ : ByteArray)) else ((idx ([(⟨#[111, 107]⟩ : ByteArray), (⟨#[100, 101, 97, 100]⟩ : ByteArray), (⟨#[98, 97, 100]⟩ : ByteArray), (⟨#[102, 108, 111, 119]⟩ : ByteArray), (⟨#[115, 116, 97, 108, 101]⟩ : ByteArray), (⟨#[107, 105, 110, 100]⟩ : ByteArray), (⟨#[112, 111, 111, 114]⟩ : ByteArray), (⟨#[102, 117, 108, 108]⟩ : ByteArray), (⟨#[98, 117, 115, 121]⟩ : ByteArray)] : List Str) x0).bind fun y7 => some y7)
def F_i_within (N : Nat) (x0 : Int) (x1 : Int) (x2 : Int) : Option Bool :=
  bif (decide (x0 ≥ x1)) then (some (decide (x0 ≤ x2))) else (some false)
def F_i_CodeWord (N : Nat) (x0 : Int) : Option Str :=
  (F_i_within N x0 0 8).bind fun y1 => bif (!y1) then (some (⟨#[]⟩ : ByteArray)) else ((idx ([(⟨#[111, 107]⟩ : ByteArray), (⟨#[100, 101, 97, 100]⟩ : ByteArray), (⟨#[98, 97, 100]⟩ : ByteArray), (⟨#[102, 108, 111, 119]⟩ : ByteArray), (⟨#[115, 116, 97, 108, 101]⟩ : ByteArray), (⟨#[107, 105, 110, 100]⟩ : ByteArray), (⟨#[112, 111, 111, 114]⟩ : ByteArray), (⟨#[102, 117, 108, 108]⟩ : ByteArray), (⟨#[98, 117, 115, 121]⟩ : ByteArray)] : List Str) x0).bind fun y7 => some y7)
def F_l_FnExactCodeWord (N : Nat) (x0 : Int) : Option Bool :=
  (F_s_CodeWord N x0).bind fun y1 => (F_i_CodeWord N x0).bind fun y3 => bif (!(y3.toList == y1.toList)) then (some false) else (some true)
def F_s_l5In (N : Nat) (x0 : Int) : Option Bool :=
  (F_s_l1In N x0 0 1000000).bind fun y1 => some y1
def F_s_QuotaNew (N : Nat) (x0 : Int) : Option ((List DNode) × Bool) :=
  (F_s_l5In N x0).bind fun y1 => bif (!y1) then (some (([] : List DNode), false)) else (some (([DNode.mk (-1) x0 0] : List DNode), true))
def F_i_isAmount (N : Nat) (x0 : Int) : Option Bool :=
  (F_i_within N x0 0 1000000).bind fun y1 => some y1
def F_i_QuotaNew (N : Nat) (x0 : Int) : Option ((List DNode) × Bool) :=
  (F_i_isAmount N x0).bind fun y1 => bif (!y1) then (some ([], false)) else (some (([DNode.mk (-1) x0 0] : List DNode), true))
def F_l_eqNode (N : Nat) (x0 : DNode) (x1 : DNode) : Option Bool :=
  bif (x0.parent != x1.parent) then (some false) else (bif (x0.limit != x1.limit) then (some false) else (bif (x0.used != x1.used) then (some false) else (some true)))
def F_l_eqNodeS (N : Nat) (x0 : List DNode) (x1 : List DNode) : Option Bool :=
  bif ((x0.length : Int) != (x1.length : Int)) then (some false) else ((iter (fun (s2 : Int) => (bif (decide (s2 < (x0.length : Int))) then ((idx x0 s2).bind fun y4 => (idx x1 s2).bind fun y13 => (F_l_eqNode N y4 y13).bind fun y22 => bif (!y22) then (some (.inr (.inr false))) else (some (.inl (IntKind.i64.wrap (s2 + 1))))) else (some (.inr (.inl s2))) : Option (Int ⊕ (Int ⊕ Bool)))) N 0).bind fun o25 => Sum.elim (fun o25 => some true) (fun r28 => some r28) o25)
def F_l_markNodeS (N : Nat) (x0 : List DNode) (x1 : Int) : Option (Int × (List DNode)) :=
  (iter (fun (s1 : (List DNode) × Int × Int) => (bif (decide (s1.2.2 < (s1.1.length : Int))) then ((idx s1.1 s1.2.2).bind fun y3 => (some (s1.1.set (s1.2.2 : Int).toNat (DNode.mk s1.2.1 y3.limit y3.used))).bind fun y8 => (idx y8 s1.2.2).bind fun y10 => (some (y8.set (s1.2.2 : Int).toNat (DNode.mk y10.parent (IntKind.i64.wrap (s1.2.1 + 1)) y10.used))).bind fun y15 => (idx y15 s1.2.2).bind fun y17 => (some (y15.set (s1.2.2 : Int).toNat (DNode.mk y17.parent y17.limit (IntKind.i64.wrap ((IntKind.i64.wrap (s1.2.1 + 1)) + 1))))).bind fun y22 => some (.inl (y22, IntKind.i64.wrap ((IntKind.i64.wrap ((IntKind.i64.wrap (s1.2.1 + 1)) + 1)) + 1), IntKind.i64.wrap (s1.2.2 + 1)))) else (some (.inr (s1.1, s1.2.1, s1.2.2))) : Option (((List DNode) × Int × Int) ⊕ ((List DNode) × Int × Int)))) N (x0, x1, 0)).bind fun o24 => some (o24.2.1, o24.1)
def F_l_heldNodeS (N : Nat) (x0 : List DNode) (x1 : Int) : Option Int :=
  (iter (fun (s1 : Int × Int) => (bif (decide (s1.2 < (x0.length : Int))) then ((idx x0 s1.2).bind fun y3 => bif (y3.parent != s1.1) then (some (.inr (.inr (-1)))) else (bif (y3.limit != (IntKind.i64.wrap (s1.1 + 1))) then (some (.inr (.inr (-1)))) else (bif (y3.used != (IntKind.i64.wrap ((IntKind.i64.wrap (s1.1 + 1)) + 1))) then (some (.inr (.inr (-1)))) else (some (.inl (IntKind.i64.wrap ((IntKind.i64.wrap ((IntKind.i64.wrap (s1.1 + 1)) + 1)) + 1), IntKind.i64.wrap (s1.2 + 1))))))) else (some (.inr (.inl (s1.1, s1.2)))) : Option ((Int × Int) ⊕ ((Int × Int) ⊕ Int)))) N (x1, 0)).bind fun o15 => Sum.elim (fun o15 => some o15.1) (fun r18 => some r18) o15
def F_l_FnExactQuotaNew (N : Nat) (x0 : Int) : Option Bool :=
  (F_s_QuotaNew N x0).bind fun y1 => (F_i_QuotaNew N x0).bind fun y5 => ((F_l_eqNodeS N y5.1 y1.1).bind fun y11 => bif (!y11) then (some true) else (some (!(y5.2 == y1.2))) : Option Bool).bind fun j9 => bif j9 then (some false) else (((F_l_markNodeS N y5.1 1).bind fun r => keepL y5.1 r.2 (some r)).bind fun y16 => (F_l_heldNodeS N y16.2 1).bind fun y23 => bif (decide (y23 < 0)) then (some false) else (bif (y23 != y16.1) then (some false) else ((F_i_QuotaNew N x0).bind fun y27 => ((F_l_eqNodeS N y27.1 y1.1).bind fun y33 => bif (!y33) then (some true) else (some (!(y27.2 == y1.2))) : Option Bool).bind fun j31 => bif j31 then (some false) else ((F_l_heldNodeS N y16.2 1).bind fun y38 => bif (decide (y38 < 0)) then (some false) else (bif (y38 != y16.1) then (some false) else (some true))))))
def F_l_szEntryS (N : Nat) (x0 : List DEntry) (x1 : Int) : Option Int :=
  bif (decide ((IntKind.i64.wrap (x1 - (x0.length : Int))) < 0)) then (some (-1)) else (some (IntKind.i64.wrap (x1 - (x0.length : Int))))
def F_l_toCall (N : Nat) (x0 : DCall) : Option DCall :=
  some x0
def F_l_toEntry (N : Nat) (x0 : DEntry) : Option DEntry :=
  (F_l_toCall N x0.call).bind fun y10 => some (DEntry.mk x0.kind x0.part x0.thread y10)
def F_l_toEntryS (N : Nat) (x0 : List DEntry) : Option (List DEntry) :=
  (mk DEntry (x0.length : Int)).bind fun y1 => (iter (fun (s5 : (List DEntry) × Int) => (bif (decide (s5.2 < (x0.length : Int))) then ((idx x0 s5.2).bind fun y7 => (F_l_toEntry N y7).bind fun y16 => (idx s5.1 s5.2).bind fun y18 => (some (s5.1.set (s5.2 : Int).toNat y16)).bind fun y23 => some (.inl (y23, IntKind.i64.wrap (s5.2 + 1)))) else (some (.inr (s5.1, s5.2))) : Option (((List DEntry) × Int) ⊕ ((List DEntry) × Int)))) N (y1, 0)).bind fun o25 => some o25.1
def F_s_Ticks (N : Nat) (x0 : List DEntry) : Option Int :=
  (iter (fun (s1 : Int × Int) => (bif (decide (s1.2 < (x0.length : Int))) then ((idx x0 s1.2).bind fun y3 => bif (y3.kind == 1) then (some (.inl (IntKind.i64.wrap (s1.1 + 1), IntKind.i64.wrap (s1.2 + 1)))) else (some (.inl (s1.1, IntKind.i64.wrap (s1.2 + 1))))) else (some (.inr (s1.1, s1.2))) : Option ((Int × Int) ⊕ (Int × Int)))) N (0, 0)).bind fun o13 => some o13.1
def F_i_Ticks (N : Nat) (x0 : List DEntry) : Option Int :=
  (iter (fun (s1 : Int × Int) => (bif (decide (s1.2 < (x0.length : Int))) then ((idx x0 s1.2).bind fun y3 => bif (y3.kind == 1) then (some (.inl (IntKind.i64.wrap (s1.1 + 1), IntKind.i64.wrap (s1.2 + 1)))) else (some (.inl (s1.1, IntKind.i64.wrap (s1.2 + 1))))) else (some (.inr (s1.1, s1.2))) : Option ((Int × Int) ⊕ (Int × Int)))) N (0, 0)).bind fun o16 => some o16.1
def F_l_eqCall (N : Nat) (x0 : DCall) (x1 : DCall) : Option Bool :=
  bif (x0.kind != x1.kind) then (some false) else (bif (x0.a != x1.a) then (some false) else (bif (x0.b != x1.b) then (some false) else (bif (x0.c != x1.c) then (some false) else (bif (x0.d != x1.d) then (some false) else (bif (x0.e != x1.e) then (some false) else (some true))))))
def F_l_eqEntry (N : Nat) (x0 : DEntry) (x1 : DEntry) : Option Bool :=
  bif (x0.kind != x1.kind) then (some false) else (bif (x0.part != x1.part) then (some false) else (bif (x0.thread != x1.thread) then (some false) else ((F_l_eqCall N x0.call x1.call).bind fun y8 => bif (!y8) then (some false) else (some true))))
def F_l_eqEntryS (N : Nat) (x0 : List DEntry) (x1 : List DEntry) : Option Bool :=
  bif ((x0.length : Int) != (x1.length : Int)) then (some false) else ((iter (fun (s2 : Int) => (bif (decide (s2 < (x0.length : Int))) then ((idx x0 s2).bind fun y4 => (idx x1 s2).bind fun y13 => (F_l_eqEntry N y4 y13).bind fun y22 => bif (!y22) then (some (.inr (.inr false))) else (some (.inl (IntKind.i64.wrap (s2 + 1))))) else (some (.inr (.inl s2))) : Option (Int ⊕ (Int ⊕ Bool)))) N 0).bind fun o25 => Sum.elim (fun o25 => some true) (fun r28 => some r28) o25)
def F_l_FnExactTicks (N : Nat) (x0 : List DEntry) : Option Bool :=
  (F_l_szEntryS N x0 1048576).bind fun y1 => bif (decide (y1 < 0)) then (some true) else ((F_l_toEntryS N x0).bind fun y4 => (F_s_Ticks N y4).bind fun y8 => (F_l_toEntryS N x0).bind fun y10 => (F_i_Ticks N y10).bind fun y14 => bif (y14 != y8) then (some false) else ((F_l_toEntryS N x0).bind fun y17 => (F_l_eqEntryS N y10 y17).bind fun y21 => bif (!y21) then (some false) else (some true)))
def F_l_szIntS (N : Nat) (x0 : List Int) (x1 : Int) : Option Int :=
  bif (decide ((IntKind.i64.wrap (x1 - (x0.length : Int))) < 0)) then (some (-1)) else (some (IntKind.i64.wrap (x1 - (x0.length : Int))))
def F_l_szLabel (N : Nat) (x0 : DLabel) (x1 : Int) : Option Int :=
  (F_l_szIntS N x0.levels x1).bind fun y3 => bif (decide (y3 < 0)) then (some (-1)) else (some y3)
def F_l_szPartBoot (N : Nat) (x0 : DBoot) (x1 : Int) : Option Int :=
  (F_l_szLabel N x0.label x1).bind fun y3 => bif (decide (y3 < 0)) then (some (-1)) else ((F_l_szIntS N x0.own y3).bind fun y6 => bif (decide (y6 < 0)) then (some (-1)) else (some y6))
def F_l_szPartBootS (N : Nat) (x0 : List DBoot) (x1 : Int) : Option Int :=
  bif (decide ((IntKind.i64.wrap (x1 - (x0.length : Int))) < 0)) then (some (-1)) else ((iter (fun (s2 : Int × Int) => (bif (decide (s2.2 < (x0.length : Int))) then ((idx x0 s2.2).bind fun y4 => (F_l_szPartBoot N y4 s2.1).bind fun y19 => bif (decide (y19 < 0)) then (some (.inr (.inr (-1)))) else (some (.inl (y19, IntKind.i64.wrap (s2.2 + 1))))) else (some (.inr (.inl (s2.1, s2.2)))) : Option ((Int × Int) ⊕ ((Int × Int) ⊕ Int)))) N (IntKind.i64.wrap (x1 - (x0.length : Int)), 0)).bind fun o22 => Sum.elim (fun o22 => some o22.1) (fun r25 => some r25) o22)
def F_l_toIntS (N : Nat) (x0 : List Int) : Option (List Int) :=
  (mk Int (x0.length : Int)).bind fun y1 => (iter (fun (s5 : (List Int) × Int) => (bif (decide (s5.2 < (x0.length : Int))) then ((idx x0 s5.2).bind fun y7 => (idx s5.1 s5.2).bind fun y16 => (some (s5.1.set (s5.2 : Int).toNat y7)).bind fun y21 => some (.inl (y21, IntKind.i64.wrap (s5.2 + 1)))) else (some (.inr (s5.1, s5.2))) : Option (((List Int) × Int) ⊕ ((List Int) × Int)))) N (y1, 0)).bind fun o23 => some o23.1
def F_l_toLabel (N : Nat) (x0 : DLabel) : Option DLabel :=
  (F_l_toIntS N x0.levels).bind fun y7 => some (DLabel.mk y7)
def F_l_toAmt (N : Nat) (x0 : DAmt) : Option DAmt :=
  some x0
def F_l_toPartBoot (N : Nat) (x0 : DBoot) : Option DBoot :=
  (F_l_toLabel N x0.label).bind fun y7 => (F_l_toIntS N x0.own).bind fun y12 => (F_l_toAmt N x0.amt).bind fun y17 => some (DBoot.mk y7 y12 y17)
def F_l_toPartBootS (N : Nat) (x0 : List DBoot) : Option (List DBoot) :=
  (mk DBoot (x0.length : Int)).bind fun y1 => (iter (fun (s5 : (List DBoot) × Int) => (bif (decide (s5.2 < (x0.length : Int))) then ((idx x0 s5.2).bind fun y7 => (F_l_toPartBoot N y7).bind fun y22 => (idx s5.1 s5.2).bind fun y28 => (some (s5.1.set (s5.2 : Int).toNat y22)).bind fun y33 => some (.inl (y33, IntKind.i64.wrap (s5.2 + 1)))) else (some (.inr (s5.1, s5.2))) : Option (((List DBoot) × Int) ⊕ ((List DBoot) × Int)))) N (y1, 0)).bind fun o35 => some o35.1
def F_s_LabelOk (N : Nat) (x0 : DLabel) : Option Bool :=
  bif ((x0.levels.length : Int) != 4) then (some false) else ((iter (fun (s4 : Int) => (bif (decide (s4 < (x0.levels.length : Int))) then ((idx x0.levels s4).bind fun y6 => (F_s_l1In N y6 0 3).bind fun y15 => bif (!y15) then (some (.inr (.inr false))) else (some (.inl (IntKind.i64.wrap (s4 + 1))))) else (some (.inr (.inl s4))) : Option (Int ⊕ (Int ⊕ Bool)))) N 0).bind fun o18 => Sum.elim (fun o18 => some true) (fun r21 => some r21) o18)
def F_s_OwnOk (N : Nat) (x0 : List Int) : Option Bool :=
  (iter (fun (s1 : Int) => (bif (decide (s1 < (x0.length : Int))) then (((idx x0 s1).bind fun y5 => (F_s_l1In N y5 0 3).bind fun y14 => bif (!y14) then (some true) else (bif (decide (s1 > 0)) then ((idx x0 (IntKind.i64.wrap (s1 - 1))).bind fun y18 => some (decide (y5 ≤ y18))) else (some false)) : Option Bool).bind fun j3 => bif j3 then (some (.inr (.inr false))) else (some (.inl (IntKind.i64.wrap (s1 + 1))))) else (some (.inr (.inl s1))) : Option (Int ⊕ (Int ⊕ Bool)))) N 0).bind fun o29 => Sum.elim (fun o29 => some true) (fun r32 => some r32) o29
def F_s_AmtOk (N : Nat) (x0 : DAmt) : Option Bool :=
  (F_s_l5In N x0.pages).bind fun y3 => bif y3 then ((F_s_l5In N x0.rent).bind fun y6 => bif y6 then ((F_s_l5In N x0.cpu).bind fun y9 => some y9) else (some false)) else (some false)
def F_s_AmtAdd (N : Nat) (x0 : DAmt) (x1 : DAmt) : Option (DAmt × Bool) :=
  ((F_s_AmtOk N x0).bind fun y9 => bif (!y9) then (some true) else ((F_s_AmtOk N x1).bind fun y12 => some (!y12)) : Option Bool).bind fun j7 => bif j7 then (some (x0, false)) else ((F_s_AmtOk N (DAmt.mk (IntKind.i64.wrap (x0.pages + x1.pages)) (IntKind.i64.wrap (x0.rent + x1.rent)) (IntKind.i64.wrap (x0.cpu + x1.cpu)))).bind fun y20 => bif (!y20) then (some (x0, false)) else (some (DAmt.mk (IntKind.i64.wrap (x0.pages + x1.pages)) (IntKind.i64.wrap (x0.rent + x1.rent)) (IntKind.i64.wrap (x0.cpu + x1.cpu)), true)))
def F_s_BootOk (N : Nat) (x0 : List DBoot) : Option Bool :=
  (iter (fun (s4 : Int × Int × Int × Int) => ((bif (decide (s4.1 < (x0.length : Int))) then (some (decide (s4.1 < 3))) else (some false) : Option Bool).bind fun j5 => bif j5 then (((idx x0 s4.1).bind fun y12 => (F_s_LabelOk N y12.label).bind fun y27 => bif (!y27) then (some true) else ((F_s_OwnOk N y12.own).bind fun y30 => some (!y30)) : Option Bool).bind fun j10 => bif j10 then (some (.inr (.inr false))) else (((idx x0 s4.1).bind fun y36 => (F_s_AmtAdd N (DAmt.mk s4.2.1 s4.2.2.1 s4.2.2.2) y36.amt).bind fun y51 => some (y51.1.pages, y51.1.rent, y51.1.cpu, y51.2) : Option (Int × Int × Int × Bool)).bind fun j34 => bif (!j34.2.2.2) then (some (.inr (.inr false))) else (some (.inl (IntKind.i64.wrap (s4.1 + 1), j34.1, j34.2.1, j34.2.2.1))))) else (some (.inr (.inl (s4.1, s4.2.1, s4.2.2.1, s4.2.2.2)))) : Option ((Int × Int × Int × Int) ⊕ ((Int × Int × Int × Int) ⊕ Bool)))) N (0, 0, 0, 0)).bind fun o67 => Sum.elim (fun o67 => (F_s_l1In N (x0.length : Int) 1 3).bind fun y70 => some y70) (fun r72 => some r72) o67
def F_i_AmtOk (N : Nat) (x0 : DAmt) : Option Bool :=
  (F_i_isAmount N x0.pages).bind fun y3 => bif y3 then ((F_i_isAmount N x0.rent).bind fun y6 => bif y6 then ((F_i_isAmount N x0.cpu).bind fun y9 => some y9) else (some false)) else (some false)
def F_i_sumOf (N : Nat) (x0 : DAmt) (x1 : DAmt) : Option DAmt :=
  some (DAmt.mk (IntKind.i64.wrap (x0.pages + x1.pages)) (IntKind.i64.wrap (x0.rent + x1.rent)) (IntKind.i64.wrap (x0.cpu + x1.cpu)))
def F_i_AmtAdd (N : Nat) (x0 : DAmt) (x1 : DAmt) : Option (DAmt × Bool) :=
  ((F_i_AmtOk N x0).bind fun y9 => bif (!y9) then (some true) else ((F_i_AmtOk N x1).bind fun y12 => bif (!y12) then (some true) else ((F_i_sumOf N x0 x1).bind fun y15 => (F_i_AmtOk N y15).bind fun y17 => some (!y17))) : Option Bool).bind fun j7 => bif j7 then (some (x0, false)) else ((F_i_sumOf N x0 x1).bind fun y22 => some (y22, true))
def F_i_LabelOk (N : Nat) (x0 : DLabel) : Option Bool :=
  (iter (fun (s3 : Int) => (bif (decide (s3 < (x0.levels.length : Int))) then ((idx x0.levels s3).bind fun y5 => (F_i_within N y5 0 3).bind fun y14 => bif (!y14) then (some (.inr (.inr false))) else (some (.inl (IntKind.i64.wrap (s3 + 1))))) else (some (.inr (.inl s3))) : Option (Int ⊕ (Int ⊕ Bool)))) N 0).bind fun o17 => Sum.elim (fun o17 => some ((x0.levels.length : Int) == 4)) (fun r20 => some r20) o17
def F_i_OwnOk (N : Nat) (x0 : List Int) : Option Bool :=
  (iter (fun (s1 : Int) => (bif (decide (s1 < (x0.length : Int))) then ((idx x0 s1).bind fun y3 => ((F_i_within N y3 0 3).bind fun y14 => bif (!y14) then (some true) else (bif (decide (s1 > 0)) then ((idx x0 (IntKind.i64.wrap (s1 - 1))).bind fun y18 => some (decide (y18 ≥ y3))) else (some false)) : Option Bool).bind fun j12 => bif j12 then (some (.inr (.inr false))) else (some (.inl (IntKind.i64.wrap (s1 + 1))))) else (some (.inr (.inl s1))) : Option (Int ⊕ (Int ⊕ Bool)))) N 0).bind fun o29 => Sum.elim (fun o29 => some true) (fun r32 => some r32) o29
def F_i_BootOk (N : Nat) (x0 : List DBoot) : Option Bool :=
  (iter (fun (s4 : Int × Int × Int × Int) => (bif (decide (s4.1 < (x0.length : Int))) then ((idx x0 s4.1).bind fun y6 => (F_i_AmtAdd N (DAmt.mk s4.2.1 s4.2.2.1 s4.2.2.2) y6.amt).bind fun y24 => (bif (!y24.2) then (some true) else ((F_i_LabelOk N y6.label).bind fun y32 => bif (!y32) then (some true) else ((F_i_OwnOk N y6.own).bind fun y35 => some (!y35))) : Option Bool).bind fun j29 => bif j29 then (some (.inr (.inr false))) else (some (.inl (IntKind.i64.wrap (s4.1 + 1), y24.1.pages, y24.1.rent, y24.1.cpu)))) else (some (.inr (.inl (s4.1, s4.2.1, s4.2.2.1, s4.2.2.2)))) : Option ((Int × Int × Int × Int) ⊕ ((Int × Int × Int × Int) ⊕ Bool)))) N (0, 0, 0, 0)).bind fun o40 => Sum.elim (fun o40 => (F_i_within N (x0.length : Int) 1 3).bind fun y43 => some y43) (fun r45 => some r45) o40
def F_l_eqIntS (N : Nat) (x0 : List Int) (x1 : List Int) : Option Bool :=
  bif ((x0.length : Int) != (x1.length : Int)) then (some false) else ((iter (fun (s2 : Int) => (bif (decide (s2 < (x0.length : Int))) then ((idx x0 s2).bind fun y4 => (idx x1 s2).bind fun y13 => bif (y4 != y13) then (some (.inr (.inr false))) else (some (.inl (IntKind.i64.wrap (s2 + 1))))) else (some (.inr (.inl s2))) : Option (Int ⊕ (Int ⊕ Bool)))) N 0).bind fun o23 => Sum.elim (fun o23 => some true) (fun r26 => some r26) o23)
def F_l_eqLabel (N : Nat) (x0 : DLabel) (x1 : DLabel) : Option Bool :=
  (F_l_eqIntS N x0.levels x1.levels).bind fun y5 => bif (!y5) then (some false) else (some true)
def F_l_eqAmt (N : Nat) (x0 : DAmt) (x1 : DAmt) : Option Bool :=
  bif (x0.pages != x1.pages) then (some false) else (bif (x0.rent != x1.rent) then (some false) else (bif (x0.cpu != x1.cpu) then (some false) else (some true)))
def F_l_eqPartBoot (N : Nat) (x0 : DBoot) (x1 : DBoot) : Option Bool :=
  (F_l_eqLabel N x0.label x1.label).bind fun y5 => bif (!y5) then (some false) else ((F_l_eqIntS N x0.own x1.own).bind fun y8 => bif (!y8) then (some false) else ((F_l_eqAmt N x0.amt x1.amt).bind fun y11 => bif (!y11) then (some false) else (some true)))
def F_l_eqPartBootS (N : Nat) (x0 : List DBoot) (x1 : List DBoot) : Option Bool :=
  bif ((x0.length : Int) != (x1.length : Int)) then (some false) else ((iter (fun (s2 : Int) => (bif (decide (s2 < (x0.length : Int))) then ((idx x0 s2).bind fun y4 => (idx x1 s2).bind fun y19 => (F_l_eqPartBoot N y4 y19).bind fun y34 => bif (!y34) then (some (.inr (.inr false))) else (some (.inl (IntKind.i64.wrap (s2 + 1))))) else (some (.inr (.inl s2))) : Option (Int ⊕ (Int ⊕ Bool)))) N 0).bind fun o37 => Sum.elim (fun o37 => some true) (fun r40 => some r40) o37)
def F_l_FnExactBootOk (N : Nat) (x0 : List DBoot) : Option Bool :=
  (F_l_szPartBootS N x0 1048576).bind fun y1 => bif (decide (y1 < 0)) then (some true) else ((F_l_toPartBootS N x0).bind fun y4 => (F_s_BootOk N y4).bind fun y8 => (F_l_toPartBootS N x0).bind fun y10 => (F_i_BootOk N y10).bind fun y14 => bif (!(y14 == y8)) then (some false) else ((F_l_toPartBootS N x0).bind fun y17 => (F_l_eqPartBootS N y10 y17).bind fun y21 => bif (!y21) then (some false) else (some true)))
def F_s_Flows (N : Nat) (x0 : DLabel) (x1 : DLabel) : Option Bool :=
  ((F_s_LabelOk N x0).bind fun y7 => bif (!y7) then (some true) else ((F_s_LabelOk N x1).bind fun y10 => some (!y10)) : Option Bool).bind fun j5 => bif j5 then (some false) else ((iter (fun (s14 : Int) => (bif (decide (s14 < 4)) then ((idx x0.levels s14).bind fun y16 => (idx x1.levels s14).bind fun y25 => bif (decide (y16 > y25)) then (some (.inr (.inr false))) else (some (.inl (IntKind.i64.wrap (s14 + 1))))) else (some (.inr (.inl s14))) : Option (Int ⊕ (Int ⊕ Bool)))) N 0).bind fun o35 => Sum.elim (fun o35 => some true) (fun r38 => some r38) o35)
def F_s_Seen (N : Nat) (x0 : List DBoot) (x1 : DEntry) (x2 : DLabel) : Option Bool :=
  bif (x1.kind == 1) then (some true) else ((F_s_l1In N x1.part 0 (IntKind.i64.wrap ((x0.length : Int) - 1))).bind fun y6 => bif y6 then ((idx x0 x1.part).bind fun y9 => (F_s_Flows N y9.label x2).bind fun y24 => some y24) else (some false))
def F_i_above (N : Nat) (x0 : DLabel) (x1 : DLabel) : Option (List Int) :=
  (iter (fun (s8 : (List Int) × Int) => (bif (decide (s8.2 < (x0.levels.length : Int))) then ((idx x0.levels s8.2).bind fun y10 => (idx x1.levels s8.2).bind fun y19 => bif (decide (y10 > y19)) then ((app s8.1 [s8.2]).bind fun y29 => some (.inl (y29, IntKind.i64.wrap (s8.2 + 1)))) else (some (.inl (s8.1, IntKind.i64.wrap (s8.2 + 1))))) else (some (.inr (s8.1, s8.2))) : Option (((List Int) × Int) ⊕ ((List Int) × Int)))) N (([] : List Int), 0)).bind fun o34 => some o34.1
def F_z_Index_int (N : Nat) (x0 : List Int) (x1 : Int) : Option Int :=
  (iter (fun (s1 : Int) => (bif (decide (s1 < (x0.length : Int))) then ((idx x0 s1).bind fun y3 => bif (x1 == y3) then (some (.inr (.inr s1))) else (some (.inl (IntKind.i64.wrap (s1 + 1))))) else (some (.inr (.inl s1))) : Option (Int ⊕ (Int ⊕ Int)))) N 0).bind fun o13 => Sum.elim (fun o13 => some (-1)) (fun r16 => some r16) o13
def F_z_Contains_int (N : Nat) (x0 : List Int) (x1 : Int) : Option Bool :=
  (F_z_Index_int N x0 x1).bind fun y1 => some (decide (y1 ≥ 0))
def F_i_FlowsFor (N : Nat) (x0 : List Int) (x1 : DLabel) (x2 : DLabel) : Option Bool :=
  ((F_i_OwnOk N x0).bind fun y7 => bif (!y7) then (some true) else ((F_i_LabelOk N x1).bind fun y10 => bif (!y10) then (some true) else ((F_i_LabelOk N x2).bind fun y13 => some (!y13))) : Option Bool).bind fun j5 => bif j5 then (some false) else ((F_i_above N x1 x2).bind fun y17 => (iter (fun (s21 : Int) => (bif (decide (s21 < (y17.length : Int))) then ((idx y17 s21).bind fun y23 => (F_z_Contains_int N x0 y23).bind fun y36 => bif (!y36) then (some (.inr (.inr false))) else (some (.inl (IntKind.i64.wrap (s21 + 1))))) else (some (.inr (.inl s21))) : Option (Int ⊕ (Int ⊕ Bool)))) N 0).bind fun o39 => Sum.elim (fun o39 => some true) (fun r42 => some r42) o39)
def F_i_Flows (N : Nat) (x0 : DLabel) (x1 : DLabel) : Option Bool :=
  (F_i_FlowsFor N [] x0 x1).bind fun y5 => some y5
def F_i_Seen (N : Nat) (x0 : List DBoot) (x1 : DEntry) (x2 : DLabel) : Option Bool :=
  bif (x1.kind == 1) then (some true) else ((F_i_within N x1.part 0 (IntKind.i64.wrap ((x0.length : Int) - 1))).bind fun y6 => bif y6 then ((idx x0 x1.part).bind fun y9 => (F_i_Flows N y9.label x2).bind fun y24 => some y24) else (some false))
def F_l_FnExactSeen (N : Nat) (x0 : List DBoot) (x1 : DEntry) (x2 : DLabel) : Option Bool :=
  (F_l_szPartBootS N x0 1048576).bind fun y5 => bif (decide (y5 < 0)) then (some true) else ((F_l_szLabel N x2 y5).bind fun y8 => bif (decide (y8 < 0)) then (some true) else ((F_l_toPartBootS N x0).bind fun y11 => (F_l_toEntry N x1).bind fun y15 => (F_l_toLabel N x2).bind fun y17 => (F_s_Seen N y11 y15 y17).bind fun y21 => (F_l_toPartBootS N x0).bind fun y23 => (F_l_toLabel N x2).bind fun y27 => (F_l_toEntry N x1).bind fun y34 => (F_i_Seen N y23 y34 y27).bind fun y36 => bif (!(y36 == y21)) then (some false) else ((F_l_toPartBootS N x0).bind fun y39 => (F_l_eqPartBootS N y23 y39).bind fun y43 => bif (!y43) then (some false) else ((F_l_toLabel N x2).bind fun y46 => (F_l_eqLabel N y27 y46).bind fun y50 => bif (!y50) then (some false) else (some true)))))
def F_s_BootSum (N : Nat) (x0 : List DBoot) : Option DAmt :=
  (F_s_BootOk N x0).bind fun y6 => bif (!y6) then (some (DAmt.mk 0 0 0)) else ((iter (fun (s10 : Int × Int × Int × Int) => (bif (decide (s10.1 < (x0.length : Int))) then (((idx x0 s10.1).bind fun y14 => (F_s_AmtAdd N (DAmt.mk s10.2.1 s10.2.2.1 s10.2.2.2) y14.amt).bind fun y29 => some (y29.1.pages, y29.1.rent, y29.1.cpu) : Option (Int × Int × Int)).bind fun j12 => some (.inl (IntKind.i64.wrap (s10.1 + 1), j12.1, j12.2.1, j12.2.2))) else (some (.inr (s10.1, s10.2.1, s10.2.2.1, s10.2.2.2))) : Option ((Int × Int × Int × Int) ⊕ (Int × Int × Int × Int)))) N (0, 0, 0, 0)).bind fun o44 => some (DAmt.mk o44.2.1 o44.2.2.1 o44.2.2.2))
def F_i_BootSum (N : Nat) (x0 : List DBoot) : Option DAmt :=
  (F_i_BootOk N x0).bind fun y6 => bif (!y6) then (some (DAmt.mk 0 0 0)) else ((iter (fun (s10 : Int × Int × Int × Int) => (bif (decide (s10.1 < (x0.length : Int))) then ((idx x0 s10.1).bind fun y12 => (F_i_sumOf N (DAmt.mk s10.2.1 s10.2.2.1 s10.2.2.2) y12.amt).bind fun y30 => some (.inl (IntKind.i64.wrap (s10.1 + 1), y30.pages, y30.rent, y30.cpu))) else (some (.inr (s10.1, s10.2.1, s10.2.2.1, s10.2.2.2))) : Option ((Int × Int × Int × Int) ⊕ (Int × Int × Int × Int)))) N (0, 0, 0, 0)).bind fun o33 => some (DAmt.mk o33.2.1 o33.2.2.1 o33.2.2.2))
def F_l_FnExactBootSum (N : Nat) (x0 : List DBoot) : Option Bool :=
  (F_l_szPartBootS N x0 1048576).bind fun y1 => bif (decide (y1 < 0)) then (some true) else ((F_l_toPartBootS N x0).bind fun y4 => (F_s_BootSum N y4).bind fun y8 => (F_l_toPartBootS N x0).bind fun y13 => (F_i_BootSum N y13).bind fun y17 => (F_l_eqAmt N y17 y8).bind fun y22 => bif (!y22) then (some false) else ((F_l_toPartBootS N x0).bind fun y25 => (F_l_eqPartBootS N y13 y25).bind fun y29 => bif (!y29) then (some false) else (some true)))
end Go.Kx
