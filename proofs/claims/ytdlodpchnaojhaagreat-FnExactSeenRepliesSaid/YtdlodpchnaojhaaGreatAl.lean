import Derived.Test.YtdlodpchnaojhaaGreatOwn
namespace Go.Kx
open Go Go.RowKit
set_option linter.unusedVariables false
set_option linter.unusedSimpArgs false
section
variable {P:Program} {w0 w w1:World} {F0 F:List Nat} {L:List Item} {α β γ:Type} [hD α] [hD β] [hD γ]
def al (x:Item) (b:Option Addr) (k:Nat) (m:List β):Item :=
  ⟨fun w F=>∃ F1 F2,F=F1++F2∧x.p w F1∧iM (fun q=>q ∈ F) w b k m,fun w w' F h hb=>by
    obtain ⟨F1,F2,rfl,h1,h2⟩:=h
    exact ⟨F1,F2,rfl,x.frame w w' F1 h1 fun q hq=>hb q (List.mem_append_left _ hq),h2.mf hb⟩⟩
end
theorem jf.cells {P:Program} {ρ:Operand→Value} {t:TypeId} {x:Operand} {b o m:Nat} {cs:List Value} (ht:jl P t=some (some m)) (hx:ρ x=.pointer (some ⟨b,o,none⟩)) (hl:cs.length=m) :
    jf P ρ (.load t x) (fun w=>∀ (j:Nat) (u:Value),cs[j]?=some u→w.cell? ⟨b,o+j,none⟩=some u) (.agg cs.toArray) :=
  fun d ty pos aft gd w hc=>jf.agg ht hx hl d ty pos aft gd w hc
section
variable {P:Program} {n:Nat} {ops:Array Oper} {Q:kN} {rest:List Oper} {e:Env} {w w0:World} {F0:List Nat} {L M:List Item} {d:Nat} {ty:TypeId} {pos:String} {aft:Array Edge} {α β γ:Type} [hD α] [hD β] [hD γ]
end
end Go.Kx
