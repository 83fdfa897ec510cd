/- Plain facts of the model. -/
import Derived.Test.YtlkdpglngomblaaMod5
set_option linter.unusedVariables false
set_option linter.unusedSimpArgs false
namespace Go.Wk
open Go
/-! ### What the model's laws say of states -/
namespace SO
variable {K T : Type} [DecidableEq K] (o : SO K) (key : T → K)
end SO
namespace Mod
/-! The document's example -/
def c0 : Cmd := ⟨1, 0, 0, ⟨#[]⟩, ⟨#[]⟩, ⟨#[]⟩, ⟨#[]⟩, 0⟩
def cp (sq : Int) (v : ByteArray) : Cmd := ⟨3, 1, sq, ⟨#[107]⟩, ⟨#[]⟩, v, ⟨#[]⟩, 0⟩
def ex1 : Out := apply [] [] 1 c0
def ex2 : Out := apply ex1.1 ex1.2.1 2 (cp 1 ⟨#[118]⟩)
def ex3 : Out := apply ex2.1 ex2.2.1 3 (cp 1 ⟨#[118]⟩)
def ex4 : Out := apply ex3.1 ex3.2.1 4 (cp 2 ⟨#[119]⟩)
end Mod
end Go.Wk
