import Derived.Test.YtklbnnkdkkcgoaaNames
import Derived.Test.YtklbnnkdkkcgoaaG4
namespace Go.Proofs.Ytklbnnkdkkcgoaa.Own
open Go Go.Proofs.Ytklbnnkdkkcgoaa.GD
theorem leakNames_law : LawTrue ty tab 10 [] := fun dd hf _ => by
  obtain rfl := fitsV_nil hf
  exact leakNames_ev
end Go.Proofs.Ytklbnnkdkkcgoaa.Own
