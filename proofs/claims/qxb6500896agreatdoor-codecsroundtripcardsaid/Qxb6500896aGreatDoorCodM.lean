import Derived.Test.Qxb6500896aGreatDoorT20
import Derived.Test.Qxb6500896aGreatDoorLaidS
namespace Go.Proofs.Qxb6500896aGreatDoor
open Go Go.Sh Go.RowKit
theorem codecs_walk2 {W : World} {v : Value} {xs : List Op} (hL : laidMetH Tryz.prog laidCS W) (hs : Scr W v xs) : cl Tryz.prog 5 #[v] (fun e W' => e = .bool true ∧ Below W.heap.size W W') W := codecs_walk (gl_of_laid hL) hs
end Go.Proofs.Qxb6500896aGreatDoor
