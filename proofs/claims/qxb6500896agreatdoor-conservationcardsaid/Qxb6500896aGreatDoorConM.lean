import Derived.Test.Qxb6500896aGreatDoorE7
import Derived.Test.Qxb6500896aGreatDoorLaidMW
namespace Go.Proofs.Qxb6500896aGreatDoor
open Go Go.Sh Go.RowKit
theorem cons_walk2 {W : World} {v : Value} {xs : List Op} (hL : laidMetH Tryz.prog laidM W) (hs : Scr W v xs) : cl Tryz.prog 3 #[v] (fun e W' => e = .bool true ∧ Below W.heap.size W W') W := cons_walk (gm_of_laid hL) hs
end Go.Proofs.Qxb6500896aGreatDoor
