/- The codes are the translation of the program. Own text, no conditions. -/
import Derived.Test.YtipgjenjepooaaaDoorEa
import Derived.Test.YtipgjenjepooaaaDoorKG
import Derived.Test.YtipgjenjepooaaaDoorProg
namespace Go.Eng.Seat37d
set_option maxRecDepth 1000000
def lv63 : Nat → List Nat := fun i => if Nat.beq i 1 then [0, 1] else []
theorem tie63 : trF Go.Proofs.Tryd.prog md af63.lit lv63 af63.depth 63 = some af63 := by kernel_rfl
def lv64 : Nat → List Nat := fun i => if Nat.beq i 1 then [0, 1] else []
theorem tie64 : trF Go.Proofs.Tryd.prog md af64.lit lv64 af64.depth 64 = some af64 := by kernel_rfl
def lv65 : Nat → List Nat := fun i => if Nat.beq i 2 then [0, 2, 4] else []
theorem tie65 : trF Go.Proofs.Tryd.prog md af65.lit lv65 af65.depth 65 = some af65 := by kernel_rfl
def lv66 : Nat → List Nat := fun i => if Nat.beq i 1 then [0, 1] else []
theorem tie66 : trF Go.Proofs.Tryd.prog md af66.lit lv66 af66.depth 66 = some af66 := by kernel_rfl
def lv67 : Nat → List Nat := fun i => if Nat.beq i 1 then [0, 1] else []
theorem tie67 : trF Go.Proofs.Tryd.prog md af67.lit lv67 af67.depth 67 = some af67 := by kernel_rfl
def lv68 : Nat → List Nat := fun i => if Nat.beq i 1 then [0, 1] else []
theorem tie68 : trF Go.Proofs.Tryd.prog md af68.lit lv68 af68.depth 68 = some af68 := by kernel_rfl
def lv69 : Nat → List Nat := fun i => if Nat.beq i 1 then [0, 1] else []
theorem tie69 : trF Go.Proofs.Tryd.prog md af69.lit lv69 af69.depth 69 = some af69 := by kernel_rfl
def lv70 : Nat → List Nat := fun i => if Nat.beq i 1 then [0, 1, 2, 3, 8] else if Nat.beq i 4 then [0, 1, 2, 3, 8, 9] else []
theorem tie70 : trF Go.Proofs.Tryd.prog md af70.lit lv70 af70.depth 70 = some af70 := by kernel_rfl
def lv71 : Nat → List Nat := fun i => if Nat.beq i 4 then [0, 3, 8, 9, 10, 11] else if Nat.beq i 8 then [0, 3, 8, 9, 12] else []
theorem tie71 : trF Go.Proofs.Tryd.prog md af71.lit lv71 af71.depth 71 = some af71 := by kernel_rfl
def lv72 : Nat → List Nat := fun i => if Nat.beq i 5 then [0, 1, 8, 9, 10, 11] else []
theorem tie72 : trF Go.Proofs.Tryd.prog md af72.lit lv72 af72.depth 72 = some af72 := by kernel_rfl
def lv73 : Nat → List Nat := fun _ => []
theorem tie73 : trF Go.Proofs.Tryd.prog md af73.lit lv73 af73.depth 73 = some af73 := by kernel_rfl
def lv74 : Nat → List Nat := fun i => if Nat.beq i 2 then [0, 8, 9] else []
theorem tie74 : trF Go.Proofs.Tryd.prog md af74.lit lv74 af74.depth 74 = some af74 := by kernel_rfl
def lv75 : Nat → List Nat := fun i => if Nat.beq i 3 then [0, 1, 2, 3, 9, 10] else if Nat.beq i 5 then [0, 1, 2, 3, 9, 10] else if Nat.beq i 14 then [0, 1, 2, 3, 9, 10, 11] else if Nat.beq i 20 then [0, 1, 2, 3, 9, 10, 12] else []
theorem tie75 : trF Go.Proofs.Tryd.prog md af75.lit lv75 af75.depth 75 = some af75 := by kernel_rfl
def lv76 : Nat → List Nat := fun i => if Nat.beq i 3 then [0, 1, 4, 11, 12] else if Nat.beq i 5 then [0, 1, 4, 11, 12] else []
theorem tie76 : trF Go.Proofs.Tryd.prog md af76.lit lv76 af76.depth 76 = some af76 := by kernel_rfl
def lv77 : Nat → List Nat := fun i => if Nat.beq i 3 then [0, 1, 4, 12, 13] else if Nat.beq i 5 then [0, 1, 4, 12, 13] else if Nat.beq i 13 then [0, 1, 4, 12, 13] else if Nat.beq i 15 then [0, 1, 4, 12, 13] else []
theorem tie77 : trF Go.Proofs.Tryd.prog md af77.lit lv77 af77.depth 77 = some af77 := by kernel_rfl
def lv79 : Nat → List Nat := fun i => if Nat.beq i 1 then [0, 2, 3, 4, 10] else []
theorem tie79 : trF Go.Proofs.Tryd.prog md af79.lit lv79 af79.depth 79 = some af79 := by kernel_rfl
def lv80 : Nat → List Nat := fun _ => []
theorem tie80 : trF Go.Proofs.Tryd.prog md af80.lit lv80 af80.depth 80 = some af80 := by kernel_rfl
def lv81 : Nat → List Nat := fun _ => []
theorem tie81 : trF Go.Proofs.Tryd.prog md af81.lit lv81 af81.depth 81 = some af81 := by kernel_rfl
def lv82 : Nat → List Nat := fun _ => []
theorem tie82 : trF Go.Proofs.Tryd.prog md af82.lit lv82 af82.depth 82 = some af82 := by kernel_rfl
def lv83 : Nat → List Nat := fun _ => []
theorem tie83 : trF Go.Proofs.Tryd.prog md af83.lit lv83 af83.depth 83 = some af83 := by kernel_rfl
def lv84 : Nat → List Nat := fun _ => []
theorem tie84 : trF Go.Proofs.Tryd.prog md af84.lit lv84 af84.depth 84 = some af84 := by kernel_rfl
def lv85 : Nat → List Nat := fun _ => []
theorem tie85 : trF Go.Proofs.Tryd.prog md af85.lit lv85 af85.depth 85 = some af85 := by kernel_rfl
def lv86 : Nat → List Nat := fun _ => []
theorem tie86 : trF Go.Proofs.Tryd.prog md af86.lit lv86 af86.depth 86 = some af86 := by kernel_rfl
def lv87 : Nat → List Nat := fun i => if Nat.beq i 10 then [0, 4, 5, 6] else []
theorem tie87 : trF Go.Proofs.Tryd.prog md af87.lit lv87 af87.depth 87 = some af87 := by kernel_rfl
def lv88 : Nat → List Nat := fun i => if Nat.beq i 1 then [0, 2, 3, 4, 10] else []
theorem tie88 : trF Go.Proofs.Tryd.prog md af88.lit lv88 af88.depth 88 = some af88 := by kernel_rfl
def lv89 : Nat → List Nat := fun _ => []
theorem tie89 : trF Go.Proofs.Tryd.prog md af89.lit lv89 af89.depth 89 = some af89 := by kernel_rfl
def lv90 : Nat → List Nat := fun _ => []
theorem tie90 : trF Go.Proofs.Tryd.prog md af90.lit lv90 af90.depth 90 = some af90 := by kernel_rfl
def lv91 : Nat → List Nat := fun _ => []
theorem tie91 : trF Go.Proofs.Tryd.prog md af91.lit lv91 af91.depth 91 = some af91 := by kernel_rfl
def lv94 : Nat → List Nat := fun _ => []
theorem tie94 : trF Go.Proofs.Tryd.prog md af94.lit lv94 af94.depth 94 = some af94 := by kernel_rfl
def lv95 : Nat → List Nat := fun _ => []
theorem tie95 : trF Go.Proofs.Tryd.prog md af95.lit lv95 af95.depth 95 = some af95 := by kernel_rfl
def lv96 : Nat → List Nat := fun _ => []
theorem tie96 : trF Go.Proofs.Tryd.prog md af96.lit lv96 af96.depth 96 = some af96 := by kernel_rfl
def lv97 : Nat → List Nat := fun _ => []
theorem tie97 : trF Go.Proofs.Tryd.prog md af97.lit lv97 af97.depth 97 = some af97 := by kernel_rfl
def lv98 : Nat → List Nat := fun _ => []
theorem tie98 : trF Go.Proofs.Tryd.prog md af98.lit lv98 af98.depth 98 = some af98 := by kernel_rfl
def lv100 : Nat → List Nat := fun _ => []
theorem tie100 : trF Go.Proofs.Tryd.prog md af100.lit lv100 af100.depth 100 = some af100 := by kernel_rfl
end Go.Eng.Seat37d
