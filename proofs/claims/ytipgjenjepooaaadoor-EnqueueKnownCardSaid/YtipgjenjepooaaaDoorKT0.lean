/- The codes are the translation of the program. Own text, no conditions. -/
import Derived.Test.YtipgjenjepooaaaDoorEa
import Derived.Test.YtipgjenjepooaaaDoorKG
import Derived.Test.YtipgjenjepooaaaDoorProg
namespace Go.Eng.Seat37d
set_option maxRecDepth 1000000
def lv3 : Nat → List Nat := fun _ => []
theorem tie3 : trF Go.Proofs.Tryd.prog md af3.lit lv3 af3.depth 3 = some af3 := by kernel_rfl
def lv4 : Nat → List Nat := fun _ => []
theorem tie4 : trF Go.Proofs.Tryd.prog md af4.lit lv4 af4.depth 4 = some af4 := by kernel_rfl
def lv5 : Nat → List Nat := fun _ => []
theorem tie5 : trF Go.Proofs.Tryd.prog md af5.lit lv5 af5.depth 5 = some af5 := by kernel_rfl
def lv6 : Nat → List Nat := fun i => if Nat.beq i 16 then [4, 8, 11, 53, 54, 55] else []
theorem tie6 : trF Go.Proofs.Tryd.prog md af6.lit lv6 af6.depth 6 = some af6 := by kernel_rfl
def lv7 : Nat → List Nat := fun i => if Nat.beq i 4 then [0, 1, 5] else []
theorem tie7 : trF Go.Proofs.Tryd.prog md af7.lit lv7 af7.depth 7 = some af7 := by kernel_rfl
def lv8 : Nat → List Nat := fun i => if Nat.beq i 3 then [2, 8, 24, 25, 26] else if Nat.beq i 10 then [2, 8, 55, 56, 57] else if Nat.beq i 17 then [2, 8, 13, 72, 73, 74] else if Nat.beq i 20 then [2, 8, 13, 15, 72, 73, 74, 78, 79, 80] else []
theorem tie8 : trF Go.Proofs.Tryd.prog md af8.lit lv8 af8.depth 8 = some af8 := by kernel_rfl
def lv9 : Nat → List Nat := fun i => if Nat.beq i 3 then [3, 16, 17, 18] else if Nat.beq i 6 then [3, 16, 17, 18, 23, 24, 25] else []
theorem tie9 : trF Go.Proofs.Tryd.prog md af9.lit lv9 af9.depth 9 = some af9 := by kernel_rfl
def lv10 : Nat → List Nat := fun _ => []
theorem tie10 : trF Go.Proofs.Tryd.prog md af10.lit lv10 af10.depth 10 = some af10 := by kernel_rfl
def lv11 : Nat → List Nat := fun i => if Nat.beq i 3 then [1, 3, 10, 11, 12] else if Nat.beq i 10 then [1, 3, 39, 40, 41] else []
theorem tie11 : trF Go.Proofs.Tryd.prog md af11.lit lv11 af11.depth 11 = some af11 := by kernel_rfl
def lv12 : Nat → List Nat := fun _ => []
theorem tie12 : trF Go.Proofs.Tryd.prog md af12.lit lv12 af12.depth 12 = some af12 := by kernel_rfl
def lv13 : Nat → List Nat := fun i => if Nat.beq i 3 then [3, 10, 11, 12] else if Nat.beq i 9 then [6, 29] else []
theorem tie13 : trF Go.Proofs.Tryd.prog md af13.lit lv13 af13.depth 13 = some af13 := by kernel_rfl
def lv14 : Nat → List Nat := fun _ => []
theorem tie14 : trF Go.Proofs.Tryd.prog md af14.lit lv14 af14.depth 14 = some af14 := by kernel_rfl
def lv15 : Nat → List Nat := fun _ => []
theorem tie15 : trF Go.Proofs.Tryd.prog md af15.lit lv15 af15.depth 15 = some af15 := by kernel_rfl
def lv16 : Nat → List Nat := fun _ => []
theorem tie16 : trF Go.Proofs.Tryd.prog md af16.lit lv16 af16.depth 16 = some af16 := by kernel_rfl
def lv17 : Nat → List Nat := fun _ => []
theorem tie17 : trF Go.Proofs.Tryd.prog md af17.lit lv17 af17.depth 17 = some af17 := by kernel_rfl
def lv18 : Nat → List Nat := fun _ => []
theorem tie18 : trF Go.Proofs.Tryd.prog md af18.lit lv18 af18.depth 18 = some af18 := by kernel_rfl
def lv19 : Nat → List Nat := fun _ => []
theorem tie19 : trF Go.Proofs.Tryd.prog md af19.lit lv19 af19.depth 19 = some af19 := by kernel_rfl
def lv20 : Nat → List Nat := fun _ => []
theorem tie20 : trF Go.Proofs.Tryd.prog md af20.lit lv20 af20.depth 20 = some af20 := by kernel_rfl
def lv21 : Nat → List Nat := fun _ => []
theorem tie21 : trF Go.Proofs.Tryd.prog md af21.lit lv21 af21.depth 21 = some af21 := by kernel_rfl
def lv22 : Nat → List Nat := fun _ => []
theorem tie22 : trF Go.Proofs.Tryd.prog md af22.lit lv22 af22.depth 22 = some af22 := by kernel_rfl
def lv23 : Nat → List Nat := fun i => if Nat.beq i 2 then [0, 3, 13, 14, 15] else []
theorem tie23 : trF Go.Proofs.Tryd.prog md af23.lit lv23 af23.depth 23 = some af23 := by kernel_rfl
def lv24 : Nat → List Nat := fun _ => []
theorem tie24 : trF Go.Proofs.Tryd.prog md af24.lit lv24 af24.depth 24 = some af24 := by kernel_rfl
def lv25 : Nat → List Nat := fun _ => []
theorem tie25 : trF Go.Proofs.Tryd.prog md af25.lit lv25 af25.depth 25 = some af25 := by kernel_rfl
def lv26 : Nat → List Nat := fun _ => []
theorem tie26 : trF Go.Proofs.Tryd.prog md af26.lit lv26 af26.depth 26 = some af26 := by kernel_rfl
def lv27 : Nat → List Nat := fun _ => []
theorem tie27 : trF Go.Proofs.Tryd.prog md af27.lit lv27 af27.depth 27 = some af27 := by kernel_rfl
def lv28 : Nat → List Nat := fun i => if Nat.beq i 2 then [1, 3] else []
theorem tie28 : trF Go.Proofs.Tryd.prog md af28.lit lv28 af28.depth 28 = some af28 := by kernel_rfl
def lv29 : Nat → List Nat := fun i => if Nat.beq i 2 then [0, 1, 7, 8] else []
theorem tie29 : trF Go.Proofs.Tryd.prog md af29.lit lv29 af29.depth 29 = some af29 := by kernel_rfl
def lv30 : Nat → List Nat := fun _ => []
theorem tie30 : trF Go.Proofs.Tryd.prog md af30.lit lv30 af30.depth 30 = some af30 := by kernel_rfl
def lv31 : Nat → List Nat := fun _ => []
theorem tie31 : trF Go.Proofs.Tryd.prog md af31.lit lv31 af31.depth 31 = some af31 := by kernel_rfl
def lv32 : Nat → List Nat := fun _ => []
theorem tie32 : trF Go.Proofs.Tryd.prog md af32.lit lv32 af32.depth 32 = some af32 := by kernel_rfl
def lv33 : Nat → List Nat := fun _ => []
theorem tie33 : trF Go.Proofs.Tryd.prog md af33.lit lv33 af33.depth 33 = some af33 := by kernel_rfl
def lv34 : Nat → List Nat := fun i => if Nat.beq i 3 then [3, 6, 7, 8] else []
theorem tie34 : trF Go.Proofs.Tryd.prog md af34.lit lv34 af34.depth 34 = some af34 := by kernel_rfl
def lv35 : Nat → List Nat := fun _ => []
theorem tie35 : trF Go.Proofs.Tryd.prog md af35.lit lv35 af35.depth 35 = some af35 := by kernel_rfl
def lv36 : Nat → List Nat := fun _ => []
theorem tie36 : trF Go.Proofs.Tryd.prog md af36.lit lv36 af36.depth 36 = some af36 := by kernel_rfl
def lv37 : Nat → List Nat := fun _ => []
theorem tie37 : trF Go.Proofs.Tryd.prog md af37.lit lv37 af37.depth 37 = some af37 := by kernel_rfl
def lv38 : Nat → List Nat := fun _ => []
theorem tie38 : trF Go.Proofs.Tryd.prog md af38.lit lv38 af38.depth 38 = some af38 := by kernel_rfl
def lv39 : Nat → List Nat := fun _ => []
theorem tie39 : trF Go.Proofs.Tryd.prog md af39.lit lv39 af39.depth 39 = some af39 := by kernel_rfl
def lv40 : Nat → List Nat := fun i => if Nat.beq i 2 then [0, 1, 7, 8] else []
theorem tie40 : trF Go.Proofs.Tryd.prog md af40.lit lv40 af40.depth 40 = some af40 := by kernel_rfl
def lv41 : Nat → List Nat := fun i => if Nat.beq i 2 then [0, 1, 2, 3, 4, 10, 11] else []
theorem tie41 : trF Go.Proofs.Tryd.prog md af41.lit lv41 af41.depth 41 = some af41 := by kernel_rfl
def lv42 : Nat → List Nat := fun _ => []
theorem tie42 : trF Go.Proofs.Tryd.prog md af42.lit lv42 af42.depth 42 = some af42 := by kernel_rfl
def lv43 : Nat → List Nat := fun _ => []
theorem tie43 : trF Go.Proofs.Tryd.prog md af43.lit lv43 af43.depth 43 = some af43 := by kernel_rfl
def lv44 : Nat → List Nat := fun _ => []
theorem tie44 : trF Go.Proofs.Tryd.prog md af44.lit lv44 af44.depth 44 = some af44 := by kernel_rfl
def lv45 : Nat → List Nat := fun _ => []
theorem tie45 : trF Go.Proofs.Tryd.prog md af45.lit lv45 af45.depth 45 = some af45 := by kernel_rfl
def lv46 : Nat → List Nat := fun _ => []
theorem tie46 : trF Go.Proofs.Tryd.prog md af46.lit lv46 af46.depth 46 = some af46 := by kernel_rfl
def lv47 : Nat → List Nat := fun i => if Nat.beq i 2 then [0, 1, 2, 3, 4, 10, 11] else []
theorem tie47 : trF Go.Proofs.Tryd.prog md af47.lit lv47 af47.depth 47 = some af47 := by kernel_rfl
def lv48 : Nat → List Nat := fun _ => []
theorem tie48 : trF Go.Proofs.Tryd.prog md af48.lit lv48 af48.depth 48 = some af48 := by kernel_rfl
def lv49 : Nat → List Nat := fun _ => []
theorem tie49 : trF Go.Proofs.Tryd.prog md af49.lit lv49 af49.depth 49 = some af49 := by kernel_rfl
def lv50 : Nat → List Nat := fun i => if Nat.beq i 2 then [0, 1, 7, 8] else []
theorem tie50 : trF Go.Proofs.Tryd.prog md af50.lit lv50 af50.depth 50 = some af50 := by kernel_rfl
def lv51 : Nat → List Nat := fun i => if Nat.beq i 1 then [0, 1, 2, 3, 8] else if Nat.beq i 4 then [0, 1, 2, 3, 8, 9] else []
theorem tie51 : trF Go.Proofs.Tryd.prog md af51.lit lv51 af51.depth 51 = some af51 := by kernel_rfl
def lv52 : Nat → List Nat := fun i => if Nat.beq i 4 then [0, 3, 8, 9, 10, 11] else if Nat.beq i 8 then [0, 3, 8, 9, 12] else []
theorem tie52 : trF Go.Proofs.Tryd.prog md af52.lit lv52 af52.depth 52 = some af52 := by kernel_rfl
def lv53 : Nat → List Nat := fun i => if Nat.beq i 5 then [0, 1, 8, 9, 10, 11] else []
theorem tie53 : trF Go.Proofs.Tryd.prog md af53.lit lv53 af53.depth 53 = some af53 := by kernel_rfl
def lv54 : Nat → List Nat := fun _ => []
theorem tie54 : trF Go.Proofs.Tryd.prog md af54.lit lv54 af54.depth 54 = some af54 := by kernel_rfl
def lv55 : Nat → List Nat := fun i => if Nat.beq i 2 then [0, 8, 9] else []
theorem tie55 : trF Go.Proofs.Tryd.prog md af55.lit lv55 af55.depth 55 = some af55 := by kernel_rfl
def lv56 : Nat → List Nat := fun i => if Nat.beq i 3 then [0, 1, 2, 3, 9, 10] else if Nat.beq i 5 then [0, 1, 2, 3, 9, 10] else if Nat.beq i 14 then [0, 1, 2, 3, 9, 10, 11] else if Nat.beq i 20 then [0, 1, 2, 3, 9, 10, 12] else []
theorem tie56 : trF Go.Proofs.Tryd.prog md af56.lit lv56 af56.depth 56 = some af56 := by kernel_rfl
def lv57 : Nat → List Nat := fun i => if Nat.beq i 3 then [0, 1, 4, 11, 12] else if Nat.beq i 5 then [0, 1, 4, 11, 12] else []
theorem tie57 : trF Go.Proofs.Tryd.prog md af57.lit lv57 af57.depth 57 = some af57 := by kernel_rfl
def lv58 : Nat → List Nat := fun i => if Nat.beq i 3 then [0, 1, 4, 12, 13] else if Nat.beq i 5 then [0, 1, 4, 12, 13] else if Nat.beq i 13 then [0, 1, 4, 12, 13] else if Nat.beq i 15 then [0, 1, 4, 12, 13] else []
theorem tie58 : trF Go.Proofs.Tryd.prog md af58.lit lv58 af58.depth 58 = some af58 := by kernel_rfl
def lv59 : Nat → List Nat := fun _ => []
theorem tie59 : trF Go.Proofs.Tryd.prog md af59.lit lv59 af59.depth 59 = some af59 := by kernel_rfl
def lv60 : Nat → List Nat := fun _ => []
theorem tie60 : trF Go.Proofs.Tryd.prog md af60.lit lv60 af60.depth 60 = some af60 := by kernel_rfl
def lv61 : Nat → List Nat := fun _ => []
theorem tie61 : trF Go.Proofs.Tryd.prog md af61.lit lv61 af61.depth 61 = some af61 := by kernel_rfl
def lv62 : Nat → List Nat := fun i => if Nat.beq i 2 then [0, 1, 7, 8] else []
theorem tie62 : trF Go.Proofs.Tryd.prog md af62.lit lv62 af62.depth 62 = some af62 := by kernel_rfl
end Go.Eng.Seat37d
