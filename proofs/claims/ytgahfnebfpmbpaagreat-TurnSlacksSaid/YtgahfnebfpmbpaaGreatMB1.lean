/-
Facts on this program's types.
-/
import Derived.Test.YtgahfnebfpmbpaaGreatProg
import Derived.Test.YtgahfnebfpmbpaaGreatMA7
set_option linter.unusedVariables false
set_option linter.unusedSimpArgs false
set_option linter.unusedVariables false
namespace Go.AM
open Go.Proofs

theorem ag3 : isAggT Tryz.prog 3 = some false := nr (by kernel_rfl)
theorem sz3 : sizeT Tryz.prog 3 = some 1 := nr (by kernel_rfl)
theorem ze3 : zeroC Tryz.prog 3 = some [.f (FV.int .i64 0)] := nr (by kernel_rfl)
theorem lds3 : ∀ (σ : Nat → AObj) (a : AV), loadA Tryz.prog σ 3 a = ldV σ a := fun _ a => loadA_s ag3 a
theorem ag4 : isAggT Tryz.prog 4 = some false := nr (by kernel_rfl)
theorem sz4 : sizeT Tryz.prog 4 = some 1 := nr (by kernel_rfl)
theorem ze4 : zeroC Tryz.prog 4 = some [.f (FV.bool false)] := nr (by kernel_rfl)
theorem lds4 : ∀ (σ : Nat → AObj) (a : AV), loadA Tryz.prog σ 4 a = ldV σ a := fun _ a => loadA_s ag4 a
theorem ag5 : isAggT Tryz.prog 5 = some false := nr (by kernel_rfl)
theorem sz5 : sizeT Tryz.prog 5 = some 1 := nr (by kernel_rfl)
theorem ze5 : zeroC Tryz.prog 5 = some [.f (FV.int .u8 0)] := nr (by kernel_rfl)
theorem lds5 : ∀ (σ : Nat → AObj) (a : AV), loadA Tryz.prog σ 5 a = ldV σ a := fun _ a => loadA_s ag5 a
theorem ag9 : isAggT Tryz.prog 9 = some false := nr (by kernel_rfl)
theorem sz9 : sizeT Tryz.prog 9 = some 1 := nr (by kernel_rfl)
theorem ze9 : zeroC Tryz.prog 9 = some [.f (FV.str ByteArray.empty)] := nr (by kernel_rfl)
theorem lds9 : ∀ (σ : Nat → AObj) (a : AV), loadA Tryz.prog σ 9 a = ldV σ a := fun _ a => loadA_s ag9 a
theorem ag22 : isAggT Tryz.prog 22 = some false := nr (by kernel_rfl)
theorem sz22 : sizeT Tryz.prog 22 = some 1 := nr (by kernel_rfl)
theorem ze22 : zeroC Tryz.prog 22 = some [.f (FV.nils)] := nr (by kernel_rfl)
theorem lds22 : ∀ (σ : Nat → AObj) (a : AV), loadA Tryz.prog σ 22 a = ldV σ a := fun _ a => loadA_s ag22 a
theorem el22 : elT Tryz.prog 22 = some (none, 4) := nr (by kernel_rfl)
theorem sl22 : ∀ (lo hi mx : Option Operand) (b : Nat) (σ : Nat → AObj) (ρ : Operand → AV) (d : Option Tmp) (ty : TypeId) (pos : String) (af : Array Edge) (g : Option (Nat × Bool))  (x : Operand), opA Tryz.prog b σ ρ ⟨d, .slice 22 x lo hi mx, ty, pos, af, g⟩ = effV (sliceA σ 4 (ρ x) (lo.map ρ) (hi.map ρ) (mx.map ρ)) := fun _ _ _ _ _ _ _ _ _ _ _ _ => opA_slice el22
theorem ia22 : ∀ (b : Nat) (σ : Nat → AObj) (ρ : Operand → AV) (d : Option Tmp) (ty : TypeId) (pos : String) (af : Array Edge) (g : Option (Nat × Bool))  (x y : Operand), opA Tryz.prog b σ ρ ⟨d, .indexAddr 22 x y, ty, pos, af, g⟩ = idxV (ρ y) (iaS 4 (ρ x)) := fun _ _ _ _ _ _ _ _ _ _ => opA_indexAddrS el22
theorem len22 : ∀ (σ : Nat → AObj) (v : AV), lenA Tryz.prog σ 22 v = lenS v := fun _ _ => lenA_s el22
theorem mk22 : mkT Tryz.prog 22 = some (4, [FV.int .i64 0, FV.int .i64 0, FV.int .i64 0, FV.int .i64 0]) := nr (by kernel_rfl)
theorem ms22 : ∀ (b : Nat) (σ : Nat → AObj) (ρ : Operand → AV) (d : Option Tmp) (ty : TypeId) (pos : String) (af : Array Edge) (g : Option (Nat × Bool))  (x y : Operand), opA Tryz.prog b σ ρ ⟨d, .makeSlice 22 x y, ty, pos, af, g⟩ = mkslV b 4 [FV.int .i64 0, FV.int .i64 0, FV.int .i64 0, FV.int .i64 0] (ρ x) (ρ y) := fun _ _ _ _ _ _ _ _ _ _ => opA_makeSlice mk22
theorem bs22 : ∀ (len : Nat) (ps : Array (Nat × Operand)) (b : Nat) (σ : Nat → AObj) (ρ : Operand → AV) (d : Option Tmp) (ty : TypeId) (pos : String) (af : Array Edge) (g : Option (Nat × Bool)) , len * 4 ≤ 1024 → opA Tryz.prog b σ ρ ⟨d, .buildSlice 22 len ps, ty, pos, af, g⟩ = bslV b 4 len (fillA (fun i => some (i * 4, 4)) (repCells len (List.map .f [FV.int .i64 0, FV.int .i64 0, FV.int .i64 0, FV.int .i64 0])) (ps.toList.map fun (i, x) => (i, ρ x))) := fun _ _ _ _ _ _ _ _ _ _ h => opA_buildSlice mk22 h
theorem ap22 : ∀ (b : Nat) (σ : Nat → AObj) (s x : AV), builtinA Tryz.prog σ b .append #[22, 22] [s, x] = appE σ b 4 s (comesS σ x) := fun _ _ _ _ => blt_append mk22 rfl
theorem ag23 : isAggT Tryz.prog 23 = some false := nr (by kernel_rfl)
theorem sz23 : sizeT Tryz.prog 23 = some 1 := nr (by kernel_rfl)
theorem ze23 : zeroC Tryz.prog 23 = some [.f (FV.nils)] := nr (by kernel_rfl)
theorem lds23 : ∀ (σ : Nat → AObj) (a : AV), loadA Tryz.prog σ 23 a = ldV σ a := fun _ a => loadA_s ag23 a
theorem el23 : elT Tryz.prog 23 = some (none, 1) := nr (by kernel_rfl)
theorem sl23 : ∀ (lo hi mx : Option Operand) (b : Nat) (σ : Nat → AObj) (ρ : Operand → AV) (d : Option Tmp) (ty : TypeId) (pos : String) (af : Array Edge) (g : Option (Nat × Bool))  (x : Operand), opA Tryz.prog b σ ρ ⟨d, .slice 23 x lo hi mx, ty, pos, af, g⟩ = effV (sliceA σ 1 (ρ x) (lo.map ρ) (hi.map ρ) (mx.map ρ)) := fun _ _ _ _ _ _ _ _ _ _ _ _ => opA_slice el23
theorem ia23 : ∀ (b : Nat) (σ : Nat → AObj) (ρ : Operand → AV) (d : Option Tmp) (ty : TypeId) (pos : String) (af : Array Edge) (g : Option (Nat × Bool))  (x y : Operand), opA Tryz.prog b σ ρ ⟨d, .indexAddr 23 x y, ty, pos, af, g⟩ = idxV (ρ y) (iaS 1 (ρ x)) := fun _ _ _ _ _ _ _ _ _ _ => opA_indexAddrS el23
theorem len23 : ∀ (σ : Nat → AObj) (v : AV), lenA Tryz.prog σ 23 v = lenS v := fun _ _ => lenA_s el23
theorem mk23 : mkT Tryz.prog 23 = some (1, [FV.int .i64 0]) := nr (by kernel_rfl)
theorem ms23 : ∀ (b : Nat) (σ : Nat → AObj) (ρ : Operand → AV) (d : Option Tmp) (ty : TypeId) (pos : String) (af : Array Edge) (g : Option (Nat × Bool))  (x y : Operand), opA Tryz.prog b σ ρ ⟨d, .makeSlice 23 x y, ty, pos, af, g⟩ = mkslV b 1 [FV.int .i64 0] (ρ x) (ρ y) := fun _ _ _ _ _ _ _ _ _ _ => opA_makeSlice mk23
theorem bs23 : ∀ (len : Nat) (ps : Array (Nat × Operand)) (b : Nat) (σ : Nat → AObj) (ρ : Operand → AV) (d : Option Tmp) (ty : TypeId) (pos : String) (af : Array Edge) (g : Option (Nat × Bool)) , len * 1 ≤ 1024 → opA Tryz.prog b σ ρ ⟨d, .buildSlice 23 len ps, ty, pos, af, g⟩ = bslV b 1 len (fillA (fun i => some (i * 1, 1)) (repCells len (List.map .f [FV.int .i64 0])) (ps.toList.map fun (i, x) => (i, ρ x))) := fun _ _ _ _ _ _ _ _ _ _ h => opA_buildSlice mk23 h
theorem ap23 : ∀ (b : Nat) (σ : Nat → AObj) (s x : AV), builtinA Tryz.prog σ b .append #[23, 23] [s, x] = appE σ b 1 s (comesS σ x) := fun _ _ _ _ => blt_append mk23 rfl
theorem ag25 : isAggT Tryz.prog 25 = some true := nr (by kernel_rfl)
theorem sz25 : sizeT Tryz.prog 25 = some 2 := nr (by kernel_rfl)
theorem ze25 : zeroC Tryz.prog 25 = some [.f (FV.nils), .f (FV.nils)] := nr (by kernel_rfl)
theorem ldo25 : ∀ (σ : Nat → AObj) (o off : Nat), loadA Tryz.prog σ 25 (.ptr o off) = ldN 2 (σ o) off := fun _ _ _ => loadA_o ag25 sz25
theorem ldf25 : ∀ (σ : Nat → AObj) (cs : List FV) (off : Nat), loadA Tryz.prog σ 25 (.f (.ptr cs off)) = (sliceOf cs off 2).map fun l => .agg (l.map .f) := fun _ _ _ => loadA_f ag25 sz25
theorem bo25 : bldOk Tryz.prog 25 = true := nr (by kernel_rfl)
theorem bd25 : ∀ (ps : Array (Nat × Operand)) (b : Nat) (σ : Nat → AObj) (ρ : Operand → AV) (d : Option Tmp) (ty : TypeId) (pos : String) (af : Array Edge) (g : Option (Nat × Bool)) , opA Tryz.prog b σ ρ ⟨d, .build 25 ps, ty, pos, af, g⟩ = bldV (fillA (fldP Tryz.prog 25) [.f (FV.nils), .f (FV.nils)] (ps.toList.map fun (i, x) => (i, ρ x))) := fun _ _ _ _ _ _ _ _ _ => opA_build ze25 bo25
theorem fp25_0 : fldP Tryz.prog 25 0 = some (0, 1) := nr (by kernel_rfl)
theorem fp25_1 : fldP Tryz.prog 25 1 = some (1, 1) := nr (by kernel_rfl)
theorem fl25_0 : fldT Tryz.prog 25 0 = some (0, false, 1) := nr (by kernel_rfl)
theorem fa25_0 : ∀ (b : Nat) (σ : Nat → AObj) (ρ : Operand → AV) (d : Option Tmp) (ty : TypeId) (pos : String) (af : Array Edge) (g : Option (Nat × Bool))  (x : Operand), opA Tryz.prog b σ ρ ⟨d, .fieldAddr 25 x 0, ty, pos, af, g⟩ = faV 0 (ρ x) := fun _ _ _ _ _ _ _ _ _ => opA_fieldAddr fl25_0
theorem fi25_0 : ∀ (b : Nat) (σ : Nat → AObj) (ρ : Operand → AV) (d : Option Tmp) (ty : TypeId) (pos : String) (af : Array Edge) (g : Option (Nat × Bool))  (x : Operand), opA Tryz.prog b σ ρ ⟨d, .field 25 x 0, ty, pos, af, g⟩ = effV (fieldV 0 false 1 (ρ x)) := fun _ _ _ _ _ _ _ _ _ => opA_field fl25_0
theorem fl25_1 : fldT Tryz.prog 25 1 = some (1, false, 1) := nr (by kernel_rfl)
theorem fa25_1 : ∀ (b : Nat) (σ : Nat → AObj) (ρ : Operand → AV) (d : Option Tmp) (ty : TypeId) (pos : String) (af : Array Edge) (g : Option (Nat × Bool))  (x : Operand), opA Tryz.prog b σ ρ ⟨d, .fieldAddr 25 x 1, ty, pos, af, g⟩ = faV 1 (ρ x) := fun _ _ _ _ _ _ _ _ _ => opA_fieldAddr fl25_1
theorem fi25_1 : ∀ (b : Nat) (σ : Nat → AObj) (ρ : Operand → AV) (d : Option Tmp) (ty : TypeId) (pos : String) (af : Array Edge) (g : Option (Nat × Bool))  (x : Operand), opA Tryz.prog b σ ρ ⟨d, .field 25 x 1, ty, pos, af, g⟩ = effV (fieldV 1 false 1 (ρ x)) := fun _ _ _ _ _ _ _ _ _ => opA_field fl25_1
theorem ag26 : isAggT Tryz.prog 26 = some true := nr (by kernel_rfl)
theorem sz26 : sizeT Tryz.prog 26 = some 2 := nr (by kernel_rfl)
theorem ze26 : zeroC Tryz.prog 26 = some [.f (FV.int .i64 0), .f (FV.int .i64 0)] := nr (by kernel_rfl)
theorem ldo26 : ∀ (σ : Nat → AObj) (o off : Nat), loadA Tryz.prog σ 26 (.ptr o off) = ldN 2 (σ o) off := fun _ _ _ => loadA_o ag26 sz26
theorem ldf26 : ∀ (σ : Nat → AObj) (cs : List FV) (off : Nat), loadA Tryz.prog σ 26 (.f (.ptr cs off)) = (sliceOf cs off 2).map fun l => .agg (l.map .f) := fun _ _ _ => loadA_f ag26 sz26
theorem el26 : elT Tryz.prog 26 = some (some 2, 1) := nr (by kernel_rfl)
theorem ba26 : ∀ (ps : Array (Nat × Operand)) (b : Nat) (σ : Nat → AObj) (ρ : Operand → AV) (d : Option Tmp) (ty : TypeId) (pos : String) (af : Array Edge) (g : Option (Nat × Bool)) , opA Tryz.prog b σ ρ ⟨d, .build 26 ps, ty, pos, af, g⟩ = bldV (fillA (fun i => some (i * 1, 1)) [.f (FV.int .i64 0), .f (FV.int .i64 0)] (ps.toList.map fun (i, x) => (i, ρ x))) := fun _ _ _ _ _ _ _ _ _ => opA_buildA ze26 el26
theorem ia26 : ∀ (b : Nat) (σ : Nat → AObj) (ρ : Operand → AV) (d : Option Tmp) (ty : TypeId) (pos : String) (af : Array Edge) (g : Option (Nat × Bool))  (x y : Operand), opA Tryz.prog b σ ρ ⟨d, .indexAddr 26 x y, ty, pos, af, g⟩ = idxV (ρ y) (iaA 2 1 (ρ x)) := fun _ _ _ _ _ _ _ _ _ _ => opA_indexAddrA el26
theorem ag30 : isAggT Tryz.prog 30 = some false := nr (by kernel_rfl)
theorem sz30 : sizeT Tryz.prog 30 = some 1 := nr (by kernel_rfl)
theorem ze30 : zeroC Tryz.prog 30 = some [.f (FV.int .i64 0)] := nr (by kernel_rfl)
theorem lds30 : ∀ (σ : Nat → AObj) (a : AV), loadA Tryz.prog σ 30 a = ldV σ a := fun _ a => loadA_s ag30 a
theorem ag46 : isAggT Tryz.prog 46 = some false := nr (by kernel_rfl)
theorem sz46 : sizeT Tryz.prog 46 = some 1 := nr (by kernel_rfl)
theorem ze46 : zeroC Tryz.prog 46 = some [.f (FV.nils)] := nr (by kernel_rfl)
theorem lds46 : ∀ (σ : Nat → AObj) (a : AV), loadA Tryz.prog σ 46 a = ldV σ a := fun _ a => loadA_s ag46 a
theorem el46 : elT Tryz.prog 46 = some (none, 4) := nr (by kernel_rfl)
theorem sl46 : ∀ (lo hi mx : Option Operand) (b : Nat) (σ : Nat → AObj) (ρ : Operand → AV) (d : Option Tmp) (ty : TypeId) (pos : String) (af : Array Edge) (g : Option (Nat × Bool))  (x : Operand), opA Tryz.prog b σ ρ ⟨d, .slice 46 x lo hi mx, ty, pos, af, g⟩ = effV (sliceA σ 4 (ρ x) (lo.map ρ) (hi.map ρ) (mx.map ρ)) := fun _ _ _ _ _ _ _ _ _ _ _ _ => opA_slice el46
theorem ia46 : ∀ (b : Nat) (σ : Nat → AObj) (ρ : Operand → AV) (d : Option Tmp) (ty : TypeId) (pos : String) (af : Array Edge) (g : Option (Nat × Bool))  (x y : Operand), opA Tryz.prog b σ ρ ⟨d, .indexAddr 46 x y, ty, pos, af, g⟩ = idxV (ρ y) (iaS 4 (ρ x)) := fun _ _ _ _ _ _ _ _ _ _ => opA_indexAddrS el46
theorem len46 : ∀ (σ : Nat → AObj) (v : AV), lenA Tryz.prog σ 46 v = lenS v := fun _ _ => lenA_s el46
theorem mk46 : mkT Tryz.prog 46 = some (4, [FV.int .u8 0, FV.int .u8 0, FV.int .u8 0, FV.int .u8 0]) := nr (by kernel_rfl)
theorem ms46 : ∀ (b : Nat) (σ : Nat → AObj) (ρ : Operand → AV) (d : Option Tmp) (ty : TypeId) (pos : String) (af : Array Edge) (g : Option (Nat × Bool))  (x y : Operand), opA Tryz.prog b σ ρ ⟨d, .makeSlice 46 x y, ty, pos, af, g⟩ = mkslV b 4 [FV.int .u8 0, FV.int .u8 0, FV.int .u8 0, FV.int .u8 0] (ρ x) (ρ y) := fun _ _ _ _ _ _ _ _ _ _ => opA_makeSlice mk46
theorem bs46 : ∀ (len : Nat) (ps : Array (Nat × Operand)) (b : Nat) (σ : Nat → AObj) (ρ : Operand → AV) (d : Option Tmp) (ty : TypeId) (pos : String) (af : Array Edge) (g : Option (Nat × Bool)) , len * 4 ≤ 1024 → opA Tryz.prog b σ ρ ⟨d, .buildSlice 46 len ps, ty, pos, af, g⟩ = bslV b 4 len (fillA (fun i => some (i * 4, 4)) (repCells len (List.map .f [FV.int .u8 0, FV.int .u8 0, FV.int .u8 0, FV.int .u8 0])) (ps.toList.map fun (i, x) => (i, ρ x))) := fun _ _ _ _ _ _ _ _ _ _ h => opA_buildSlice mk46 h
theorem ap46 : ∀ (b : Nat) (σ : Nat → AObj) (s x : AV), builtinA Tryz.prog σ b .append #[46, 46] [s, x] = appE σ b 4 s (comesS σ x) := fun _ _ _ _ => blt_append mk46 rfl
theorem ag47 : isAggT Tryz.prog 47 = some false := nr (by kernel_rfl)
theorem sz47 : sizeT Tryz.prog 47 = some 1 := nr (by kernel_rfl)
theorem ze47 : zeroC Tryz.prog 47 = some [.f (FV.nils)] := nr (by kernel_rfl)
theorem lds47 : ∀ (σ : Nat → AObj) (a : AV), loadA Tryz.prog σ 47 a = ldV σ a := fun _ a => loadA_s ag47 a
theorem el47 : elT Tryz.prog 47 = some (none, 1) := nr (by kernel_rfl)
theorem sl47 : ∀ (lo hi mx : Option Operand) (b : Nat) (σ : Nat → AObj) (ρ : Operand → AV) (d : Option Tmp) (ty : TypeId) (pos : String) (af : Array Edge) (g : Option (Nat × Bool))  (x : Operand), opA Tryz.prog b σ ρ ⟨d, .slice 47 x lo hi mx, ty, pos, af, g⟩ = effV (sliceA σ 1 (ρ x) (lo.map ρ) (hi.map ρ) (mx.map ρ)) := fun _ _ _ _ _ _ _ _ _ _ _ _ => opA_slice el47
theorem ia47 : ∀ (b : Nat) (σ : Nat → AObj) (ρ : Operand → AV) (d : Option Tmp) (ty : TypeId) (pos : String) (af : Array Edge) (g : Option (Nat × Bool))  (x y : Operand), opA Tryz.prog b σ ρ ⟨d, .indexAddr 47 x y, ty, pos, af, g⟩ = idxV (ρ y) (iaS 1 (ρ x)) := fun _ _ _ _ _ _ _ _ _ _ => opA_indexAddrS el47
theorem len47 : ∀ (σ : Nat → AObj) (v : AV), lenA Tryz.prog σ 47 v = lenS v := fun _ _ => lenA_s el47
theorem mk47 : mkT Tryz.prog 47 = some (1, [FV.int .u8 0]) := nr (by kernel_rfl)
theorem ms47 : ∀ (b : Nat) (σ : Nat → AObj) (ρ : Operand → AV) (d : Option Tmp) (ty : TypeId) (pos : String) (af : Array Edge) (g : Option (Nat × Bool))  (x y : Operand), opA Tryz.prog b σ ρ ⟨d, .makeSlice 47 x y, ty, pos, af, g⟩ = mkslV b 1 [FV.int .u8 0] (ρ x) (ρ y) := fun _ _ _ _ _ _ _ _ _ _ => opA_makeSlice mk47
theorem bs47 : ∀ (len : Nat) (ps : Array (Nat × Operand)) (b : Nat) (σ : Nat → AObj) (ρ : Operand → AV) (d : Option Tmp) (ty : TypeId) (pos : String) (af : Array Edge) (g : Option (Nat × Bool)) , len * 1 ≤ 1024 → opA Tryz.prog b σ ρ ⟨d, .buildSlice 47 len ps, ty, pos, af, g⟩ = bslV b 1 len (fillA (fun i => some (i * 1, 1)) (repCells len (List.map .f [FV.int .u8 0])) (ps.toList.map fun (i, x) => (i, ρ x))) := fun _ _ _ _ _ _ _ _ _ _ h => opA_buildSlice mk47 h
theorem ap47 : ∀ (b : Nat) (σ : Nat → AObj) (s x : AV), builtinA Tryz.prog σ b .append #[47, 47] [s, x] = appE σ b 1 s (comesS σ x) := fun _ _ _ _ => blt_append mk47 rfl
theorem ag49 : isAggT Tryz.prog 49 = some true := nr (by kernel_rfl)
theorem sz49 : sizeT Tryz.prog 49 = some 3 := nr (by kernel_rfl)
theorem ze49 : zeroC Tryz.prog 49 = some [.f (FV.nils), .f (FV.int .u8 0), .f (FV.nils)] := nr (by kernel_rfl)
theorem ldo49 : ∀ (σ : Nat → AObj) (o off : Nat), loadA Tryz.prog σ 49 (.ptr o off) = ldN 3 (σ o) off := fun _ _ _ => loadA_o ag49 sz49
theorem ldf49 : ∀ (σ : Nat → AObj) (cs : List FV) (off : Nat), loadA Tryz.prog σ 49 (.f (.ptr cs off)) = (sliceOf cs off 3).map fun l => .agg (l.map .f) := fun _ _ _ => loadA_f ag49 sz49
theorem bo49 : bldOk Tryz.prog 49 = true := nr (by kernel_rfl)
theorem bd49 : ∀ (ps : Array (Nat × Operand)) (b : Nat) (σ : Nat → AObj) (ρ : Operand → AV) (d : Option Tmp) (ty : TypeId) (pos : String) (af : Array Edge) (g : Option (Nat × Bool)) , opA Tryz.prog b σ ρ ⟨d, .build 49 ps, ty, pos, af, g⟩ = bldV (fillA (fldP Tryz.prog 49) [.f (FV.nils), .f (FV.int .u8 0), .f (FV.nils)] (ps.toList.map fun (i, x) => (i, ρ x))) := fun _ _ _ _ _ _ _ _ _ => opA_build ze49 bo49
theorem fp49_0 : fldP Tryz.prog 49 0 = some (0, 1) := nr (by kernel_rfl)
theorem fp49_1 : fldP Tryz.prog 49 1 = some (1, 1) := nr (by kernel_rfl)
theorem fp49_2 : fldP Tryz.prog 49 2 = some (2, 1) := nr (by kernel_rfl)
theorem fl49_0 : fldT Tryz.prog 49 0 = some (0, false, 1) := nr (by kernel_rfl)
theorem fa49_0 : ∀ (b : Nat) (σ : Nat → AObj) (ρ : Operand → AV) (d : Option Tmp) (ty : TypeId) (pos : String) (af : Array Edge) (g : Option (Nat × Bool))  (x : Operand), opA Tryz.prog b σ ρ ⟨d, .fieldAddr 49 x 0, ty, pos, af, g⟩ = faV 0 (ρ x) := fun _ _ _ _ _ _ _ _ _ => opA_fieldAddr fl49_0
theorem fi49_0 : ∀ (b : Nat) (σ : Nat → AObj) (ρ : Operand → AV) (d : Option Tmp) (ty : TypeId) (pos : String) (af : Array Edge) (g : Option (Nat × Bool))  (x : Operand), opA Tryz.prog b σ ρ ⟨d, .field 49 x 0, ty, pos, af, g⟩ = effV (fieldV 0 false 1 (ρ x)) := fun _ _ _ _ _ _ _ _ _ => opA_field fl49_0
theorem fl49_1 : fldT Tryz.prog 49 1 = some (1, false, 1) := nr (by kernel_rfl)
theorem fa49_1 : ∀ (b : Nat) (σ : Nat → AObj) (ρ : Operand → AV) (d : Option Tmp) (ty : TypeId) (pos : String) (af : Array Edge) (g : Option (Nat × Bool))  (x : Operand), opA Tryz.prog b σ ρ ⟨d, .fieldAddr 49 x 1, ty, pos, af, g⟩ = faV 1 (ρ x) := fun _ _ _ _ _ _ _ _ _ => opA_fieldAddr fl49_1
theorem fi49_1 : ∀ (b : Nat) (σ : Nat → AObj) (ρ : Operand → AV) (d : Option Tmp) (ty : TypeId) (pos : String) (af : Array Edge) (g : Option (Nat × Bool))  (x : Operand), opA Tryz.prog b σ ρ ⟨d, .field 49 x 1, ty, pos, af, g⟩ = effV (fieldV 1 false 1 (ρ x)) := fun _ _ _ _ _ _ _ _ _ => opA_field fl49_1
theorem fl49_2 : fldT Tryz.prog 49 2 = some (2, false, 1) := nr (by kernel_rfl)
theorem fa49_2 : ∀ (b : Nat) (σ : Nat → AObj) (ρ : Operand → AV) (d : Option Tmp) (ty : TypeId) (pos : String) (af : Array Edge) (g : Option (Nat × Bool))  (x : Operand), opA Tryz.prog b σ ρ ⟨d, .fieldAddr 49 x 2, ty, pos, af, g⟩ = faV 2 (ρ x) := fun _ _ _ _ _ _ _ _ _ => opA_fieldAddr fl49_2
theorem fi49_2 : ∀ (b : Nat) (σ : Nat → AObj) (ρ : Operand → AV) (d : Option Tmp) (ty : TypeId) (pos : String) (af : Array Edge) (g : Option (Nat × Bool))  (x : Operand), opA Tryz.prog b σ ρ ⟨d, .field 49 x 2, ty, pos, af, g⟩ = effV (fieldV 2 false 1 (ρ x)) := fun _ _ _ _ _ _ _ _ _ => opA_field fl49_2
theorem ag52 : isAggT Tryz.prog 52 = some false := nr (by kernel_rfl)
theorem sz52 : sizeT Tryz.prog 52 = some 1 := nr (by kernel_rfl)
theorem ze52 : zeroC Tryz.prog 52 = some [.f (FV.nils)] := nr (by kernel_rfl)
theorem lds52 : ∀ (σ : Nat → AObj) (a : AV), loadA Tryz.prog σ 52 a = ldV σ a := fun _ a => loadA_s ag52 a
theorem el52 : elT Tryz.prog 52 = some (none, 2) := nr (by kernel_rfl)
theorem sl52 : ∀ (lo hi mx : Option Operand) (b : Nat) (σ : Nat → AObj) (ρ : Operand → AV) (d : Option Tmp) (ty : TypeId) (pos : String) (af : Array Edge) (g : Option (Nat × Bool))  (x : Operand), opA Tryz.prog b σ ρ ⟨d, .slice 52 x lo hi mx, ty, pos, af, g⟩ = effV (sliceA σ 2 (ρ x) (lo.map ρ) (hi.map ρ) (mx.map ρ)) := fun _ _ _ _ _ _ _ _ _ _ _ _ => opA_slice el52
theorem ia52 : ∀ (b : Nat) (σ : Nat → AObj) (ρ : Operand → AV) (d : Option Tmp) (ty : TypeId) (pos : String) (af : Array Edge) (g : Option (Nat × Bool))  (x y : Operand), opA Tryz.prog b σ ρ ⟨d, .indexAddr 52 x y, ty, pos, af, g⟩ = idxV (ρ y) (iaS 2 (ρ x)) := fun _ _ _ _ _ _ _ _ _ _ => opA_indexAddrS el52
theorem len52 : ∀ (σ : Nat → AObj) (v : AV), lenA Tryz.prog σ 52 v = lenS v := fun _ _ => lenA_s el52
theorem mk52 : mkT Tryz.prog 52 = some (2, [FV.int .i64 0, FV.int .i64 0]) := nr (by kernel_rfl)
theorem ms52 : ∀ (b : Nat) (σ : Nat → AObj) (ρ : Operand → AV) (d : Option Tmp) (ty : TypeId) (pos : String) (af : Array Edge) (g : Option (Nat × Bool))  (x y : Operand), opA Tryz.prog b σ ρ ⟨d, .makeSlice 52 x y, ty, pos, af, g⟩ = mkslV b 2 [FV.int .i64 0, FV.int .i64 0] (ρ x) (ρ y) := fun _ _ _ _ _ _ _ _ _ _ => opA_makeSlice mk52
theorem bs52 : ∀ (len : Nat) (ps : Array (Nat × Operand)) (b : Nat) (σ : Nat → AObj) (ρ : Operand → AV) (d : Option Tmp) (ty : TypeId) (pos : String) (af : Array Edge) (g : Option (Nat × Bool)) , len * 2 ≤ 1024 → opA Tryz.prog b σ ρ ⟨d, .buildSlice 52 len ps, ty, pos, af, g⟩ = bslV b 2 len (fillA (fun i => some (i * 2, 2)) (repCells len (List.map .f [FV.int .i64 0, FV.int .i64 0])) (ps.toList.map fun (i, x) => (i, ρ x))) := fun _ _ _ _ _ _ _ _ _ _ h => opA_buildSlice mk52 h
theorem ap52 : ∀ (b : Nat) (σ : Nat → AObj) (s x : AV), builtinA Tryz.prog σ b .append #[52, 52] [s, x] = appE σ b 2 s (comesS σ x) := fun _ _ _ _ => blt_append mk52 rfl
theorem ag56 : isAggT Tryz.prog 56 = some true := nr (by kernel_rfl)
theorem sz56 : sizeT Tryz.prog 56 = some 2 := nr (by kernel_rfl)
theorem ze56 : zeroC Tryz.prog 56 = some [.f (FV.int .i64 0), .f (FV.int .i64 0)] := nr (by kernel_rfl)
theorem ldo56 : ∀ (σ : Nat → AObj) (o off : Nat), loadA Tryz.prog σ 56 (.ptr o off) = ldN 2 (σ o) off := fun _ _ _ => loadA_o ag56 sz56
theorem ldf56 : ∀ (σ : Nat → AObj) (cs : List FV) (off : Nat), loadA Tryz.prog σ 56 (.f (.ptr cs off)) = (sliceOf cs off 2).map fun l => .agg (l.map .f) := fun _ _ _ => loadA_f ag56 sz56
theorem bo56 : bldOk Tryz.prog 56 = true := nr (by kernel_rfl)
theorem bd56 : ∀ (ps : Array (Nat × Operand)) (b : Nat) (σ : Nat → AObj) (ρ : Operand → AV) (d : Option Tmp) (ty : TypeId) (pos : String) (af : Array Edge) (g : Option (Nat × Bool)) , opA Tryz.prog b σ ρ ⟨d, .build 56 ps, ty, pos, af, g⟩ = bldV (fillA (fldP Tryz.prog 56) [.f (FV.int .i64 0), .f (FV.int .i64 0)] (ps.toList.map fun (i, x) => (i, ρ x))) := fun _ _ _ _ _ _ _ _ _ => opA_build ze56 bo56
theorem fp56_0 : fldP Tryz.prog 56 0 = some (0, 1) := nr (by kernel_rfl)
theorem fp56_1 : fldP Tryz.prog 56 1 = some (1, 1) := nr (by kernel_rfl)
theorem fl56_0 : fldT Tryz.prog 56 0 = some (0, false, 1) := nr (by kernel_rfl)
theorem fa56_0 : ∀ (b : Nat) (σ : Nat → AObj) (ρ : Operand → AV) (d : Option Tmp) (ty : TypeId) (pos : String) (af : Array Edge) (g : Option (Nat × Bool))  (x : Operand), opA Tryz.prog b σ ρ ⟨d, .fieldAddr 56 x 0, ty, pos, af, g⟩ = faV 0 (ρ x) := fun _ _ _ _ _ _ _ _ _ => opA_fieldAddr fl56_0
theorem fi56_0 : ∀ (b : Nat) (σ : Nat → AObj) (ρ : Operand → AV) (d : Option Tmp) (ty : TypeId) (pos : String) (af : Array Edge) (g : Option (Nat × Bool))  (x : Operand), opA Tryz.prog b σ ρ ⟨d, .field 56 x 0, ty, pos, af, g⟩ = effV (fieldV 0 false 1 (ρ x)) := fun _ _ _ _ _ _ _ _ _ => opA_field fl56_0
theorem fl56_1 : fldT Tryz.prog 56 1 = some (1, false, 1) := nr (by kernel_rfl)
theorem fa56_1 : ∀ (b : Nat) (σ : Nat → AObj) (ρ : Operand → AV) (d : Option Tmp) (ty : TypeId) (pos : String) (af : Array Edge) (g : Option (Nat × Bool))  (x : Operand), opA Tryz.prog b σ ρ ⟨d, .fieldAddr 56 x 1, ty, pos, af, g⟩ = faV 1 (ρ x) := fun _ _ _ _ _ _ _ _ _ => opA_fieldAddr fl56_1
theorem fi56_1 : ∀ (b : Nat) (σ : Nat → AObj) (ρ : Operand → AV) (d : Option Tmp) (ty : TypeId) (pos : String) (af : Array Edge) (g : Option (Nat × Bool))  (x : Operand), opA Tryz.prog b σ ρ ⟨d, .field 56 x 1, ty, pos, af, g⟩ = effV (fieldV 1 false 1 (ρ x)) := fun _ _ _ _ _ _ _ _ _ => opA_field fl56_1
theorem ag61 : isAggT Tryz.prog 61 = some false := nr (by kernel_rfl)
theorem sz61 : sizeT Tryz.prog 61 = some 1 := nr (by kernel_rfl)
theorem ze61 : zeroC Tryz.prog 61 = some [.f (FV.nilf)] := nr (by kernel_rfl)
theorem lds61 : ∀ (σ : Nat → AObj) (a : AV), loadA Tryz.prog σ 61 a = ldV σ a := fun _ a => loadA_s ag61 a
theorem ag63 : isAggT Tryz.prog 63 = some false := nr (by kernel_rfl)
theorem sz63 : sizeT Tryz.prog 63 = some 1 := nr (by kernel_rfl)
theorem ze63 : zeroC Tryz.prog 63 = some [.f (FV.nils)] := nr (by kernel_rfl)
theorem lds63 : ∀ (σ : Nat → AObj) (a : AV), loadA Tryz.prog σ 63 a = ldV σ a := fun _ a => loadA_s ag63 a
theorem el63 : elT Tryz.prog 63 = some (none, 1) := nr (by kernel_rfl)
theorem sl63 : ∀ (lo hi mx : Option Operand) (b : Nat) (σ : Nat → AObj) (ρ : Operand → AV) (d : Option Tmp) (ty : TypeId) (pos : String) (af : Array Edge) (g : Option (Nat × Bool))  (x : Operand), opA Tryz.prog b σ ρ ⟨d, .slice 63 x lo hi mx, ty, pos, af, g⟩ = effV (sliceA σ 1 (ρ x) (lo.map ρ) (hi.map ρ) (mx.map ρ)) := fun _ _ _ _ _ _ _ _ _ _ _ _ => opA_slice el63
theorem ia63 : ∀ (b : Nat) (σ : Nat → AObj) (ρ : Operand → AV) (d : Option Tmp) (ty : TypeId) (pos : String) (af : Array Edge) (g : Option (Nat × Bool))  (x y : Operand), opA Tryz.prog b σ ρ ⟨d, .indexAddr 63 x y, ty, pos, af, g⟩ = idxV (ρ y) (iaS 1 (ρ x)) := fun _ _ _ _ _ _ _ _ _ _ => opA_indexAddrS el63
theorem len63 : ∀ (σ : Nat → AObj) (v : AV), lenA Tryz.prog σ 63 v = lenS v := fun _ _ => lenA_s el63
theorem mk63 : mkT Tryz.prog 63 = some (1, [FV.nils]) := nr (by kernel_rfl)
theorem ms63 : ∀ (b : Nat) (σ : Nat → AObj) (ρ : Operand → AV) (d : Option Tmp) (ty : TypeId) (pos : String) (af : Array Edge) (g : Option (Nat × Bool))  (x y : Operand), opA Tryz.prog b σ ρ ⟨d, .makeSlice 63 x y, ty, pos, af, g⟩ = mkslV b 1 [FV.nils] (ρ x) (ρ y) := fun _ _ _ _ _ _ _ _ _ _ => opA_makeSlice mk63
theorem bs63 : ∀ (len : Nat) (ps : Array (Nat × Operand)) (b : Nat) (σ : Nat → AObj) (ρ : Operand → AV) (d : Option Tmp) (ty : TypeId) (pos : String) (af : Array Edge) (g : Option (Nat × Bool)) , len * 1 ≤ 1024 → opA Tryz.prog b σ ρ ⟨d, .buildSlice 63 len ps, ty, pos, af, g⟩ = bslV b 1 len (fillA (fun i => some (i * 1, 1)) (repCells len (List.map .f [FV.nils])) (ps.toList.map fun (i, x) => (i, ρ x))) := fun _ _ _ _ _ _ _ _ _ _ h => opA_buildSlice mk63 h
theorem ap63 : ∀ (b : Nat) (σ : Nat → AObj) (s x : AV), builtinA Tryz.prog σ b .append #[63, 63] [s, x] = appE σ b 1 s (comesS σ x) := fun _ _ _ _ => blt_append mk63 rfl
theorem ag66 : isAggT Tryz.prog 66 = some true := nr (by kernel_rfl)
theorem sz66 : sizeT Tryz.prog 66 = some 4 := nr (by kernel_rfl)
theorem ze66 : zeroC Tryz.prog 66 = some [.f (FV.int .i64 0), .f (FV.int .i64 0), .f (FV.int .i64 0), .f (FV.int .i64 0)] := nr (by kernel_rfl)
theorem ldo66 : ∀ (σ : Nat → AObj) (o off : Nat), loadA Tryz.prog σ 66 (.ptr o off) = ldN 4 (σ o) off := fun _ _ _ => loadA_o ag66 sz66
theorem ldf66 : ∀ (σ : Nat → AObj) (cs : List FV) (off : Nat), loadA Tryz.prog σ 66 (.f (.ptr cs off)) = (sliceOf cs off 4).map fun l => .agg (l.map .f) := fun _ _ _ => loadA_f ag66 sz66
theorem bo66 : bldOk Tryz.prog 66 = true := nr (by kernel_rfl)
theorem bd66 : ∀ (ps : Array (Nat × Operand)) (b : Nat) (σ : Nat → AObj) (ρ : Operand → AV) (d : Option Tmp) (ty : TypeId) (pos : String) (af : Array Edge) (g : Option (Nat × Bool)) , opA Tryz.prog b σ ρ ⟨d, .build 66 ps, ty, pos, af, g⟩ = bldV (fillA (fldP Tryz.prog 66) [.f (FV.int .i64 0), .f (FV.int .i64 0), .f (FV.int .i64 0), .f (FV.int .i64 0)] (ps.toList.map fun (i, x) => (i, ρ x))) := fun _ _ _ _ _ _ _ _ _ => opA_build ze66 bo66
theorem fp66_0 : fldP Tryz.prog 66 0 = some (0, 1) := nr (by kernel_rfl)
theorem fp66_1 : fldP Tryz.prog 66 1 = some (1, 1) := nr (by kernel_rfl)
theorem fp66_2 : fldP Tryz.prog 66 2 = some (2, 2) := nr (by kernel_rfl)
theorem fl66_0 : fldT Tryz.prog 66 0 = some (0, false, 1) := nr (by kernel_rfl)
theorem fa66_0 : ∀ (b : Nat) (σ : Nat → AObj) (ρ : Operand → AV) (d : Option Tmp) (ty : TypeId) (pos : String) (af : Array Edge) (g : Option (Nat × Bool))  (x : Operand), opA Tryz.prog b σ ρ ⟨d, .fieldAddr 66 x 0, ty, pos, af, g⟩ = faV 0 (ρ x) := fun _ _ _ _ _ _ _ _ _ => opA_fieldAddr fl66_0
theorem fi66_0 : ∀ (b : Nat) (σ : Nat → AObj) (ρ : Operand → AV) (d : Option Tmp) (ty : TypeId) (pos : String) (af : Array Edge) (g : Option (Nat × Bool))  (x : Operand), opA Tryz.prog b σ ρ ⟨d, .field 66 x 0, ty, pos, af, g⟩ = effV (fieldV 0 false 1 (ρ x)) := fun _ _ _ _ _ _ _ _ _ => opA_field fl66_0
theorem fl66_1 : fldT Tryz.prog 66 1 = some (1, false, 1) := nr (by kernel_rfl)
theorem fa66_1 : ∀ (b : Nat) (σ : Nat → AObj) (ρ : Operand → AV) (d : Option Tmp) (ty : TypeId) (pos : String) (af : Array Edge) (g : Option (Nat × Bool))  (x : Operand), opA Tryz.prog b σ ρ ⟨d, .fieldAddr 66 x 1, ty, pos, af, g⟩ = faV 1 (ρ x) := fun _ _ _ _ _ _ _ _ _ => opA_fieldAddr fl66_1
theorem fi66_1 : ∀ (b : Nat) (σ : Nat → AObj) (ρ : Operand → AV) (d : Option Tmp) (ty : TypeId) (pos : String) (af : Array Edge) (g : Option (Nat × Bool))  (x : Operand), opA Tryz.prog b σ ρ ⟨d, .field 66 x 1, ty, pos, af, g⟩ = effV (fieldV 1 false 1 (ρ x)) := fun _ _ _ _ _ _ _ _ _ => opA_field fl66_1
theorem fl66_2 : fldT Tryz.prog 66 2 = some (2, true, 2) := nr (by kernel_rfl)
theorem fa66_2 : ∀ (b : Nat) (σ : Nat → AObj) (ρ : Operand → AV) (d : Option Tmp) (ty : TypeId) (pos : String) (af : Array Edge) (g : Option (Nat × Bool))  (x : Operand), opA Tryz.prog b σ ρ ⟨d, .fieldAddr 66 x 2, ty, pos, af, g⟩ = faV 2 (ρ x) := fun _ _ _ _ _ _ _ _ _ => opA_fieldAddr fl66_2
theorem fi66_2 : ∀ (b : Nat) (σ : Nat → AObj) (ρ : Operand → AV) (d : Option Tmp) (ty : TypeId) (pos : String) (af : Array Edge) (g : Option (Nat × Bool))  (x : Operand), opA Tryz.prog b σ ρ ⟨d, .field 66 x 2, ty, pos, af, g⟩ = effV (fieldV 2 true 2 (ρ x)) := fun _ _ _ _ _ _ _ _ _ => opA_field fl66_2
theorem ag71 : isAggT Tryz.prog 71 = some true := nr (by kernel_rfl)
theorem sz71 : sizeT Tryz.prog 71 = some 2 := nr (by kernel_rfl)
theorem ze71 : zeroC Tryz.prog 71 = some [.f (FV.int .u8 0), .f (FV.int .u8 0)] := nr (by kernel_rfl)
theorem ldo71 : ∀ (σ : Nat → AObj) (o off : Nat), loadA Tryz.prog σ 71 (.ptr o off) = ldN 2 (σ o) off := fun _ _ _ => loadA_o ag71 sz71
theorem ldf71 : ∀ (σ : Nat → AObj) (cs : List FV) (off : Nat), loadA Tryz.prog σ 71 (.f (.ptr cs off)) = (sliceOf cs off 2).map fun l => .agg (l.map .f) := fun _ _ _ => loadA_f ag71 sz71
theorem el71 : elT Tryz.prog 71 = some (some 2, 1) := nr (by kernel_rfl)
theorem ba71 : ∀ (ps : Array (Nat × Operand)) (b : Nat) (σ : Nat → AObj) (ρ : Operand → AV) (d : Option Tmp) (ty : TypeId) (pos : String) (af : Array Edge) (g : Option (Nat × Bool)) , opA Tryz.prog b σ ρ ⟨d, .build 71 ps, ty, pos, af, g⟩ = bldV (fillA (fun i => some (i * 1, 1)) [.f (FV.int .u8 0), .f (FV.int .u8 0)] (ps.toList.map fun (i, x) => (i, ρ x))) := fun _ _ _ _ _ _ _ _ _ => opA_buildA ze71 el71
theorem ia71 : ∀ (b : Nat) (σ : Nat → AObj) (ρ : Operand → AV) (d : Option Tmp) (ty : TypeId) (pos : String) (af : Array Edge) (g : Option (Nat × Bool))  (x y : Operand), opA Tryz.prog b σ ρ ⟨d, .indexAddr 71 x y, ty, pos, af, g⟩ = idxV (ρ y) (iaA 2 1 (ρ x)) := fun _ _ _ _ _ _ _ _ _ _ => opA_indexAddrA el71
theorem ag78 : isAggT Tryz.prog 78 = some false := nr (by kernel_rfl)
theorem sz78 : sizeT Tryz.prog 78 = some 1 := nr (by kernel_rfl)
theorem ze78 : zeroC Tryz.prog 78 = some [.f (FV.int .u64 0)] := nr (by kernel_rfl)
theorem lds78 : ∀ (σ : Nat → AObj) (a : AV), loadA Tryz.prog σ 78 a = ldV σ a := fun _ a => loadA_s ag78 a
theorem ag80 : isAggT Tryz.prog 80 = some false := nr (by kernel_rfl)
theorem sz80 : sizeT Tryz.prog 80 = some 1 := nr (by kernel_rfl)
theorem ze80 : zeroC Tryz.prog 80 = some [.f (FV.nils)] := nr (by kernel_rfl)
theorem lds80 : ∀ (σ : Nat → AObj) (a : AV), loadA Tryz.prog σ 80 a = ldV σ a := fun _ a => loadA_s ag80 a
theorem el80 : elT Tryz.prog 80 = some (none, 2) := nr (by kernel_rfl)
theorem sl80 : ∀ (lo hi mx : Option Operand) (b : Nat) (σ : Nat → AObj) (ρ : Operand → AV) (d : Option Tmp) (ty : TypeId) (pos : String) (af : Array Edge) (g : Option (Nat × Bool))  (x : Operand), opA Tryz.prog b σ ρ ⟨d, .slice 80 x lo hi mx, ty, pos, af, g⟩ = effV (sliceA σ 2 (ρ x) (lo.map ρ) (hi.map ρ) (mx.map ρ)) := fun _ _ _ _ _ _ _ _ _ _ _ _ => opA_slice el80
theorem ia80 : ∀ (b : Nat) (σ : Nat → AObj) (ρ : Operand → AV) (d : Option Tmp) (ty : TypeId) (pos : String) (af : Array Edge) (g : Option (Nat × Bool))  (x y : Operand), opA Tryz.prog b σ ρ ⟨d, .indexAddr 80 x y, ty, pos, af, g⟩ = idxV (ρ y) (iaS 2 (ρ x)) := fun _ _ _ _ _ _ _ _ _ _ => opA_indexAddrS el80
theorem len80 : ∀ (σ : Nat → AObj) (v : AV), lenA Tryz.prog σ 80 v = lenS v := fun _ _ => lenA_s el80
theorem mk80 : mkT Tryz.prog 80 = some (2, [FV.int .u8 0, FV.int .u8 0]) := nr (by kernel_rfl)
theorem ms80 : ∀ (b : Nat) (σ : Nat → AObj) (ρ : Operand → AV) (d : Option Tmp) (ty : TypeId) (pos : String) (af : Array Edge) (g : Option (Nat × Bool))  (x y : Operand), opA Tryz.prog b σ ρ ⟨d, .makeSlice 80 x y, ty, pos, af, g⟩ = mkslV b 2 [FV.int .u8 0, FV.int .u8 0] (ρ x) (ρ y) := fun _ _ _ _ _ _ _ _ _ _ => opA_makeSlice mk80
theorem bs80 : ∀ (len : Nat) (ps : Array (Nat × Operand)) (b : Nat) (σ : Nat → AObj) (ρ : Operand → AV) (d : Option Tmp) (ty : TypeId) (pos : String) (af : Array Edge) (g : Option (Nat × Bool)) , len * 2 ≤ 1024 → opA Tryz.prog b σ ρ ⟨d, .buildSlice 80 len ps, ty, pos, af, g⟩ = bslV b 2 len (fillA (fun i => some (i * 2, 2)) (repCells len (List.map .f [FV.int .u8 0, FV.int .u8 0])) (ps.toList.map fun (i, x) => (i, ρ x))) := fun _ _ _ _ _ _ _ _ _ _ h => opA_buildSlice mk80 h
theorem ap80 : ∀ (b : Nat) (σ : Nat → AObj) (s x : AV), builtinA Tryz.prog σ b .append #[80, 80] [s, x] = appE σ b 2 s (comesS σ x) := fun _ _ _ _ => blt_append mk80 rfl
theorem ag81 : isAggT Tryz.prog 81 = some false := nr (by kernel_rfl)
theorem sz81 : sizeT Tryz.prog 81 = some 1 := nr (by kernel_rfl)
theorem ze81 : zeroC Tryz.prog 81 = some [.f (FV.nils)] := nr (by kernel_rfl)
theorem lds81 : ∀ (σ : Nat → AObj) (a : AV), loadA Tryz.prog σ 81 a = ldV σ a := fun _ a => loadA_s ag81 a
theorem el81 : elT Tryz.prog 81 = some (none, 1) := nr (by kernel_rfl)
theorem sl81 : ∀ (lo hi mx : Option Operand) (b : Nat) (σ : Nat → AObj) (ρ : Operand → AV) (d : Option Tmp) (ty : TypeId) (pos : String) (af : Array Edge) (g : Option (Nat × Bool))  (x : Operand), opA Tryz.prog b σ ρ ⟨d, .slice 81 x lo hi mx, ty, pos, af, g⟩ = effV (sliceA σ 1 (ρ x) (lo.map ρ) (hi.map ρ) (mx.map ρ)) := fun _ _ _ _ _ _ _ _ _ _ _ _ => opA_slice el81
theorem ia81 : ∀ (b : Nat) (σ : Nat → AObj) (ρ : Operand → AV) (d : Option Tmp) (ty : TypeId) (pos : String) (af : Array Edge) (g : Option (Nat × Bool))  (x y : Operand), opA Tryz.prog b σ ρ ⟨d, .indexAddr 81 x y, ty, pos, af, g⟩ = idxV (ρ y) (iaS 1 (ρ x)) := fun _ _ _ _ _ _ _ _ _ _ => opA_indexAddrS el81
theorem len81 : ∀ (σ : Nat → AObj) (v : AV), lenA Tryz.prog σ 81 v = lenS v := fun _ _ => lenA_s el81
theorem mk81 : mkT Tryz.prog 81 = some (1, [FV.bool false]) := nr (by kernel_rfl)
theorem ms81 : ∀ (b : Nat) (σ : Nat → AObj) (ρ : Operand → AV) (d : Option Tmp) (ty : TypeId) (pos : String) (af : Array Edge) (g : Option (Nat × Bool))  (x y : Operand), opA Tryz.prog b σ ρ ⟨d, .makeSlice 81 x y, ty, pos, af, g⟩ = mkslV b 1 [FV.bool false] (ρ x) (ρ y) := fun _ _ _ _ _ _ _ _ _ _ => opA_makeSlice mk81
theorem bs81 : ∀ (len : Nat) (ps : Array (Nat × Operand)) (b : Nat) (σ : Nat → AObj) (ρ : Operand → AV) (d : Option Tmp) (ty : TypeId) (pos : String) (af : Array Edge) (g : Option (Nat × Bool)) , len * 1 ≤ 1024 → opA Tryz.prog b σ ρ ⟨d, .buildSlice 81 len ps, ty, pos, af, g⟩ = bslV b 1 len (fillA (fun i => some (i * 1, 1)) (repCells len (List.map .f [FV.bool false])) (ps.toList.map fun (i, x) => (i, ρ x))) := fun _ _ _ _ _ _ _ _ _ _ h => opA_buildSlice mk81 h
theorem ap81 : ∀ (b : Nat) (σ : Nat → AObj) (s x : AV), builtinA Tryz.prog σ b .append #[81, 81] [s, x] = appE σ b 1 s (comesS σ x) := fun _ _ _ _ => blt_append mk81 rfl
theorem ag83 : isAggT Tryz.prog 83 = some true := nr (by kernel_rfl)
theorem sz83 : sizeT Tryz.prog 83 = some 4 := nr (by kernel_rfl)
theorem ze83 : zeroC Tryz.prog 83 = some [.f (FV.int .u8 0), .f (FV.int .u8 0), .f (FV.int .u8 0), .f (FV.int .u8 0)] := nr (by kernel_rfl)
theorem ldo83 : ∀ (σ : Nat → AObj) (o off : Nat), loadA Tryz.prog σ 83 (.ptr o off) = ldN 4 (σ o) off := fun _ _ _ => loadA_o ag83 sz83
theorem ldf83 : ∀ (σ : Nat → AObj) (cs : List FV) (off : Nat), loadA Tryz.prog σ 83 (.f (.ptr cs off)) = (sliceOf cs off 4).map fun l => .agg (l.map .f) := fun _ _ _ => loadA_f ag83 sz83
theorem el83 : elT Tryz.prog 83 = some (some 4, 1) := nr (by kernel_rfl)
theorem ba83 : ∀ (ps : Array (Nat × Operand)) (b : Nat) (σ : Nat → AObj) (ρ : Operand → AV) (d : Option Tmp) (ty : TypeId) (pos : String) (af : Array Edge) (g : Option (Nat × Bool)) , opA Tryz.prog b σ ρ ⟨d, .build 83 ps, ty, pos, af, g⟩ = bldV (fillA (fun i => some (i * 1, 1)) [.f (FV.int .u8 0), .f (FV.int .u8 0), .f (FV.int .u8 0), .f (FV.int .u8 0)] (ps.toList.map fun (i, x) => (i, ρ x))) := fun _ _ _ _ _ _ _ _ _ => opA_buildA ze83 el83
theorem ia83 : ∀ (b : Nat) (σ : Nat → AObj) (ρ : Operand → AV) (d : Option Tmp) (ty : TypeId) (pos : String) (af : Array Edge) (g : Option (Nat × Bool))  (x y : Operand), opA Tryz.prog b σ ρ ⟨d, .indexAddr 83 x y, ty, pos, af, g⟩ = idxV (ρ y) (iaA 4 1 (ρ x)) := fun _ _ _ _ _ _ _ _ _ _ => opA_indexAddrA el83
theorem ag88 : isAggT Tryz.prog 88 = some true := nr (by kernel_rfl)
theorem sz88 : sizeT Tryz.prog 88 = some 2 := nr (by kernel_rfl)
theorem ze88 : zeroC Tryz.prog 88 = some [.f (FV.nils), .f (FV.nils)] := nr (by kernel_rfl)
theorem ldo88 : ∀ (σ : Nat → AObj) (o off : Nat), loadA Tryz.prog σ 88 (.ptr o off) = ldN 2 (σ o) off := fun _ _ _ => loadA_o ag88 sz88
theorem ldf88 : ∀ (σ : Nat → AObj) (cs : List FV) (off : Nat), loadA Tryz.prog σ 88 (.f (.ptr cs off)) = (sliceOf cs off 2).map fun l => .agg (l.map .f) := fun _ _ _ => loadA_f ag88 sz88
theorem bo88 : bldOk Tryz.prog 88 = true := nr (by kernel_rfl)
theorem bd88 : ∀ (ps : Array (Nat × Operand)) (b : Nat) (σ : Nat → AObj) (ρ : Operand → AV) (d : Option Tmp) (ty : TypeId) (pos : String) (af : Array Edge) (g : Option (Nat × Bool)) , opA Tryz.prog b σ ρ ⟨d, .build 88 ps, ty, pos, af, g⟩ = bldV (fillA (fldP Tryz.prog 88) [.f (FV.nils), .f (FV.nils)] (ps.toList.map fun (i, x) => (i, ρ x))) := fun _ _ _ _ _ _ _ _ _ => opA_build ze88 bo88
theorem fp88_0 : fldP Tryz.prog 88 0 = some (0, 2) := nr (by kernel_rfl)
theorem fl88_0 : fldT Tryz.prog 88 0 = some (0, true, 2) := nr (by kernel_rfl)
theorem fa88_0 : ∀ (b : Nat) (σ : Nat → AObj) (ρ : Operand → AV) (d : Option Tmp) (ty : TypeId) (pos : String) (af : Array Edge) (g : Option (Nat × Bool))  (x : Operand), opA Tryz.prog b σ ρ ⟨d, .fieldAddr 88 x 0, ty, pos, af, g⟩ = faV 0 (ρ x) := fun _ _ _ _ _ _ _ _ _ => opA_fieldAddr fl88_0
theorem fi88_0 : ∀ (b : Nat) (σ : Nat → AObj) (ρ : Operand → AV) (d : Option Tmp) (ty : TypeId) (pos : String) (af : Array Edge) (g : Option (Nat × Bool))  (x : Operand), opA Tryz.prog b σ ρ ⟨d, .field 88 x 0, ty, pos, af, g⟩ = effV (fieldV 0 true 2 (ρ x)) := fun _ _ _ _ _ _ _ _ _ => opA_field fl88_0
theorem ag96 : isAggT Tryz.prog 96 = some false := nr (by kernel_rfl)
theorem sz96 : sizeT Tryz.prog 96 = some 1 := nr (by kernel_rfl)
theorem ze96 : zeroC Tryz.prog 96 = some [.f (FV.nilf)] := nr (by kernel_rfl)
theorem lds96 : ∀ (σ : Nat → AObj) (a : AV), loadA Tryz.prog σ 96 a = ldV σ a := fun _ a => loadA_s ag96 a
theorem ag102 : isAggT Tryz.prog 102 = some false := nr (by kernel_rfl)
theorem sz102 : sizeT Tryz.prog 102 = some 1 := nr (by kernel_rfl)
theorem ze102 : zeroC Tryz.prog 102 = some [.f (FV.nils)] := nr (by kernel_rfl)
theorem lds102 : ∀ (σ : Nat → AObj) (a : AV), loadA Tryz.prog σ 102 a = ldV σ a := fun _ a => loadA_s ag102 a
theorem el102 : elT Tryz.prog 102 = some (none, 1) := nr (by kernel_rfl)
theorem sl102 : ∀ (lo hi mx : Option Operand) (b : Nat) (σ : Nat → AObj) (ρ : Operand → AV) (d : Option Tmp) (ty : TypeId) (pos : String) (af : Array Edge) (g : Option (Nat × Bool))  (x : Operand), opA Tryz.prog b σ ρ ⟨d, .slice 102 x lo hi mx, ty, pos, af, g⟩ = effV (sliceA σ 1 (ρ x) (lo.map ρ) (hi.map ρ) (mx.map ρ)) := fun _ _ _ _ _ _ _ _ _ _ _ _ => opA_slice el102
theorem ia102 : ∀ (b : Nat) (σ : Nat → AObj) (ρ : Operand → AV) (d : Option Tmp) (ty : TypeId) (pos : String) (af : Array Edge) (g : Option (Nat × Bool))  (x y : Operand), opA Tryz.prog b σ ρ ⟨d, .indexAddr 102 x y, ty, pos, af, g⟩ = idxV (ρ y) (iaS 1 (ρ x)) := fun _ _ _ _ _ _ _ _ _ _ => opA_indexAddrS el102
theorem len102 : ∀ (σ : Nat → AObj) (v : AV), lenA Tryz.prog σ 102 v = lenS v := fun _ _ => lenA_s el102
theorem mk102 : mkT Tryz.prog 102 = some (1, [FV.nils]) := nr (by kernel_rfl)
theorem ms102 : ∀ (b : Nat) (σ : Nat → AObj) (ρ : Operand → AV) (d : Option Tmp) (ty : TypeId) (pos : String) (af : Array Edge) (g : Option (Nat × Bool))  (x y : Operand), opA Tryz.prog b σ ρ ⟨d, .makeSlice 102 x y, ty, pos, af, g⟩ = mkslV b 1 [FV.nils] (ρ x) (ρ y) := fun _ _ _ _ _ _ _ _ _ _ => opA_makeSlice mk102
theorem bs102 : ∀ (len : Nat) (ps : Array (Nat × Operand)) (b : Nat) (σ : Nat → AObj) (ρ : Operand → AV) (d : Option Tmp) (ty : TypeId) (pos : String) (af : Array Edge) (g : Option (Nat × Bool)) , len * 1 ≤ 1024 → opA Tryz.prog b σ ρ ⟨d, .buildSlice 102 len ps, ty, pos, af, g⟩ = bslV b 1 len (fillA (fun i => some (i * 1, 1)) (repCells len (List.map .f [FV.nils])) (ps.toList.map fun (i, x) => (i, ρ x))) := fun _ _ _ _ _ _ _ _ _ _ h => opA_buildSlice mk102 h
theorem ap102 : ∀ (b : Nat) (σ : Nat → AObj) (s x : AV), builtinA Tryz.prog σ b .append #[102, 102] [s, x] = appE σ b 1 s (comesS σ x) := fun _ _ _ _ => blt_append mk102 rfl
theorem ag108 : isAggT Tryz.prog 108 = some true := nr (by kernel_rfl)
theorem sz108 : sizeT Tryz.prog 108 = some 3 := nr (by kernel_rfl)
theorem ze108 : zeroC Tryz.prog 108 = some [.f (FV.int .i64 0), .f (FV.int .i64 0), .f (FV.int .i64 0)] := nr (by kernel_rfl)
theorem ldo108 : ∀ (σ : Nat → AObj) (o off : Nat), loadA Tryz.prog σ 108 (.ptr o off) = ldN 3 (σ o) off := fun _ _ _ => loadA_o ag108 sz108
theorem ldf108 : ∀ (σ : Nat → AObj) (cs : List FV) (off : Nat), loadA Tryz.prog σ 108 (.f (.ptr cs off)) = (sliceOf cs off 3).map fun l => .agg (l.map .f) := fun _ _ _ => loadA_f ag108 sz108
theorem bo108 : bldOk Tryz.prog 108 = true := nr (by kernel_rfl)
theorem bd108 : ∀ (ps : Array (Nat × Operand)) (b : Nat) (σ : Nat → AObj) (ρ : Operand → AV) (d : Option Tmp) (ty : TypeId) (pos : String) (af : Array Edge) (g : Option (Nat × Bool)) , opA Tryz.prog b σ ρ ⟨d, .build 108 ps, ty, pos, af, g⟩ = bldV (fillA (fldP Tryz.prog 108) [.f (FV.int .i64 0), .f (FV.int .i64 0), .f (FV.int .i64 0)] (ps.toList.map fun (i, x) => (i, ρ x))) := fun _ _ _ _ _ _ _ _ _ => opA_build ze108 bo108
theorem fp108_0 : fldP Tryz.prog 108 0 = some (0, 1) := nr (by kernel_rfl)
theorem fp108_1 : fldP Tryz.prog 108 1 = some (1, 1) := nr (by kernel_rfl)
theorem fp108_2 : fldP Tryz.prog 108 2 = some (2, 1) := nr (by kernel_rfl)
theorem fl108_0 : fldT Tryz.prog 108 0 = some (0, false, 1) := nr (by kernel_rfl)
theorem fa108_0 : ∀ (b : Nat) (σ : Nat → AObj) (ρ : Operand → AV) (d : Option Tmp) (ty : TypeId) (pos : String) (af : Array Edge) (g : Option (Nat × Bool))  (x : Operand), opA Tryz.prog b σ ρ ⟨d, .fieldAddr 108 x 0, ty, pos, af, g⟩ = faV 0 (ρ x) := fun _ _ _ _ _ _ _ _ _ => opA_fieldAddr fl108_0
theorem fi108_0 : ∀ (b : Nat) (σ : Nat → AObj) (ρ : Operand → AV) (d : Option Tmp) (ty : TypeId) (pos : String) (af : Array Edge) (g : Option (Nat × Bool))  (x : Operand), opA Tryz.prog b σ ρ ⟨d, .field 108 x 0, ty, pos, af, g⟩ = effV (fieldV 0 false 1 (ρ x)) := fun _ _ _ _ _ _ _ _ _ => opA_field fl108_0
theorem fl108_1 : fldT Tryz.prog 108 1 = some (1, false, 1) := nr (by kernel_rfl)
theorem fa108_1 : ∀ (b : Nat) (σ : Nat → AObj) (ρ : Operand → AV) (d : Option Tmp) (ty : TypeId) (pos : String) (af : Array Edge) (g : Option (Nat × Bool))  (x : Operand), opA Tryz.prog b σ ρ ⟨d, .fieldAddr 108 x 1, ty, pos, af, g⟩ = faV 1 (ρ x) := fun _ _ _ _ _ _ _ _ _ => opA_fieldAddr fl108_1
theorem fi108_1 : ∀ (b : Nat) (σ : Nat → AObj) (ρ : Operand → AV) (d : Option Tmp) (ty : TypeId) (pos : String) (af : Array Edge) (g : Option (Nat × Bool))  (x : Operand), opA Tryz.prog b σ ρ ⟨d, .field 108 x 1, ty, pos, af, g⟩ = effV (fieldV 1 false 1 (ρ x)) := fun _ _ _ _ _ _ _ _ _ => opA_field fl108_1
theorem fl108_2 : fldT Tryz.prog 108 2 = some (2, false, 1) := nr (by kernel_rfl)
theorem fa108_2 : ∀ (b : Nat) (σ : Nat → AObj) (ρ : Operand → AV) (d : Option Tmp) (ty : TypeId) (pos : String) (af : Array Edge) (g : Option (Nat × Bool))  (x : Operand), opA Tryz.prog b σ ρ ⟨d, .fieldAddr 108 x 2, ty, pos, af, g⟩ = faV 2 (ρ x) := fun _ _ _ _ _ _ _ _ _ => opA_fieldAddr fl108_2
theorem fi108_2 : ∀ (b : Nat) (σ : Nat → AObj) (ρ : Operand → AV) (d : Option Tmp) (ty : TypeId) (pos : String) (af : Array Edge) (g : Option (Nat × Bool))  (x : Operand), opA Tryz.prog b σ ρ ⟨d, .field 108 x 2, ty, pos, af, g⟩ = effV (fieldV 2 false 1 (ρ x)) := fun _ _ _ _ _ _ _ _ _ => opA_field fl108_2
theorem ag114 : isAggT Tryz.prog 114 = some false := nr (by kernel_rfl)
theorem sz114 : sizeT Tryz.prog 114 = some 1 := nr (by kernel_rfl)
theorem ze114 : zeroC Tryz.prog 114 = some [.f (FV.nilf)] := nr (by kernel_rfl)
theorem lds114 : ∀ (σ : Nat → AObj) (a : AV), loadA Tryz.prog σ 114 a = ldV σ a := fun _ a => loadA_s ag114 a
theorem ag122 : isAggT Tryz.prog 122 = some false := nr (by kernel_rfl)
theorem sz122 : sizeT Tryz.prog 122 = some 1 := nr (by kernel_rfl)
theorem ze122 : zeroC Tryz.prog 122 = some [.f (FV.nilf)] := nr (by kernel_rfl)
theorem lds122 : ∀ (σ : Nat → AObj) (a : AV), loadA Tryz.prog σ 122 a = ldV σ a := fun _ a => loadA_s ag122 a
theorem ag124 : isAggT Tryz.prog 124 = some false := nr (by kernel_rfl)
theorem sz124 : sizeT Tryz.prog 124 = some 1 := nr (by kernel_rfl)
theorem ze124 : zeroC Tryz.prog 124 = some [.f (FV.nilf)] := nr (by kernel_rfl)
theorem lds124 : ∀ (σ : Nat → AObj) (a : AV), loadA Tryz.prog σ 124 a = ldV σ a := fun _ a => loadA_s ag124 a
theorem ag127 : isAggT Tryz.prog 127 = some false := nr (by kernel_rfl)
theorem sz127 : sizeT Tryz.prog 127 = some 1 := nr (by kernel_rfl)
theorem ze127 : zeroC Tryz.prog 127 = some [.f (FV.nilf)] := nr (by kernel_rfl)
theorem lds127 : ∀ (σ : Nat → AObj) (a : AV), loadA Tryz.prog σ 127 a = ldV σ a := fun _ a => loadA_s ag127 a
theorem ag130 : isAggT Tryz.prog 130 = some false := nr (by kernel_rfl)
theorem sz130 : sizeT Tryz.prog 130 = some 1 := nr (by kernel_rfl)
theorem ze130 : zeroC Tryz.prog 130 = some [.f (FV.nilf)] := nr (by kernel_rfl)
theorem lds130 : ∀ (σ : Nat → AObj) (a : AV), loadA Tryz.prog σ 130 a = ldV σ a := fun _ a => loadA_s ag130 a
theorem ag138 : isAggT Tryz.prog 138 = some false := nr (by kernel_rfl)
theorem sz138 : sizeT Tryz.prog 138 = some 1 := nr (by kernel_rfl)
theorem ze138 : zeroC Tryz.prog 138 = some [.f (FV.nilf)] := nr (by kernel_rfl)
theorem lds138 : ∀ (σ : Nat → AObj) (a : AV), loadA Tryz.prog σ 138 a = ldV σ a := fun _ a => loadA_s ag138 a
theorem ag146 : isAggT Tryz.prog 146 = some false := nr (by kernel_rfl)
theorem sz146 : sizeT Tryz.prog 146 = some 1 := nr (by kernel_rfl)
theorem ze146 : zeroC Tryz.prog 146 = some [.f (FV.int .i64 0)] := nr (by kernel_rfl)
theorem lds146 : ∀ (σ : Nat → AObj) (a : AV), loadA Tryz.prog σ 146 a = ldV σ a := fun _ a => loadA_s ag146 a
theorem ag154 : isAggT Tryz.prog 154 = some false := nr (by kernel_rfl)
theorem sz154 : sizeT Tryz.prog 154 = some 1 := nr (by kernel_rfl)
theorem ze154 : zeroC Tryz.prog 154 = some [.f (FV.int .u32 0)] := nr (by kernel_rfl)
theorem lds154 : ∀ (σ : Nat → AObj) (a : AV), loadA Tryz.prog σ 154 a = ldV σ a := fun _ a => loadA_s ag154 a
theorem ag156 : isAggT Tryz.prog 156 = some false := nr (by kernel_rfl)
theorem sz156 : sizeT Tryz.prog 156 = some 1 := nr (by kernel_rfl)
theorem ze156 : zeroC Tryz.prog 156 = some [.f (FV.int .u64 0)] := nr (by kernel_rfl)
theorem lds156 : ∀ (σ : Nat → AObj) (a : AV), loadA Tryz.prog σ 156 a = ldV σ a := fun _ a => loadA_s ag156 a
theorem ag162 : isAggT Tryz.prog 162 = some false := nr (by kernel_rfl)
theorem sz162 : sizeT Tryz.prog 162 = some 1 := nr (by kernel_rfl)
theorem ze162 : zeroC Tryz.prog 162 = some [.f (FV.int .u64 0)] := nr (by kernel_rfl)
theorem lds162 : ∀ (σ : Nat → AObj) (a : AV), loadA Tryz.prog σ 162 a = ldV σ a := fun _ a => loadA_s ag162 a
theorem ag166 : isAggT Tryz.prog 166 = some false := nr (by kernel_rfl)
theorem sz166 : sizeT Tryz.prog 166 = some 1 := nr (by kernel_rfl)
theorem ze166 : zeroC Tryz.prog 166 = some [.f (FV.nilp)] := nr (by kernel_rfl)
theorem lds166 : ∀ (σ : Nat → AObj) (a : AV), loadA Tryz.prog σ 166 a = ldV σ a := fun _ a => loadA_s ag166 a
theorem fnE3 : Tryz.prog.funcs[3]? = some Tryz.f3 := Tryz.func3
theorem fnE4 : Tryz.prog.funcs[4]? = some Tryz.f4 := Tryz.func4
theorem fnE5 : Tryz.prog.funcs[5]? = some Tryz.f5 := Tryz.func5
theorem fnE6 : Tryz.prog.funcs[6]? = some Tryz.f6 := Tryz.func6
theorem fnE7 : Tryz.prog.funcs[7]? = some Tryz.f7 := Tryz.func7
theorem fnE8 : Tryz.prog.funcs[8]? = some Tryz.f8 := Tryz.func8
theorem fnE9 : Tryz.prog.funcs[9]? = some Tryz.f9 := Tryz.func9
theorem fnE10 : Tryz.prog.funcs[10]? = some Tryz.f10 := Tryz.func10
theorem fnE11 : Tryz.prog.funcs[11]? = some Tryz.f11 := Tryz.func11
theorem fnE12 : Tryz.prog.funcs[12]? = some Tryz.f12 := Tryz.func12
theorem fnE13 : Tryz.prog.funcs[13]? = some Tryz.f13 := Tryz.func13
theorem fnE14 : Tryz.prog.funcs[14]? = some Tryz.f14 := Tryz.func14
theorem fnE15 : Tryz.prog.funcs[15]? = some Tryz.f15 := Tryz.func15
theorem fnE16 : Tryz.prog.funcs[16]? = some Tryz.f16 := Tryz.func16
theorem fnE17 : Tryz.prog.funcs[17]? = some Tryz.f17 := Tryz.func17
theorem fnE18 : Tryz.prog.funcs[18]? = some Tryz.f18 := Tryz.func18
theorem fnE19 : Tryz.prog.funcs[19]? = some Tryz.f19 := Tryz.func19
theorem fnE20 : Tryz.prog.funcs[20]? = some Tryz.f20 := Tryz.func20
theorem fnE21 : Tryz.prog.funcs[21]? = some Tryz.f21 := Tryz.func21
theorem fnE22 : Tryz.prog.funcs[22]? = some Tryz.f22 := Tryz.func22
theorem fnE23 : Tryz.prog.funcs[23]? = some Tryz.f23 := Tryz.func23
theorem fnE24 : Tryz.prog.funcs[24]? = some Tryz.f24 := Tryz.func24
theorem fnE25 : Tryz.prog.funcs[25]? = some Tryz.f25 := Tryz.func25
theorem fnE26 : Tryz.prog.funcs[26]? = some Tryz.f26 := Tryz.func26
theorem fnE27 : Tryz.prog.funcs[27]? = some Tryz.f27 := Tryz.func27
theorem fnE28 : Tryz.prog.funcs[28]? = some Tryz.f28 := Tryz.func28
theorem fnE29 : Tryz.prog.funcs[29]? = some Tryz.f29 := Tryz.func29
theorem fnE30 : Tryz.prog.funcs[30]? = some Tryz.f30 := Tryz.func30
theorem fnE31 : Tryz.prog.funcs[31]? = some Tryz.f31 := Tryz.func31
theorem fnE32 : Tryz.prog.funcs[32]? = some Tryz.f32 := Tryz.func32
theorem fnE33 : Tryz.prog.funcs[33]? = some Tryz.f33 := Tryz.func33
theorem fnE34 : Tryz.prog.funcs[34]? = some Tryz.f34 := Tryz.func34
theorem fnE35 : Tryz.prog.funcs[35]? = some Tryz.f35 := Tryz.func35
theorem fnE36 : Tryz.prog.funcs[36]? = some Tryz.f36 := Tryz.func36
theorem fnE37 : Tryz.prog.funcs[37]? = some Tryz.f37 := Tryz.func37
theorem fnE38 : Tryz.prog.funcs[38]? = some Tryz.f38 := Tryz.func38
theorem fnE39 : Tryz.prog.funcs[39]? = some Tryz.f39 := Tryz.func39
theorem fnE40 : Tryz.prog.funcs[40]? = some Tryz.f40 := Tryz.func40
theorem fnE41 : Tryz.prog.funcs[41]? = some Tryz.f41 := Tryz.func41
theorem fnE42 : Tryz.prog.funcs[42]? = some Tryz.f42 := Tryz.func42
theorem fnE43 : Tryz.prog.funcs[43]? = some Tryz.f43 := Tryz.func43
theorem fnE44 : Tryz.prog.funcs[44]? = some Tryz.f44 := Tryz.func44
theorem fnE45 : Tryz.prog.funcs[45]? = some Tryz.f45 := Tryz.func45
theorem fnE46 : Tryz.prog.funcs[46]? = some Tryz.f46 := Tryz.func46
theorem fnE47 : Tryz.prog.funcs[47]? = some Tryz.f47 := Tryz.func47
theorem fnE48 : Tryz.prog.funcs[48]? = some Tryz.f48 := Tryz.func48
theorem fnE49 : Tryz.prog.funcs[49]? = some Tryz.f49 := Tryz.func49
theorem fnE50 : Tryz.prog.funcs[50]? = some Tryz.f50 := Tryz.func50
theorem fnE51 : Tryz.prog.funcs[51]? = some Tryz.f51 := Tryz.func51
theorem fnE52 : Tryz.prog.funcs[52]? = some Tryz.f52 := Tryz.func52
theorem fnE53 : Tryz.prog.funcs[53]? = some Tryz.f53 := Tryz.func53
theorem fnE54 : Tryz.prog.funcs[54]? = some Tryz.f54 := Tryz.func54
theorem fnE55 : Tryz.prog.funcs[55]? = some Tryz.f55 := Tryz.func55
theorem fnE56 : Tryz.prog.funcs[56]? = some Tryz.f56 := Tryz.func56
theorem fnE57 : Tryz.prog.funcs[57]? = some Tryz.f57 := Tryz.func57
theorem fnE58 : Tryz.prog.funcs[58]? = some Tryz.f58 := Tryz.func58
theorem fnE59 : Tryz.prog.funcs[59]? = some Tryz.f59 := Tryz.func59
theorem fnE60 : Tryz.prog.funcs[60]? = some Tryz.f60 := Tryz.func60
theorem fnE61 : Tryz.prog.funcs[61]? = some Tryz.f61 := Tryz.func61
theorem fnE62 : Tryz.prog.funcs[62]? = some Tryz.f62 := Tryz.func62
theorem fnE63 : Tryz.prog.funcs[63]? = some Tryz.f63 := Tryz.func63
theorem fnE64 : Tryz.prog.funcs[64]? = some Tryz.f64 := Tryz.func64
theorem fnE65 : Tryz.prog.funcs[65]? = some Tryz.f65 := Tryz.func65
theorem fnE66 : Tryz.prog.funcs[66]? = some Tryz.f66 := Tryz.func66
theorem fnE67 : Tryz.prog.funcs[67]? = some Tryz.f67 := Tryz.func67
theorem fnE68 : Tryz.prog.funcs[68]? = some Tryz.f68 := Tryz.func68
theorem fnE69 : Tryz.prog.funcs[69]? = some Tryz.f69 := Tryz.func69
theorem fnE70 : Tryz.prog.funcs[70]? = some Tryz.f70 := Tryz.func70
theorem fnE71 : Tryz.prog.funcs[71]? = some Tryz.f71 := Tryz.func71
theorem fnE72 : Tryz.prog.funcs[72]? = some Tryz.f72 := Tryz.func72
theorem fnE73 : Tryz.prog.funcs[73]? = some Tryz.f73 := Tryz.func73
theorem fnE74 : Tryz.prog.funcs[74]? = some Tryz.f74 := Tryz.func74
theorem fnE75 : Tryz.prog.funcs[75]? = some Tryz.f75 := Tryz.func75
theorem fnE76 : Tryz.prog.funcs[76]? = some Tryz.f76 := Tryz.func76
theorem fnE77 : Tryz.prog.funcs[77]? = some Tryz.f77 := Tryz.func77
theorem fnE78 : Tryz.prog.funcs[78]? = some Tryz.f78 := Tryz.func78
theorem fnE79 : Tryz.prog.funcs[79]? = some Tryz.f79 := Tryz.func79
theorem fnE80 : Tryz.prog.funcs[80]? = some Tryz.f80 := Tryz.func80
theorem fnE81 : Tryz.prog.funcs[81]? = some Tryz.f81 := Tryz.func81
theorem fnE82 : Tryz.prog.funcs[82]? = some Tryz.f82 := Tryz.func82
theorem fnE83 : Tryz.prog.funcs[83]? = some Tryz.f83 := Tryz.func83
theorem fnE84 : Tryz.prog.funcs[84]? = some Tryz.f84 := Tryz.func84
theorem fnE85 : Tryz.prog.funcs[85]? = some Tryz.f85 := Tryz.func85
theorem fnE86 : Tryz.prog.funcs[86]? = some Tryz.f86 := Tryz.func86
theorem fnE87 : Tryz.prog.funcs[87]? = some Tryz.f87 := Tryz.func87
theorem fnE88 : Tryz.prog.funcs[88]? = some Tryz.f88 := Tryz.func88
theorem fnE89 : Tryz.prog.funcs[89]? = some Tryz.f89 := Tryz.func89
theorem fnE90 : Tryz.prog.funcs[90]? = some Tryz.f90 := Tryz.func90
theorem fnE91 : Tryz.prog.funcs[91]? = some Tryz.f91 := Tryz.func91
theorem fnE92 : Tryz.prog.funcs[92]? = some Tryz.f92 := Tryz.func92
theorem fnE93 : Tryz.prog.funcs[93]? = some Tryz.f93 := Tryz.func93
theorem fnE94 : Tryz.prog.funcs[94]? = some Tryz.f94 := Tryz.func94
theorem fnE95 : Tryz.prog.funcs[95]? = some Tryz.f95 := Tryz.func95
theorem fnE96 : Tryz.prog.funcs[96]? = some Tryz.f96 := Tryz.func96
theorem fnE97 : Tryz.prog.funcs[97]? = some Tryz.f97 := Tryz.func97
theorem fnE98 : Tryz.prog.funcs[98]? = some Tryz.f98 := Tryz.func98
theorem fnE99 : Tryz.prog.funcs[99]? = some Tryz.f99 := Tryz.func99
theorem fnE100 : Tryz.prog.funcs[100]? = some Tryz.f100 := Tryz.func100
theorem fnE101 : Tryz.prog.funcs[101]? = some Tryz.f101 := Tryz.func101
theorem fnE102 : Tryz.prog.funcs[102]? = some Tryz.f102 := Tryz.func102
theorem fnE103 : Tryz.prog.funcs[103]? = some Tryz.f103 := Tryz.func103
theorem fnE104 : Tryz.prog.funcs[104]? = some Tryz.f104 := Tryz.func104
theorem fnE105 : Tryz.prog.funcs[105]? = some Tryz.f105 := Tryz.func105
theorem fnE106 : Tryz.prog.funcs[106]? = some Tryz.f106 := Tryz.func106
theorem fnE107 : Tryz.prog.funcs[107]? = some Tryz.f107 := Tryz.func107
theorem fnE108 : Tryz.prog.funcs[108]? = some Tryz.f108 := Tryz.func108
theorem fnE109 : Tryz.prog.funcs[109]? = some Tryz.f109 := Tryz.func109
theorem fnE110 : Tryz.prog.funcs[110]? = some Tryz.f110 := Tryz.func110
theorem fnE111 : Tryz.prog.funcs[111]? = some Tryz.f111 := Tryz.func111
theorem fnE112 : Tryz.prog.funcs[112]? = some Tryz.f112 := Tryz.func112
theorem fnE113 : Tryz.prog.funcs[113]? = some Tryz.f113 := Tryz.func113
theorem fnE114 : Tryz.prog.funcs[114]? = some Tryz.f114 := Tryz.func114
theorem fnE115 : Tryz.prog.funcs[115]? = some Tryz.f115 := Tryz.func115
theorem fnE116 : Tryz.prog.funcs[116]? = some Tryz.f116 := Tryz.func116
theorem fnE117 : Tryz.prog.funcs[117]? = some Tryz.f117 := Tryz.func117
theorem fnE118 : Tryz.prog.funcs[118]? = some Tryz.f118 := Tryz.func118
theorem fnE119 : Tryz.prog.funcs[119]? = some Tryz.f119 := Tryz.func119
theorem fnE120 : Tryz.prog.funcs[120]? = some Tryz.f120 := Tryz.func120
theorem fnE121 : Tryz.prog.funcs[121]? = some Tryz.f121 := Tryz.func121
theorem fnE122 : Tryz.prog.funcs[122]? = some Tryz.f122 := Tryz.func122
theorem fnE123 : Tryz.prog.funcs[123]? = some Tryz.f123 := Tryz.func123
theorem fnE124 : Tryz.prog.funcs[124]? = some Tryz.f124 := Tryz.func124
theorem fnE125 : Tryz.prog.funcs[125]? = some Tryz.f125 := Tryz.func125
theorem fnE126 : Tryz.prog.funcs[126]? = some Tryz.f126 := Tryz.func126
theorem fnE127 : Tryz.prog.funcs[127]? = some Tryz.f127 := Tryz.func127
theorem fnE128 : Tryz.prog.funcs[128]? = some Tryz.f128 := Tryz.func128
theorem fnE129 : Tryz.prog.funcs[129]? = some Tryz.f129 := Tryz.func129
theorem fnE130 : Tryz.prog.funcs[130]? = some Tryz.f130 := Tryz.func130
theorem fnE131 : Tryz.prog.funcs[131]? = some Tryz.f131 := Tryz.func131
theorem fnE132 : Tryz.prog.funcs[132]? = some Tryz.f132 := Tryz.func132
theorem fnE133 : Tryz.prog.funcs[133]? = some Tryz.f133 := Tryz.func133
theorem fnE134 : Tryz.prog.funcs[134]? = some Tryz.f134 := Tryz.func134
theorem fnE135 : Tryz.prog.funcs[135]? = some Tryz.f135 := Tryz.func135
theorem fnE136 : Tryz.prog.funcs[136]? = some Tryz.f136 := Tryz.func136
theorem fnE137 : Tryz.prog.funcs[137]? = some Tryz.f137 := Tryz.func137
theorem fnE138 : Tryz.prog.funcs[138]? = some Tryz.f138 := Tryz.func138
theorem fnE139 : Tryz.prog.funcs[139]? = some Tryz.f139 := Tryz.func139
theorem fnE140 : Tryz.prog.funcs[140]? = some Tryz.f140 := Tryz.func140
theorem fnE141 : Tryz.prog.funcs[141]? = some Tryz.f141 := Tryz.func141
attribute [go_sem] sz3 ze3 lds3 sz4 ze4 lds4 sz5 ze5 lds5 sz9 ze9 lds9 sz22 ze22 lds22 sl22 ia22 len22 ms22 bs22 ap22 sz23 ze23 lds23 sl23 ia23 len23 ms23 bs23 ap23 sz25 ze25 ldo25 ldf25 bd25 fp25_0 fp25_1 fa25_0 fi25_0 fa25_1 fi25_1 sz26 ze26 ldo26 ldf26 ba26 ia26 sz30 ze30 lds30 sz46 ze46 lds46 sl46 ia46 len46 ms46 bs46 ap46 sz47 ze47 lds47 sl47 ia47 len47 ms47 bs47 ap47 sz49 ze49 ldo49 ldf49 bd49 fp49_0 fp49_1 fp49_2 fa49_0 fi49_0 fa49_1 fi49_1 fa49_2 fi49_2 sz52 ze52 lds52 sl52 ia52 len52 ms52 bs52 ap52 sz56 ze56 ldo56 ldf56 bd56 fp56_0 fp56_1 fa56_0 fi56_0 fa56_1 fi56_1 sz61 ze61 lds61 sz63 ze63 lds63 sl63 ia63 len63 ms63 bs63 ap63 sz66 ze66 ldo66 ldf66 bd66 fp66_0 fp66_1 fp66_2 fa66_0 fi66_0 fa66_1 fi66_1 fa66_2 fi66_2 sz71 ze71 ldo71 ldf71 ba71 ia71 sz78 ze78 lds78 sz80 ze80 lds80 sl80 ia80 len80 ms80 bs80 ap80 sz81 ze81 lds81 sl81 ia81 len81 ms81 bs81 ap81 sz83 ze83 ldo83 ldf83 ba83 ia83 sz88 ze88 ldo88 ldf88 bd88 fp88_0 fa88_0 fi88_0 sz96 ze96 lds96 sz102 ze102 lds102 sl102 ia102 len102 ms102 bs102 ap102 sz108 ze108 ldo108 ldf108 bd108 fp108_0 fp108_1 fp108_2 fa108_0 fi108_0 fa108_1 fi108_1 fa108_2 fi108_2 sz114 ze114 lds114 sz122 ze122 lds122 sz124 ze124 lds124 sz127 ze127 lds127 sz130 ze130 lds130 sz138 ze138 lds138 sz146 ze146 lds146 sz154 ze154 lds154 sz156 ze156 lds156 sz162 ze162 lds162 sz166 ze166 lds166
end Go.AM
