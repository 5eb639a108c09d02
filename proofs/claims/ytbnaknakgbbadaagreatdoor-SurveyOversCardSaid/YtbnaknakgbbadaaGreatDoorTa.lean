/-
  The table of the functions, and that the program bears it.
-/
import Derived.Test.YtbnaknakgbbadaaGreatDoorDr
import Derived.Test.YtbnaknakgbbadaaGreatDoorFb
import Derived.KernelRfl
import Derived.Test.YtbnaknakgbbadaaGreatDoorProg
import Derived.Shelf.Strings.Repeat
import Derived.Laws.Externs
section
namespace Ax
open Go
noncomputable section
/-- k copies of n bytes 0. -/
def repZ (n b k : Nat) (h : H) : R1 :=
  gate 401 (Bool.rec false (Bool.rec false (Nat.beq (Nat.mod b (Nat.pow 256 n)) 0) (Nat.ble k 9223372036854775807)) (Nat.ble (Nat.mul n k) 140737488355328)) (.ok (.str (Nat.mul n k) 0) h)
/-- internal/abi.NoEscape: its argument. -/
def nat200 : Nat → (FuncId → List V → H → R1) → List V → H → R1 := fun _ _ vs h => match vs with
  | [x] => .ok x h
  | _ => .bad 406
/-- strings.Repeat of bytes 0. -/
def nat103 : Nat → (FuncId → List V → H → R1) → List V → H → R1 := fun _ _ vs h => match vs with
  | [s, k] => dStr 402 s fun n b => dInt 403 k fun kd k => gate 405 (Nat.beq (kno kd) 3) (Int.rec (motive := fun _ => R1) (fun k => repZ n b k h) (fun _ => .bad 404) k)
  | _ => .bad 407
end
end Ax
end
section
namespace Ax
open Go
noncomputable def n0 : T Ent := .lf .no
noncomputable def n1 : T Ent := .nd n0 n0
noncomputable def n2 : T Ent := .nd n1 n1
noncomputable def n3 : T Ent := .nd n2 n2
noncomputable def n4 : T Ent := .nd n3 n3
noncomputable def n5 : T Ent := .nd n4 n4
noncomputable def n6 : T Ent := .nd n5 n5
noncomputable def n7 : T Ent := .nd n6 n6
noncomputable def n8 : T Ent := .nd n7 n7
noncomputable def tab : T Ent := (.nd (.nd (.nd (.nd (.nd (.nd (.nd (.nd n1 (.nd (.lf (.run r128)) n0)) (.nd (.nd (.lf (.run r64)) n0) (.nd (.lf (.run r192)) n0))) (.nd (.nd (.nd (.lf (.run r32)) n0) (.nd (.lf (.run r160)) n0)) (.nd (.nd (.lf (.run r96)) n0) n1))) (.nd (.nd (.nd n1 (.nd (.lf (.run r144)) n0)) (.nd (.nd (.lf (.run r80)) n0) n1)) (.nd (.nd (.nd (.lf (.run r48)) n0) (.nd (.lf (.run r176)) n0)) (.nd (.nd (.lf (.run r112)) n0) n1)))) (.nd (.nd (.nd (.nd (.nd (.lf (.run r8)) n0) n1) (.nd n1 (.nd (.lf (.run nat200)) n0))) (.nd (.nd (.nd (.lf (.run r40)) n0) (.nd (.lf (.run r168)) n0)) n2)) (.nd (.nd (.nd (.nd (.lf (.run r24)) n0) n1) n2) (.nd (.nd (.nd (.lf (.run r56)) n0) (.nd (.lf (.run r184)) n0)) (.nd (.nd (.lf (.run r120)) n0) n1))))) (.nd (.nd (.nd (.nd n2 (.nd (.nd (.lf (.run r68)) n0) n1)) (.nd (.nd (.nd (.lf (.run r36)) n0) n1) (.nd (.nd (.lf (.run r100)) n0) n1))) (.nd (.nd (.nd (.nd (.lf (.run r20)) n0) n1) (.nd (.nd (.lf (.run r84)) n0) n1)) (.nd (.nd (.nd (.lf (.run r52)) n0) n1) (.nd (.nd (.lf (.run r116)) n0) n1)))) (.nd (.nd (.nd (.nd (.nd (.lf (.run r12)) n0) (.nd (.lf (.run r140)) n0)) (.nd (.nd (.lf (.run r76)) n0) n1)) (.nd (.nd n1 (.nd (.lf (.run r172)) n0)) (.nd (.nd (.lf (.run r108)) n0) n1))) (.nd (.nd (.nd n1 (.nd (.lf (.run r156)) n0)) n2) (.nd (.nd (.nd (.lf (.run r60)) n0) (.nd (.lf (.run r188)) n0)) (.nd (.nd (.lf (.run r124)) n0) n1)))))) (.nd (.nd (.nd (.nd (.nd n2 (.nd (.nd (.lf (.run r66)) n0) (.nd (.lf (.run r194)) n0))) (.nd (.nd (.nd (.lf (.run r34)) n0) (.nd (.lf (.run r162)) n0)) (.nd (.nd (.lf (.run r98)) n0) n1))) (.nd (.nd (.nd n1 (.nd (.lf (.run r146)) n0)) (.nd (.nd (.lf (.run r82)) n0) n1)) (.nd (.nd (.nd (.lf (.run r50)) n0) (.nd (.lf (.run r178)) n0)) (.nd (.nd (.lf (.run r114)) n0) n1)))) (.nd (.nd (.nd (.nd (.nd (.lf (.run r10)) n0) n1) (.nd (.nd (.lf (.run r74)) n0) n1)) (.nd (.nd (.nd (.lf (.run r42)) n0) n1) (.nd (.nd (.lf (.run r106)) n0) n1))) (.nd (.nd (.nd (.nd (.lf (.run r26)) n0) (.nd (.lf (.run r154)) n0)) n2) (.nd (.nd (.nd (.lf (.run r58)) n0) (.nd (.lf (.run r186)) n0)) (.nd (.nd (.lf (.run r122)) n0) n1))))) (.nd (.nd (.nd (.nd (.nd (.nd (.lf (.run r6)) n0) (.nd (.lf (.run r134)) n0)) (.nd (.nd (.lf (.run r70)) n0) n1)) (.nd (.nd (.nd (.lf (.run r38)) n0) n1) (.nd (.nd (.lf (.run r102)) n0) n1))) (.nd (.nd (.nd (.nd (.lf (.run r22)) n0) n1) (.nd n1 (.nd (.lf (.run r214)) n0))) (.nd (.nd (.nd (.lf (.run r54)) n0) n1) (.nd (.nd (.lf (.run r118)) n0) n1)))) (.nd (.nd (.nd (.nd (.nd (.lf (.run r14)) n0) (.nd (.lf (.run r142)) n0)) (.nd (.nd (.lf (.run r78)) n0) n1)) (.nd (.nd (.nd (.lf (.run r46)) n0) n1) n2)) (.nd (.nd (.nd (.nd (.lf (.run r30)) n0) (.nd (.lf (.run r158)) n0)) (.nd (.nd (.lf (.run r94)) n0) n1)) (.nd (.nd n1 (.nd (.lf (.run r190)) n0)) (.nd (.nd (.lf (.run r126)) n0) n1))))))) (.nd (.nd (.nd (.nd (.nd (.nd n2 (.nd (.nd (.lf (.run r65)) n0) (.nd (.lf (.run r193)) n0))) (.nd (.nd (.nd (.lf (.run r33)) n0) n1) (.nd (.nd (.lf (.run r97)) n0) n1))) (.nd (.nd (.nd (.nd (.lf (.run r17)) n0) (.nd (.lf (.run r145)) n0)) (.nd (.nd (.lf (.run r81)) n0) n1)) (.nd (.nd (.nd (.lf (.run r49)) n0) (.nd (.lf (.run r177)) n0)) n2))) (.nd (.nd (.nd (.nd (.nd (.lf (.run r9)) n0) n1) (.nd (.nd (.lf (.run r73)) n0) n1)) (.nd (.nd (.nd (.lf (.run r41)) n0) n1) n2)) (.nd (.nd (.nd (.nd (.lf (.run r25)) n0) (.nd (.lf (.run r153)) n0)) n2) (.nd (.nd (.nd (.lf (.run r57)) n0) n1) (.nd (.nd (.lf (.run r121)) n0) n1))))) (.nd (.nd (.nd (.nd (.nd n1 (.nd (.lf (.run r133)) n0)) (.nd (.nd (.lf (.run r69)) n0) n1)) (.nd (.nd (.nd (.lf (.run r37)) n0) n1) (.nd (.nd (.lf (.run r101)) n0) (.nd (.lf (.run r229)) n0)))) (.nd (.nd (.nd (.nd (.lf (.run r21)) n0) n1) (.nd (.nd (.lf (.run r85)) n0) (.nd (.lf (.run r213)) n0))) (.nd n2 (.nd (.nd (.lf (.run r117)) n0) n1)))) (.nd (.nd (.nd (.nd (.nd (.lf (.run r13)) n0) n1) n2) (.nd (.nd (.nd (.lf (.run r45)) n0) (.nd (.lf (.run r173)) n0)) (.nd (.nd (.lf (.run r109)) n0) n1))) (.nd (.nd (.nd (.nd (.lf (.run r29)) n0) (.nd (.lf (.run r157)) n0)) n2) (.nd (.nd (.nd (.lf (.run r61)) n0) (.nd (.lf (.run r189)) n0)) (.nd (.nd (.lf (.run r125)) n0) n1)))))) (.nd (.nd (.nd (.nd (.nd (.nd n1 (.nd (.lf (.run r131)) n0)) (.nd (.nd (.lf (.run r67)) n0) (.nd (.lf (.run r195)) n0))) (.nd (.nd (.nd (.lf (.run r35)) n0) n1) (.nd (.nd (.lf (.run r99)) n0) n1))) (.nd (.nd (.nd (.nd (.lf (.run r19)) n0) (.nd (.lf (.run r147)) n0)) (.nd (.nd (.lf (.run r83)) n0) (.nd (.lf (.run r211)) n0))) (.nd n2 (.nd (.nd (.lf (.run r115)) n0) n1)))) (.nd (.nd (.nd (.nd (.nd (.lf (.run r11)) n0) (.nd (.lf (.run r139)) n0)) (.nd (.nd (.lf (.run r75)) n0) n1)) (.nd (.nd (.nd (.lf (.run r43)) n0) n1) (.nd (.nd (.lf (.run r107)) n0) n1))) (.nd (.nd (.nd (.nd (.lf (.run r27)) n0) (.nd (.lf (.run r155)) n0)) n2) (.nd (.nd (.nd (.lf (.run r59)) n0) (.nd (.lf (.run r187)) n0)) (.nd (.nd (.lf (.run r123)) n0) n1))))) (.nd (.nd (.nd n3 (.nd (.nd n1 (.nd (.lf (.run r167)) n0)) (.nd (.nd (.lf (.run nat103)) n0) n1))) (.nd (.nd (.nd (.nd (.lf (.run r23)) n0) n1) n2) (.nd (.nd (.nd (.lf (.run r55)) n0) n1) (.nd (.nd (.lf (.run r119)) n0) n1)))) (.nd (.nd (.nd (.nd n1 (.nd (.lf (.run r143)) n0)) (.nd (.nd (.lf (.run r79)) n0) n1)) (.nd (.nd (.nd (.lf (.run r47)) n0) n1) (.nd (.nd (.lf (.run r111)) n0) n1))) (.nd (.nd (.nd (.nd (.lf (.run r31)) n0) (.nd (.lf (.run r159)) n0)) (.nd (.nd (.lf (.run r95)) n0) n1)) (.nd (.nd (.nd (.lf (.run r63)) n0) (.nd (.lf (.run r191)) n0)) n2)))))))
noncomputable def h00 : H := ⟨0, T.mk .none hd⟩
end Ax
end
section
set_option maxRecDepth 100000
namespace Ax
open Go
def Rt (c : Fn') (r : Rg) : Prop := ∀ F call vs h, runFn quietZ call F c vs h = r F call vs h
def Pp (m : List I) (i : Nat) (t : Tg) : Prop := ∀ call b K, inslK quietZ call b K m i = t call b K
def Qq (l : List I) (i : Nat) (s : Sg) : Prop := ∀ F call b, insl quietZ call b l i = s F call b
theorem qs {m l : List I} {i : Nat} {t : Tg} {s : Sg} (hp : Pp m i t) (hq : Qq l (i + m.length) s) : Qq (m ++ l) i (sq t s) := fun F call b => by
  rw [insl_app l m i, hq F call b]
  exact hp call b _
theorem q8_0_19 : Qq l8_0_19 32 s8_0_19 := fun _ _ _ => by kernel_rfl
theorem p8_0_18 : Pp m8_0_18 31 t8_0_18 := fun _ _ _ => by kernel_rfl
theorem q8_0_18 : Qq l8_0_18 31 s8_0_18 := qs p8_0_18 q8_0_19
theorem p8_0_17 : Pp m8_0_17 30 t8_0_17 := fun _ _ _ => by kernel_rfl
theorem q8_0_17 : Qq l8_0_17 30 s8_0_17 := qs p8_0_17 q8_0_18
theorem p8_0_16 : Pp m8_0_16 29 t8_0_16 := fun _ _ _ => by kernel_rfl
theorem q8_0_16 : Qq l8_0_16 29 s8_0_16 := qs p8_0_16 q8_0_17
theorem p8_0_15 : Pp m8_0_15 26 t8_0_15 := fun _ _ _ => by kernel_rfl
theorem q8_0_15 : Qq l8_0_15 26 s8_0_15 := qs p8_0_15 q8_0_16
theorem p8_0_14 : Pp m8_0_14 25 t8_0_14 := fun _ _ _ => by kernel_rfl
theorem q8_0_14 : Qq l8_0_14 25 s8_0_14 := qs p8_0_14 q8_0_15
theorem p8_0_13 : Pp m8_0_13 24 t8_0_13 := fun _ _ _ => by kernel_rfl
theorem q8_0_13 : Qq l8_0_13 24 s8_0_13 := qs p8_0_13 q8_0_14
theorem p8_0_12 : Pp m8_0_12 23 t8_0_12 := fun _ _ _ => by kernel_rfl
theorem q8_0_12 : Qq l8_0_12 23 s8_0_12 := qs p8_0_12 q8_0_13
theorem p8_0_11 : Pp m8_0_11 20 t8_0_11 := fun _ _ _ => by kernel_rfl
theorem q8_0_11 : Qq l8_0_11 20 s8_0_11 := qs p8_0_11 q8_0_12
theorem p8_0_10 : Pp m8_0_10 19 t8_0_10 := fun _ _ _ => by kernel_rfl
theorem q8_0_10 : Qq l8_0_10 19 s8_0_10 := qs p8_0_10 q8_0_11
theorem p8_0_9 : Pp m8_0_9 18 t8_0_9 := fun _ _ _ => by kernel_rfl
theorem q8_0_9 : Qq l8_0_9 18 s8_0_9 := qs p8_0_9 q8_0_10
theorem p8_0_8 : Pp m8_0_8 17 t8_0_8 := fun _ _ _ => by kernel_rfl
theorem q8_0_8 : Qq l8_0_8 17 s8_0_8 := qs p8_0_8 q8_0_9
theorem p8_0_7 : Pp m8_0_7 14 t8_0_7 := fun _ _ _ => by kernel_rfl
theorem q8_0_7 : Qq l8_0_7 14 s8_0_7 := qs p8_0_7 q8_0_8
theorem p8_0_6 : Pp m8_0_6 13 t8_0_6 := fun _ _ _ => by kernel_rfl
theorem q8_0_6 : Qq l8_0_6 13 s8_0_6 := qs p8_0_6 q8_0_7
theorem p8_0_5 : Pp m8_0_5 12 t8_0_5 := fun _ _ _ => by kernel_rfl
theorem q8_0_5 : Qq l8_0_5 12 s8_0_5 := qs p8_0_5 q8_0_6
theorem p8_0_4 : Pp m8_0_4 9 t8_0_4 := fun _ _ _ => by kernel_rfl
theorem q8_0_4 : Qq l8_0_4 9 s8_0_4 := qs p8_0_4 q8_0_5
theorem p8_0_3 : Pp m8_0_3 8 t8_0_3 := fun _ _ _ => by kernel_rfl
theorem q8_0_3 : Qq l8_0_3 8 s8_0_3 := qs p8_0_3 q8_0_4
theorem p8_0_2 : Pp m8_0_2 5 t8_0_2 := fun _ _ _ => by kernel_rfl
theorem q8_0_2 : Qq l8_0_2 5 s8_0_2 := qs p8_0_2 q8_0_3
theorem p8_0_1 : Pp m8_0_1 4 t8_0_1 := fun _ _ _ => by kernel_rfl
theorem q8_0_1 : Qq l8_0_1 4 s8_0_1 := qs p8_0_1 q8_0_2
theorem p8_0_0 : Pp m8_0_0 0 t8_0_0 := fun _ _ _ => by kernel_rfl
theorem q8_0_0 : Qq l8_0_0 0 s8_0_0 := qs p8_0_0 q8_0_1
theorem f8 (F : Nat) (call : Cl) (vs : List V) (h : H) : runFn quietZ call F c8 vs h = g8 (fun b => insl quietZ call b l8_0_0 0) F call vs h := by kernel_rfl
theorem e8 : Rt c8 r8 := fun F call vs h => by rw [f8, show (fun b => insl quietZ call b l8_0_0 0) = s8_0_0 F call from funext (q8_0_0 F call)]; rfl
theorem q9_0_12 : Qq l9_0_12 18 s9_0_12 := fun _ _ _ => by kernel_rfl
theorem p9_0_11 : Pp m9_0_11 17 t9_0_11 := fun _ _ _ => by kernel_rfl
theorem q9_0_11 : Qq l9_0_11 17 s9_0_11 := qs p9_0_11 q9_0_12
theorem p9_0_10 : Pp m9_0_10 16 t9_0_10 := fun _ _ _ => by kernel_rfl
theorem q9_0_10 : Qq l9_0_10 16 s9_0_10 := qs p9_0_10 q9_0_11
theorem p9_0_9 : Pp m9_0_9 15 t9_0_9 := fun _ _ _ => by kernel_rfl
theorem q9_0_9 : Qq l9_0_9 15 s9_0_9 := qs p9_0_9 q9_0_10
theorem p9_0_8 : Pp m9_0_8 14 t9_0_8 := fun _ _ _ => by kernel_rfl
theorem q9_0_8 : Qq l9_0_8 14 s9_0_8 := qs p9_0_8 q9_0_9
theorem p9_0_7 : Pp m9_0_7 13 t9_0_7 := fun _ _ _ => by kernel_rfl
theorem q9_0_7 : Qq l9_0_7 13 s9_0_7 := qs p9_0_7 q9_0_8
theorem p9_0_6 : Pp m9_0_6 10 t9_0_6 := fun _ _ _ => by kernel_rfl
theorem q9_0_6 : Qq l9_0_6 10 s9_0_6 := qs p9_0_6 q9_0_7
theorem p9_0_5 : Pp m9_0_5 9 t9_0_5 := fun _ _ _ => by kernel_rfl
theorem q9_0_5 : Qq l9_0_5 9 s9_0_5 := qs p9_0_5 q9_0_6
theorem p9_0_4 : Pp m9_0_4 8 t9_0_4 := fun _ _ _ => by kernel_rfl
theorem q9_0_4 : Qq l9_0_4 8 s9_0_4 := qs p9_0_4 q9_0_5
theorem p9_0_3 : Pp m9_0_3 7 t9_0_3 := fun _ _ _ => by kernel_rfl
theorem q9_0_3 : Qq l9_0_3 7 s9_0_3 := qs p9_0_3 q9_0_4
theorem p9_0_2 : Pp m9_0_2 6 t9_0_2 := fun _ _ _ => by kernel_rfl
theorem q9_0_2 : Qq l9_0_2 6 s9_0_2 := qs p9_0_2 q9_0_3
theorem p9_0_1 : Pp m9_0_1 5 t9_0_1 := fun _ _ _ => by kernel_rfl
theorem q9_0_1 : Qq l9_0_1 5 s9_0_1 := qs p9_0_1 q9_0_2
theorem p9_0_0 : Pp m9_0_0 0 t9_0_0 := fun _ _ _ => by kernel_rfl
theorem q9_0_0 : Qq l9_0_0 0 s9_0_0 := qs p9_0_0 q9_0_1
theorem f9 (F : Nat) (call : Cl) (vs : List V) (h : H) : runFn quietZ call F c9 vs h = g9 (fun b => insl quietZ call b l9_0_0 0) F call vs h := by kernel_rfl
theorem e9 : Rt c9 r9 := fun F call vs h => by rw [f9, show (fun b => insl quietZ call b l9_0_0 0) = s9_0_0 F call from funext (q9_0_0 F call)]; rfl
theorem q11_0_11 : Qq l11_0_11 13 s11_0_11 := fun _ _ _ => by kernel_rfl
theorem p11_0_10 : Pp m11_0_10 12 t11_0_10 := fun _ _ _ => by kernel_rfl
theorem q11_0_10 : Qq l11_0_10 12 s11_0_10 := qs p11_0_10 q11_0_11
theorem p11_0_9 : Pp m11_0_9 11 t11_0_9 := fun _ _ _ => by kernel_rfl
theorem q11_0_9 : Qq l11_0_9 11 s11_0_9 := qs p11_0_9 q11_0_10
theorem p11_0_8 : Pp m11_0_8 10 t11_0_8 := fun _ _ _ => by kernel_rfl
theorem q11_0_8 : Qq l11_0_8 10 s11_0_8 := qs p11_0_8 q11_0_9
theorem p11_0_7 : Pp m11_0_7 9 t11_0_7 := fun _ _ _ => by kernel_rfl
theorem q11_0_7 : Qq l11_0_7 9 s11_0_7 := qs p11_0_7 q11_0_8
theorem p11_0_6 : Pp m11_0_6 8 t11_0_6 := fun _ _ _ => by kernel_rfl
theorem q11_0_6 : Qq l11_0_6 8 s11_0_6 := qs p11_0_6 q11_0_7
theorem p11_0_5 : Pp m11_0_5 7 t11_0_5 := fun _ _ _ => by kernel_rfl
theorem q11_0_5 : Qq l11_0_5 7 s11_0_5 := qs p11_0_5 q11_0_6
theorem p11_0_4 : Pp m11_0_4 6 t11_0_4 := fun _ _ _ => by kernel_rfl
theorem q11_0_4 : Qq l11_0_4 6 s11_0_4 := qs p11_0_4 q11_0_5
theorem p11_0_3 : Pp m11_0_3 5 t11_0_3 := fun _ _ _ => by kernel_rfl
theorem q11_0_3 : Qq l11_0_3 5 s11_0_3 := qs p11_0_3 q11_0_4
theorem p11_0_2 : Pp m11_0_2 4 t11_0_2 := fun _ _ _ => by kernel_rfl
theorem q11_0_2 : Qq l11_0_2 4 s11_0_2 := qs p11_0_2 q11_0_3
theorem p11_0_1 : Pp m11_0_1 3 t11_0_1 := fun _ _ _ => by kernel_rfl
theorem q11_0_1 : Qq l11_0_1 3 s11_0_1 := qs p11_0_1 q11_0_2
theorem p11_0_0 : Pp m11_0_0 0 t11_0_0 := fun _ _ _ => by kernel_rfl
theorem q11_0_0 : Qq l11_0_0 0 s11_0_0 := qs p11_0_0 q11_0_1
theorem q11_1_12 : Qq l11_1_12 15 s11_1_12 := fun _ _ _ => by kernel_rfl
theorem p11_1_11 : Pp m11_1_11 14 t11_1_11 := fun _ _ _ => by kernel_rfl
theorem q11_1_11 : Qq l11_1_11 14 s11_1_11 := qs p11_1_11 q11_1_12
theorem p11_1_10 : Pp m11_1_10 13 t11_1_10 := fun _ _ _ => by kernel_rfl
theorem q11_1_10 : Qq l11_1_10 13 s11_1_10 := qs p11_1_10 q11_1_11
theorem p11_1_9 : Pp m11_1_9 12 t11_1_9 := fun _ _ _ => by kernel_rfl
theorem q11_1_9 : Qq l11_1_9 12 s11_1_9 := qs p11_1_9 q11_1_10
theorem p11_1_8 : Pp m11_1_8 11 t11_1_8 := fun _ _ _ => by kernel_rfl
theorem q11_1_8 : Qq l11_1_8 11 s11_1_8 := qs p11_1_8 q11_1_9
theorem p11_1_7 : Pp m11_1_7 10 t11_1_7 := fun _ _ _ => by kernel_rfl
theorem q11_1_7 : Qq l11_1_7 10 s11_1_7 := qs p11_1_7 q11_1_8
theorem p11_1_6 : Pp m11_1_6 9 t11_1_6 := fun _ _ _ => by kernel_rfl
theorem q11_1_6 : Qq l11_1_6 9 s11_1_6 := qs p11_1_6 q11_1_7
theorem p11_1_5 : Pp m11_1_5 8 t11_1_5 := fun _ _ _ => by kernel_rfl
theorem q11_1_5 : Qq l11_1_5 8 s11_1_5 := qs p11_1_5 q11_1_6
theorem p11_1_4 : Pp m11_1_4 7 t11_1_4 := fun _ _ _ => by kernel_rfl
theorem q11_1_4 : Qq l11_1_4 7 s11_1_4 := qs p11_1_4 q11_1_5
theorem p11_1_3 : Pp m11_1_3 6 t11_1_3 := fun _ _ _ => by kernel_rfl
theorem q11_1_3 : Qq l11_1_3 6 s11_1_3 := qs p11_1_3 q11_1_4
theorem p11_1_2 : Pp m11_1_2 5 t11_1_2 := fun _ _ _ => by kernel_rfl
theorem q11_1_2 : Qq l11_1_2 5 s11_1_2 := qs p11_1_2 q11_1_3
theorem p11_1_1 : Pp m11_1_1 4 t11_1_1 := fun _ _ _ => by kernel_rfl
theorem q11_1_1 : Qq l11_1_1 4 s11_1_1 := qs p11_1_1 q11_1_2
theorem p11_1_0 : Pp m11_1_0 0 t11_1_0 := fun _ _ _ => by kernel_rfl
theorem q11_1_0 : Qq l11_1_0 0 s11_1_0 := qs p11_1_0 q11_1_1
theorem f11 (F : Nat) (call : Cl) (vs : List V) (h : H) : runFn quietZ call F c11 vs h = g11 (fun b => insl quietZ call b l11_0_0 0) (fun b => insl quietZ call b l11_1_0 0) F call vs h := by kernel_rfl
theorem e11 : Rt c11 r11 := fun F call vs h => by rw [f11, show (fun b => insl quietZ call b l11_0_0 0) = s11_0_0 F call from funext (q11_0_0 F call), show (fun b => insl quietZ call b l11_1_0 0) = s11_1_0 F call from funext (q11_1_0 F call)]; rfl
theorem q23_0_9 : Qq l23_0_9 11 s23_0_9 := fun _ _ _ => by kernel_rfl
theorem p23_0_8 : Pp m23_0_8 10 t23_0_8 := fun _ _ _ => by kernel_rfl
theorem q23_0_8 : Qq l23_0_8 10 s23_0_8 := qs p23_0_8 q23_0_9
theorem p23_0_7 : Pp m23_0_7 9 t23_0_7 := fun _ _ _ => by kernel_rfl
theorem q23_0_7 : Qq l23_0_7 9 s23_0_7 := qs p23_0_7 q23_0_8
theorem p23_0_6 : Pp m23_0_6 8 t23_0_6 := fun _ _ _ => by kernel_rfl
theorem q23_0_6 : Qq l23_0_6 8 s23_0_6 := qs p23_0_6 q23_0_7
theorem p23_0_5 : Pp m23_0_5 7 t23_0_5 := fun _ _ _ => by kernel_rfl
theorem q23_0_5 : Qq l23_0_5 7 s23_0_5 := qs p23_0_5 q23_0_6
theorem p23_0_4 : Pp m23_0_4 6 t23_0_4 := fun _ _ _ => by kernel_rfl
theorem q23_0_4 : Qq l23_0_4 6 s23_0_4 := qs p23_0_4 q23_0_5
theorem p23_0_3 : Pp m23_0_3 5 t23_0_3 := fun _ _ _ => by kernel_rfl
theorem q23_0_3 : Qq l23_0_3 5 s23_0_3 := qs p23_0_3 q23_0_4
theorem p23_0_2 : Pp m23_0_2 4 t23_0_2 := fun _ _ _ => by kernel_rfl
theorem q23_0_2 : Qq l23_0_2 4 s23_0_2 := qs p23_0_2 q23_0_3
theorem p23_0_1 : Pp m23_0_1 3 t23_0_1 := fun _ _ _ => by kernel_rfl
theorem q23_0_1 : Qq l23_0_1 3 s23_0_1 := qs p23_0_1 q23_0_2
theorem p23_0_0 : Pp m23_0_0 0 t23_0_0 := fun _ _ _ => by kernel_rfl
theorem q23_0_0 : Qq l23_0_0 0 s23_0_0 := qs p23_0_0 q23_0_1
theorem f23 (F : Nat) (call : Cl) (vs : List V) (h : H) : runFn quietZ call F c23 vs h = g23 (fun b => insl quietZ call b l23_0_0 0) F call vs h := by kernel_rfl
theorem e23 : Rt c23 r23 := fun F call vs h => by rw [f23, show (fun b => insl quietZ call b l23_0_0 0) = s23_0_0 F call from funext (q23_0_0 F call)]; rfl
theorem q25_0_9 : Qq l25_0_9 16 s25_0_9 := fun _ _ _ => by kernel_rfl
theorem p25_0_8 : Pp m25_0_8 15 t25_0_8 := fun _ _ _ => by kernel_rfl
theorem q25_0_8 : Qq l25_0_8 15 s25_0_8 := qs p25_0_8 q25_0_9
theorem p25_0_7 : Pp m25_0_7 14 t25_0_7 := fun _ _ _ => by kernel_rfl
theorem q25_0_7 : Qq l25_0_7 14 s25_0_7 := qs p25_0_7 q25_0_8
theorem p25_0_6 : Pp m25_0_6 13 t25_0_6 := fun _ _ _ => by kernel_rfl
theorem q25_0_6 : Qq l25_0_6 13 s25_0_6 := qs p25_0_6 q25_0_7
theorem p25_0_5 : Pp m25_0_5 12 t25_0_5 := fun _ _ _ => by kernel_rfl
theorem q25_0_5 : Qq l25_0_5 12 s25_0_5 := qs p25_0_5 q25_0_6
theorem p25_0_4 : Pp m25_0_4 9 t25_0_4 := fun _ _ _ => by kernel_rfl
theorem q25_0_4 : Qq l25_0_4 9 s25_0_4 := qs p25_0_4 q25_0_5
theorem p25_0_3 : Pp m25_0_3 8 t25_0_3 := fun _ _ _ => by kernel_rfl
theorem q25_0_3 : Qq l25_0_3 8 s25_0_3 := qs p25_0_3 q25_0_4
theorem p25_0_2 : Pp m25_0_2 5 t25_0_2 := fun _ _ _ => by kernel_rfl
theorem q25_0_2 : Qq l25_0_2 5 s25_0_2 := qs p25_0_2 q25_0_3
theorem p25_0_1 : Pp m25_0_1 4 t25_0_1 := fun _ _ _ => by kernel_rfl
theorem q25_0_1 : Qq l25_0_1 4 s25_0_1 := qs p25_0_1 q25_0_2
theorem p25_0_0 : Pp m25_0_0 0 t25_0_0 := fun _ _ _ => by kernel_rfl
theorem q25_0_0 : Qq l25_0_0 0 s25_0_0 := qs p25_0_0 q25_0_1
theorem f25 (F : Nat) (call : Cl) (vs : List V) (h : H) : runFn quietZ call F c25 vs h = g25 (fun b => insl quietZ call b l25_0_0 0) F call vs h := by kernel_rfl
theorem e25 : Rt c25 r25 := fun F call vs h => by rw [f25, show (fun b => insl quietZ call b l25_0_0 0) = s25_0_0 F call from funext (q25_0_0 F call)]; rfl
theorem q29_0_19 : Qq l29_0_19 31 s29_0_19 := fun _ _ _ => by kernel_rfl
theorem p29_0_18 : Pp m29_0_18 30 t29_0_18 := fun _ _ _ => by kernel_rfl
theorem q29_0_18 : Qq l29_0_18 30 s29_0_18 := qs p29_0_18 q29_0_19
theorem p29_0_17 : Pp m29_0_17 29 t29_0_17 := fun _ _ _ => by kernel_rfl
theorem q29_0_17 : Qq l29_0_17 29 s29_0_17 := qs p29_0_17 q29_0_18
theorem p29_0_16 : Pp m29_0_16 28 t29_0_16 := fun _ _ _ => by kernel_rfl
theorem q29_0_16 : Qq l29_0_16 28 s29_0_16 := qs p29_0_16 q29_0_17
theorem p29_0_15 : Pp m29_0_15 25 t29_0_15 := fun _ _ _ => by kernel_rfl
theorem q29_0_15 : Qq l29_0_15 25 s29_0_15 := qs p29_0_15 q29_0_16
theorem p29_0_14 : Pp m29_0_14 24 t29_0_14 := fun _ _ _ => by kernel_rfl
theorem q29_0_14 : Qq l29_0_14 24 s29_0_14 := qs p29_0_14 q29_0_15
theorem p29_0_13 : Pp m29_0_13 21 t29_0_13 := fun _ _ _ => by kernel_rfl
theorem q29_0_13 : Qq l29_0_13 21 s29_0_13 := qs p29_0_13 q29_0_14
theorem p29_0_12 : Pp m29_0_12 20 t29_0_12 := fun _ _ _ => by kernel_rfl
theorem q29_0_12 : Qq l29_0_12 20 s29_0_12 := qs p29_0_12 q29_0_13
theorem p29_0_11 : Pp m29_0_11 19 t29_0_11 := fun _ _ _ => by kernel_rfl
theorem q29_0_11 : Qq l29_0_11 19 s29_0_11 := qs p29_0_11 q29_0_12
theorem p29_0_10 : Pp m29_0_10 18 t29_0_10 := fun _ _ _ => by kernel_rfl
theorem q29_0_10 : Qq l29_0_10 18 s29_0_10 := qs p29_0_10 q29_0_11
theorem p29_0_9 : Pp m29_0_9 15 t29_0_9 := fun _ _ _ => by kernel_rfl
theorem q29_0_9 : Qq l29_0_9 15 s29_0_9 := qs p29_0_9 q29_0_10
theorem p29_0_8 : Pp m29_0_8 14 t29_0_8 := fun _ _ _ => by kernel_rfl
theorem q29_0_8 : Qq l29_0_8 14 s29_0_8 := qs p29_0_8 q29_0_9
theorem p29_0_7 : Pp m29_0_7 13 t29_0_7 := fun _ _ _ => by kernel_rfl
theorem q29_0_7 : Qq l29_0_7 13 s29_0_7 := qs p29_0_7 q29_0_8
theorem p29_0_6 : Pp m29_0_6 12 t29_0_6 := fun _ _ _ => by kernel_rfl
theorem q29_0_6 : Qq l29_0_6 12 s29_0_6 := qs p29_0_6 q29_0_7
theorem p29_0_5 : Pp m29_0_5 11 t29_0_5 := fun _ _ _ => by kernel_rfl
theorem q29_0_5 : Qq l29_0_5 11 s29_0_5 := qs p29_0_5 q29_0_6
theorem p29_0_4 : Pp m29_0_4 8 t29_0_4 := fun _ _ _ => by kernel_rfl
theorem q29_0_4 : Qq l29_0_4 8 s29_0_4 := qs p29_0_4 q29_0_5
theorem p29_0_3 : Pp m29_0_3 7 t29_0_3 := fun _ _ _ => by kernel_rfl
theorem q29_0_3 : Qq l29_0_3 7 s29_0_3 := qs p29_0_3 q29_0_4
theorem p29_0_2 : Pp m29_0_2 6 t29_0_2 := fun _ _ _ => by kernel_rfl
theorem q29_0_2 : Qq l29_0_2 6 s29_0_2 := qs p29_0_2 q29_0_3
theorem p29_0_1 : Pp m29_0_1 5 t29_0_1 := fun _ _ _ => by kernel_rfl
theorem q29_0_1 : Qq l29_0_1 5 s29_0_1 := qs p29_0_1 q29_0_2
theorem p29_0_0 : Pp m29_0_0 0 t29_0_0 := fun _ _ _ => by kernel_rfl
theorem q29_0_0 : Qq l29_0_0 0 s29_0_0 := qs p29_0_0 q29_0_1
theorem f29 (F : Nat) (call : Cl) (vs : List V) (h : H) : runFn quietZ call F c29 vs h = g29 (fun b => insl quietZ call b l29_0_0 0) F call vs h := by kernel_rfl
theorem e29 : Rt c29 r29 := fun F call vs h => by rw [f29, show (fun b => insl quietZ call b l29_0_0 0) = s29_0_0 F call from funext (q29_0_0 F call)]; rfl
theorem q35_0_11 : Qq l35_0_11 16 s35_0_11 := fun _ _ _ => by kernel_rfl
theorem p35_0_10 : Pp m35_0_10 15 t35_0_10 := fun _ _ _ => by kernel_rfl
theorem q35_0_10 : Qq l35_0_10 15 s35_0_10 := qs p35_0_10 q35_0_11
theorem p35_0_9 : Pp m35_0_9 14 t35_0_9 := fun _ _ _ => by kernel_rfl
theorem q35_0_9 : Qq l35_0_9 14 s35_0_9 := qs p35_0_9 q35_0_10
theorem p35_0_8 : Pp m35_0_8 13 t35_0_8 := fun _ _ _ => by kernel_rfl
theorem q35_0_8 : Qq l35_0_8 13 s35_0_8 := qs p35_0_8 q35_0_9
theorem p35_0_7 : Pp m35_0_7 12 t35_0_7 := fun _ _ _ => by kernel_rfl
theorem q35_0_7 : Qq l35_0_7 12 s35_0_7 := qs p35_0_7 q35_0_8
theorem p35_0_6 : Pp m35_0_6 9 t35_0_6 := fun _ _ _ => by kernel_rfl
theorem q35_0_6 : Qq l35_0_6 9 s35_0_6 := qs p35_0_6 q35_0_7
theorem p35_0_5 : Pp m35_0_5 8 t35_0_5 := fun _ _ _ => by kernel_rfl
theorem q35_0_5 : Qq l35_0_5 8 s35_0_5 := qs p35_0_5 q35_0_6
theorem p35_0_4 : Pp m35_0_4 7 t35_0_4 := fun _ _ _ => by kernel_rfl
theorem q35_0_4 : Qq l35_0_4 7 s35_0_4 := qs p35_0_4 q35_0_5
theorem p35_0_3 : Pp m35_0_3 6 t35_0_3 := fun _ _ _ => by kernel_rfl
theorem q35_0_3 : Qq l35_0_3 6 s35_0_3 := qs p35_0_3 q35_0_4
theorem p35_0_2 : Pp m35_0_2 5 t35_0_2 := fun _ _ _ => by kernel_rfl
theorem q35_0_2 : Qq l35_0_2 5 s35_0_2 := qs p35_0_2 q35_0_3
theorem p35_0_1 : Pp m35_0_1 4 t35_0_1 := fun _ _ _ => by kernel_rfl
theorem q35_0_1 : Qq l35_0_1 4 s35_0_1 := qs p35_0_1 q35_0_2
theorem p35_0_0 : Pp m35_0_0 0 t35_0_0 := fun _ _ _ => by kernel_rfl
theorem q35_0_0 : Qq l35_0_0 0 s35_0_0 := qs p35_0_0 q35_0_1
theorem f35 (F : Nat) (call : Cl) (vs : List V) (h : H) : runFn quietZ call F c35 vs h = g35 (fun b => insl quietZ call b l35_0_0 0) F call vs h := by kernel_rfl
theorem e35 : Rt c35 r35 := fun F call vs h => by rw [f35, show (fun b => insl quietZ call b l35_0_0 0) = s35_0_0 F call from funext (q35_0_0 F call)]; rfl
theorem q45_0_9 : Qq l45_0_9 14 s45_0_9 := fun _ _ _ => by kernel_rfl
theorem p45_0_8 : Pp m45_0_8 13 t45_0_8 := fun _ _ _ => by kernel_rfl
theorem q45_0_8 : Qq l45_0_8 13 s45_0_8 := qs p45_0_8 q45_0_9
theorem p45_0_7 : Pp m45_0_7 12 t45_0_7 := fun _ _ _ => by kernel_rfl
theorem q45_0_7 : Qq l45_0_7 12 s45_0_7 := qs p45_0_7 q45_0_8
theorem p45_0_6 : Pp m45_0_6 11 t45_0_6 := fun _ _ _ => by kernel_rfl
theorem q45_0_6 : Qq l45_0_6 11 s45_0_6 := qs p45_0_6 q45_0_7
theorem p45_0_5 : Pp m45_0_5 8 t45_0_5 := fun _ _ _ => by kernel_rfl
theorem q45_0_5 : Qq l45_0_5 8 s45_0_5 := qs p45_0_5 q45_0_6
theorem p45_0_4 : Pp m45_0_4 7 t45_0_4 := fun _ _ _ => by kernel_rfl
theorem q45_0_4 : Qq l45_0_4 7 s45_0_4 := qs p45_0_4 q45_0_5
theorem p45_0_3 : Pp m45_0_3 6 t45_0_3 := fun _ _ _ => by kernel_rfl
theorem q45_0_3 : Qq l45_0_3 6 s45_0_3 := qs p45_0_3 q45_0_4
theorem p45_0_2 : Pp m45_0_2 5 t45_0_2 := fun _ _ _ => by kernel_rfl
theorem q45_0_2 : Qq l45_0_2 5 s45_0_2 := qs p45_0_2 q45_0_3
theorem p45_0_1 : Pp m45_0_1 4 t45_0_1 := fun _ _ _ => by kernel_rfl
theorem q45_0_1 : Qq l45_0_1 4 s45_0_1 := qs p45_0_1 q45_0_2
theorem p45_0_0 : Pp m45_0_0 0 t45_0_0 := fun _ _ _ => by kernel_rfl
theorem q45_0_0 : Qq l45_0_0 0 s45_0_0 := qs p45_0_0 q45_0_1
theorem f45 (F : Nat) (call : Cl) (vs : List V) (h : H) : runFn quietZ call F c45 vs h = g45 (fun b => insl quietZ call b l45_0_0 0) F call vs h := by kernel_rfl
theorem e45 : Rt c45 r45 := fun F call vs h => by rw [f45, show (fun b => insl quietZ call b l45_0_0 0) = s45_0_0 F call from funext (q45_0_0 F call)]; rfl
theorem q46_0_17 : Qq l46_0_17 24 s46_0_17 := fun _ _ _ => by kernel_rfl
theorem p46_0_16 : Pp m46_0_16 23 t46_0_16 := fun _ _ _ => by kernel_rfl
theorem q46_0_16 : Qq l46_0_16 23 s46_0_16 := qs p46_0_16 q46_0_17
theorem p46_0_15 : Pp m46_0_15 22 t46_0_15 := fun _ _ _ => by kernel_rfl
theorem q46_0_15 : Qq l46_0_15 22 s46_0_15 := qs p46_0_15 q46_0_16
theorem p46_0_14 : Pp m46_0_14 21 t46_0_14 := fun _ _ _ => by kernel_rfl
theorem q46_0_14 : Qq l46_0_14 21 s46_0_14 := qs p46_0_14 q46_0_15
theorem p46_0_13 : Pp m46_0_13 20 t46_0_13 := fun _ _ _ => by kernel_rfl
theorem q46_0_13 : Qq l46_0_13 20 s46_0_13 := qs p46_0_13 q46_0_14
theorem p46_0_12 : Pp m46_0_12 19 t46_0_12 := fun _ _ _ => by kernel_rfl
theorem q46_0_12 : Qq l46_0_12 19 s46_0_12 := qs p46_0_12 q46_0_13
theorem p46_0_11 : Pp m46_0_11 18 t46_0_11 := fun _ _ _ => by kernel_rfl
theorem q46_0_11 : Qq l46_0_11 18 s46_0_11 := qs p46_0_11 q46_0_12
theorem p46_0_10 : Pp m46_0_10 15 t46_0_10 := fun _ _ _ => by kernel_rfl
theorem q46_0_10 : Qq l46_0_10 15 s46_0_10 := qs p46_0_10 q46_0_11
theorem p46_0_9 : Pp m46_0_9 14 t46_0_9 := fun _ _ _ => by kernel_rfl
theorem q46_0_9 : Qq l46_0_9 14 s46_0_9 := qs p46_0_9 q46_0_10
theorem p46_0_8 : Pp m46_0_8 13 t46_0_8 := fun _ _ _ => by kernel_rfl
theorem q46_0_8 : Qq l46_0_8 13 s46_0_8 := qs p46_0_8 q46_0_9
theorem p46_0_7 : Pp m46_0_7 12 t46_0_7 := fun _ _ _ => by kernel_rfl
theorem q46_0_7 : Qq l46_0_7 12 s46_0_7 := qs p46_0_7 q46_0_8
theorem p46_0_6 : Pp m46_0_6 11 t46_0_6 := fun _ _ _ => by kernel_rfl
theorem q46_0_6 : Qq l46_0_6 11 s46_0_6 := qs p46_0_6 q46_0_7
theorem p46_0_5 : Pp m46_0_5 8 t46_0_5 := fun _ _ _ => by kernel_rfl
theorem q46_0_5 : Qq l46_0_5 8 s46_0_5 := qs p46_0_5 q46_0_6
theorem p46_0_4 : Pp m46_0_4 7 t46_0_4 := fun _ _ _ => by kernel_rfl
theorem q46_0_4 : Qq l46_0_4 7 s46_0_4 := qs p46_0_4 q46_0_5
theorem p46_0_3 : Pp m46_0_3 6 t46_0_3 := fun _ _ _ => by kernel_rfl
theorem q46_0_3 : Qq l46_0_3 6 s46_0_3 := qs p46_0_3 q46_0_4
theorem p46_0_2 : Pp m46_0_2 5 t46_0_2 := fun _ _ _ => by kernel_rfl
theorem q46_0_2 : Qq l46_0_2 5 s46_0_2 := qs p46_0_2 q46_0_3
theorem p46_0_1 : Pp m46_0_1 4 t46_0_1 := fun _ _ _ => by kernel_rfl
theorem q46_0_1 : Qq l46_0_1 4 s46_0_1 := qs p46_0_1 q46_0_2
theorem p46_0_0 : Pp m46_0_0 0 t46_0_0 := fun _ _ _ => by kernel_rfl
theorem q46_0_0 : Qq l46_0_0 0 s46_0_0 := qs p46_0_0 q46_0_1
theorem f46 (F : Nat) (call : Cl) (vs : List V) (h : H) : runFn quietZ call F c46 vs h = g46 (fun b => insl quietZ call b l46_0_0 0) F call vs h := by kernel_rfl
theorem e46 : Rt c46 r46 := fun F call vs h => by rw [f46, show (fun b => insl quietZ call b l46_0_0 0) = s46_0_0 F call from funext (q46_0_0 F call)]; rfl
theorem q57_0_8 : Qq l57_0_8 15 s57_0_8 := fun _ _ _ => by kernel_rfl
theorem p57_0_7 : Pp m57_0_7 14 t57_0_7 := fun _ _ _ => by kernel_rfl
theorem q57_0_7 : Qq l57_0_7 14 s57_0_7 := qs p57_0_7 q57_0_8
theorem p57_0_6 : Pp m57_0_6 13 t57_0_6 := fun _ _ _ => by kernel_rfl
theorem q57_0_6 : Qq l57_0_6 13 s57_0_6 := qs p57_0_6 q57_0_7
theorem p57_0_5 : Pp m57_0_5 12 t57_0_5 := fun _ _ _ => by kernel_rfl
theorem q57_0_5 : Qq l57_0_5 12 s57_0_5 := qs p57_0_5 q57_0_6
theorem p57_0_4 : Pp m57_0_4 9 t57_0_4 := fun _ _ _ => by kernel_rfl
theorem q57_0_4 : Qq l57_0_4 9 s57_0_4 := qs p57_0_4 q57_0_5
theorem p57_0_3 : Pp m57_0_3 8 t57_0_3 := fun _ _ _ => by kernel_rfl
theorem q57_0_3 : Qq l57_0_3 8 s57_0_3 := qs p57_0_3 q57_0_4
theorem p57_0_2 : Pp m57_0_2 7 t57_0_2 := fun _ _ _ => by kernel_rfl
theorem q57_0_2 : Qq l57_0_2 7 s57_0_2 := qs p57_0_2 q57_0_3
theorem p57_0_1 : Pp m57_0_1 6 t57_0_1 := fun _ _ _ => by kernel_rfl
theorem q57_0_1 : Qq l57_0_1 6 s57_0_1 := qs p57_0_1 q57_0_2
theorem p57_0_0 : Pp m57_0_0 0 t57_0_0 := fun _ _ _ => by kernel_rfl
theorem q57_0_0 : Qq l57_0_0 0 s57_0_0 := qs p57_0_0 q57_0_1
theorem f57 (F : Nat) (call : Cl) (vs : List V) (h : H) : runFn quietZ call F c57 vs h = g57 (fun b => insl quietZ call b l57_0_0 0) F call vs h := by kernel_rfl
theorem e57 : Rt c57 r57 := fun F call vs h => by rw [f57, show (fun b => insl quietZ call b l57_0_0 0) = s57_0_0 F call from funext (q57_0_0 F call)]; rfl
theorem q66_0_12 : Qq l66_0_12 17 s66_0_12 := fun _ _ _ => by kernel_rfl
theorem p66_0_11 : Pp m66_0_11 16 t66_0_11 := fun _ _ _ => by kernel_rfl
theorem q66_0_11 : Qq l66_0_11 16 s66_0_11 := qs p66_0_11 q66_0_12
theorem p66_0_10 : Pp m66_0_10 15 t66_0_10 := fun _ _ _ => by kernel_rfl
theorem q66_0_10 : Qq l66_0_10 15 s66_0_10 := qs p66_0_10 q66_0_11
theorem p66_0_9 : Pp m66_0_9 14 t66_0_9 := fun _ _ _ => by kernel_rfl
theorem q66_0_9 : Qq l66_0_9 14 s66_0_9 := qs p66_0_9 q66_0_10
theorem p66_0_8 : Pp m66_0_8 13 t66_0_8 := fun _ _ _ => by kernel_rfl
theorem q66_0_8 : Qq l66_0_8 13 s66_0_8 := qs p66_0_8 q66_0_9
theorem p66_0_7 : Pp m66_0_7 12 t66_0_7 := fun _ _ _ => by kernel_rfl
theorem q66_0_7 : Qq l66_0_7 12 s66_0_7 := qs p66_0_7 q66_0_8
theorem p66_0_6 : Pp m66_0_6 11 t66_0_6 := fun _ _ _ => by kernel_rfl
theorem q66_0_6 : Qq l66_0_6 11 s66_0_6 := qs p66_0_6 q66_0_7
theorem p66_0_5 : Pp m66_0_5 10 t66_0_5 := fun _ _ _ => by kernel_rfl
theorem q66_0_5 : Qq l66_0_5 10 s66_0_5 := qs p66_0_5 q66_0_6
theorem p66_0_4 : Pp m66_0_4 7 t66_0_4 := fun _ _ _ => by kernel_rfl
theorem q66_0_4 : Qq l66_0_4 7 s66_0_4 := qs p66_0_4 q66_0_5
theorem p66_0_3 : Pp m66_0_3 6 t66_0_3 := fun _ _ _ => by kernel_rfl
theorem q66_0_3 : Qq l66_0_3 6 s66_0_3 := qs p66_0_3 q66_0_4
theorem p66_0_2 : Pp m66_0_2 5 t66_0_2 := fun _ _ _ => by kernel_rfl
theorem q66_0_2 : Qq l66_0_2 5 s66_0_2 := qs p66_0_2 q66_0_3
theorem p66_0_1 : Pp m66_0_1 4 t66_0_1 := fun _ _ _ => by kernel_rfl
theorem q66_0_1 : Qq l66_0_1 4 s66_0_1 := qs p66_0_1 q66_0_2
theorem p66_0_0 : Pp m66_0_0 0 t66_0_0 := fun _ _ _ => by kernel_rfl
theorem q66_0_0 : Qq l66_0_0 0 s66_0_0 := qs p66_0_0 q66_0_1
theorem f66 (F : Nat) (call : Cl) (vs : List V) (h : H) : runFn quietZ call F c66 vs h = g66 (fun b => insl quietZ call b l66_0_0 0) F call vs h := by kernel_rfl
theorem e66 : Rt c66 r66 := fun F call vs h => by rw [f66, show (fun b => insl quietZ call b l66_0_0 0) = s66_0_0 F call from funext (q66_0_0 F call)]; rfl
theorem q69_0_7 : Qq l69_0_7 10 s69_0_7 := fun _ _ _ => by kernel_rfl
theorem p69_0_6 : Pp m69_0_6 9 t69_0_6 := fun _ _ _ => by kernel_rfl
theorem q69_0_6 : Qq l69_0_6 9 s69_0_6 := qs p69_0_6 q69_0_7
theorem p69_0_5 : Pp m69_0_5 8 t69_0_5 := fun _ _ _ => by kernel_rfl
theorem q69_0_5 : Qq l69_0_5 8 s69_0_5 := qs p69_0_5 q69_0_6
theorem p69_0_4 : Pp m69_0_4 7 t69_0_4 := fun _ _ _ => by kernel_rfl
theorem q69_0_4 : Qq l69_0_4 7 s69_0_4 := qs p69_0_4 q69_0_5
theorem p69_0_3 : Pp m69_0_3 6 t69_0_3 := fun _ _ _ => by kernel_rfl
theorem q69_0_3 : Qq l69_0_3 6 s69_0_3 := qs p69_0_3 q69_0_4
theorem p69_0_2 : Pp m69_0_2 5 t69_0_2 := fun _ _ _ => by kernel_rfl
theorem q69_0_2 : Qq l69_0_2 5 s69_0_2 := qs p69_0_2 q69_0_3
theorem p69_0_1 : Pp m69_0_1 4 t69_0_1 := fun _ _ _ => by kernel_rfl
theorem q69_0_1 : Qq l69_0_1 4 s69_0_1 := qs p69_0_1 q69_0_2
theorem p69_0_0 : Pp m69_0_0 0 t69_0_0 := fun _ _ _ => by kernel_rfl
theorem q69_0_0 : Qq l69_0_0 0 s69_0_0 := qs p69_0_0 q69_0_1
theorem f69 (F : Nat) (call : Cl) (vs : List V) (h : H) : runFn quietZ call F c69 vs h = g69 (fun b => insl quietZ call b l69_0_0 0) F call vs h := by kernel_rfl
theorem e69 : Rt c69 r69 := fun F call vs h => by rw [f69, show (fun b => insl quietZ call b l69_0_0 0) = s69_0_0 F call from funext (q69_0_0 F call)]; rfl
theorem q75_0_9 : Qq l75_0_9 13 s75_0_9 := fun _ _ _ => by kernel_rfl
theorem p75_0_8 : Pp m75_0_8 12 t75_0_8 := fun _ _ _ => by kernel_rfl
theorem q75_0_8 : Qq l75_0_8 12 s75_0_8 := qs p75_0_8 q75_0_9
theorem p75_0_7 : Pp m75_0_7 11 t75_0_7 := fun _ _ _ => by kernel_rfl
theorem q75_0_7 : Qq l75_0_7 11 s75_0_7 := qs p75_0_7 q75_0_8
theorem p75_0_6 : Pp m75_0_6 10 t75_0_6 := fun _ _ _ => by kernel_rfl
theorem q75_0_6 : Qq l75_0_6 10 s75_0_6 := qs p75_0_6 q75_0_7
theorem p75_0_5 : Pp m75_0_5 9 t75_0_5 := fun _ _ _ => by kernel_rfl
theorem q75_0_5 : Qq l75_0_5 9 s75_0_5 := qs p75_0_5 q75_0_6
theorem p75_0_4 : Pp m75_0_4 8 t75_0_4 := fun _ _ _ => by kernel_rfl
theorem q75_0_4 : Qq l75_0_4 8 s75_0_4 := qs p75_0_4 q75_0_5
theorem p75_0_3 : Pp m75_0_3 7 t75_0_3 := fun _ _ _ => by kernel_rfl
theorem q75_0_3 : Qq l75_0_3 7 s75_0_3 := qs p75_0_3 q75_0_4
theorem p75_0_2 : Pp m75_0_2 6 t75_0_2 := fun _ _ _ => by kernel_rfl
theorem q75_0_2 : Qq l75_0_2 6 s75_0_2 := qs p75_0_2 q75_0_3
theorem p75_0_1 : Pp m75_0_1 5 t75_0_1 := fun _ _ _ => by kernel_rfl
theorem q75_0_1 : Qq l75_0_1 5 s75_0_1 := qs p75_0_1 q75_0_2
theorem p75_0_0 : Pp m75_0_0 0 t75_0_0 := fun _ _ _ => by kernel_rfl
theorem q75_0_0 : Qq l75_0_0 0 s75_0_0 := qs p75_0_0 q75_0_1
theorem f75 (F : Nat) (call : Cl) (vs : List V) (h : H) : runFn quietZ call F c75 vs h = g75 (fun b => insl quietZ call b l75_0_0 0) F call vs h := by kernel_rfl
theorem e75 : Rt c75 r75 := fun F call vs h => by rw [f75, show (fun b => insl quietZ call b l75_0_0 0) = s75_0_0 F call from funext (q75_0_0 F call)]; rfl
theorem q79_0_7 : Qq l79_0_7 12 s79_0_7 := fun _ _ _ => by kernel_rfl
theorem p79_0_6 : Pp m79_0_6 11 t79_0_6 := fun _ _ _ => by kernel_rfl
theorem q79_0_6 : Qq l79_0_6 11 s79_0_6 := qs p79_0_6 q79_0_7
theorem p79_0_5 : Pp m79_0_5 10 t79_0_5 := fun _ _ _ => by kernel_rfl
theorem q79_0_5 : Qq l79_0_5 10 s79_0_5 := qs p79_0_5 q79_0_6
theorem p79_0_4 : Pp m79_0_4 9 t79_0_4 := fun _ _ _ => by kernel_rfl
theorem q79_0_4 : Qq l79_0_4 9 s79_0_4 := qs p79_0_4 q79_0_5
theorem p79_0_3 : Pp m79_0_3 8 t79_0_3 := fun _ _ _ => by kernel_rfl
theorem q79_0_3 : Qq l79_0_3 8 s79_0_3 := qs p79_0_3 q79_0_4
theorem p79_0_2 : Pp m79_0_2 7 t79_0_2 := fun _ _ _ => by kernel_rfl
theorem q79_0_2 : Qq l79_0_2 7 s79_0_2 := qs p79_0_2 q79_0_3
theorem p79_0_1 : Pp m79_0_1 6 t79_0_1 := fun _ _ _ => by kernel_rfl
theorem q79_0_1 : Qq l79_0_1 6 s79_0_1 := qs p79_0_1 q79_0_2
theorem p79_0_0 : Pp m79_0_0 0 t79_0_0 := fun _ _ _ => by kernel_rfl
theorem q79_0_0 : Qq l79_0_0 0 s79_0_0 := qs p79_0_0 q79_0_1
theorem q79_1_7 : Qq l79_1_7 12 s79_1_7 := fun _ _ _ => by kernel_rfl
theorem p79_1_6 : Pp m79_1_6 11 t79_1_6 := fun _ _ _ => by kernel_rfl
theorem q79_1_6 : Qq l79_1_6 11 s79_1_6 := qs p79_1_6 q79_1_7
theorem p79_1_5 : Pp m79_1_5 10 t79_1_5 := fun _ _ _ => by kernel_rfl
theorem q79_1_5 : Qq l79_1_5 10 s79_1_5 := qs p79_1_5 q79_1_6
theorem p79_1_4 : Pp m79_1_4 9 t79_1_4 := fun _ _ _ => by kernel_rfl
theorem q79_1_4 : Qq l79_1_4 9 s79_1_4 := qs p79_1_4 q79_1_5
theorem p79_1_3 : Pp m79_1_3 8 t79_1_3 := fun _ _ _ => by kernel_rfl
theorem q79_1_3 : Qq l79_1_3 8 s79_1_3 := qs p79_1_3 q79_1_4
theorem p79_1_2 : Pp m79_1_2 7 t79_1_2 := fun _ _ _ => by kernel_rfl
theorem q79_1_2 : Qq l79_1_2 7 s79_1_2 := qs p79_1_2 q79_1_3
theorem p79_1_1 : Pp m79_1_1 6 t79_1_1 := fun _ _ _ => by kernel_rfl
theorem q79_1_1 : Qq l79_1_1 6 s79_1_1 := qs p79_1_1 q79_1_2
theorem p79_1_0 : Pp m79_1_0 0 t79_1_0 := fun _ _ _ => by kernel_rfl
theorem q79_1_0 : Qq l79_1_0 0 s79_1_0 := qs p79_1_0 q79_1_1
theorem f79 (F : Nat) (call : Cl) (vs : List V) (h : H) : runFn quietZ call F c79 vs h = g79 (fun b => insl quietZ call b l79_0_0 0) (fun b => insl quietZ call b l79_1_0 0) F call vs h := by kernel_rfl
theorem e79 : Rt c79 r79 := fun F call vs h => by rw [f79, show (fun b => insl quietZ call b l79_0_0 0) = s79_0_0 F call from funext (q79_0_0 F call), show (fun b => insl quietZ call b l79_1_0 0) = s79_1_0 F call from funext (q79_1_0 F call)]; rfl
theorem q83_0_7 : Qq l83_0_7 17 s83_0_7 := fun _ _ _ => by kernel_rfl
theorem p83_0_6 : Pp m83_0_6 16 t83_0_6 := fun _ _ _ => by kernel_rfl
theorem q83_0_6 : Qq l83_0_6 16 s83_0_6 := qs p83_0_6 q83_0_7
theorem p83_0_5 : Pp m83_0_5 15 t83_0_5 := fun _ _ _ => by kernel_rfl
theorem q83_0_5 : Qq l83_0_5 15 s83_0_5 := qs p83_0_5 q83_0_6
theorem p83_0_4 : Pp m83_0_4 14 t83_0_4 := fun _ _ _ => by kernel_rfl
theorem q83_0_4 : Qq l83_0_4 14 s83_0_4 := qs p83_0_4 q83_0_5
theorem p83_0_3 : Pp m83_0_3 13 t83_0_3 := fun _ _ _ => by kernel_rfl
theorem q83_0_3 : Qq l83_0_3 13 s83_0_3 := qs p83_0_3 q83_0_4
theorem p83_0_2 : Pp m83_0_2 12 t83_0_2 := fun _ _ _ => by kernel_rfl
theorem q83_0_2 : Qq l83_0_2 12 s83_0_2 := qs p83_0_2 q83_0_3
theorem p83_0_1 : Pp m83_0_1 11 t83_0_1 := fun _ _ _ => by kernel_rfl
theorem q83_0_1 : Qq l83_0_1 11 s83_0_1 := qs p83_0_1 q83_0_2
theorem p83_0_0 : Pp m83_0_0 0 t83_0_0 := fun _ _ _ => by kernel_rfl
theorem q83_0_0 : Qq l83_0_0 0 s83_0_0 := qs p83_0_0 q83_0_1
theorem f83 (F : Nat) (call : Cl) (vs : List V) (h : H) : runFn quietZ call F c83 vs h = g83 (fun b => insl quietZ call b l83_0_0 0) F call vs h := by kernel_rfl
theorem e83 : Rt c83 r83 := fun F call vs h => by rw [f83, show (fun b => insl quietZ call b l83_0_0 0) = s83_0_0 F call from funext (q83_0_0 F call)]; rfl
theorem q84_0_30 : Qq l84_0_30 43 s84_0_30 := fun _ _ _ => by kernel_rfl
theorem p84_0_29 : Pp m84_0_29 42 t84_0_29 := fun _ _ _ => by kernel_rfl
theorem q84_0_29 : Qq l84_0_29 42 s84_0_29 := qs p84_0_29 q84_0_30
theorem p84_0_28 : Pp m84_0_28 41 t84_0_28 := fun _ _ _ => by kernel_rfl
theorem q84_0_28 : Qq l84_0_28 41 s84_0_28 := qs p84_0_28 q84_0_29
theorem p84_0_27 : Pp m84_0_27 40 t84_0_27 := fun _ _ _ => by kernel_rfl
theorem q84_0_27 : Qq l84_0_27 40 s84_0_27 := qs p84_0_27 q84_0_28
theorem p84_0_26 : Pp m84_0_26 39 t84_0_26 := fun _ _ _ => by kernel_rfl
theorem q84_0_26 : Qq l84_0_26 39 s84_0_26 := qs p84_0_26 q84_0_27
theorem p84_0_25 : Pp m84_0_25 36 t84_0_25 := fun _ _ _ => by kernel_rfl
theorem q84_0_25 : Qq l84_0_25 36 s84_0_25 := qs p84_0_25 q84_0_26
theorem p84_0_24 : Pp m84_0_24 35 t84_0_24 := fun _ _ _ => by kernel_rfl
theorem q84_0_24 : Qq l84_0_24 35 s84_0_24 := qs p84_0_24 q84_0_25
theorem p84_0_23 : Pp m84_0_23 34 t84_0_23 := fun _ _ _ => by kernel_rfl
theorem q84_0_23 : Qq l84_0_23 34 s84_0_23 := qs p84_0_23 q84_0_24
theorem p84_0_22 : Pp m84_0_22 33 t84_0_22 := fun _ _ _ => by kernel_rfl
theorem q84_0_22 : Qq l84_0_22 33 s84_0_22 := qs p84_0_22 q84_0_23
theorem p84_0_21 : Pp m84_0_21 32 t84_0_21 := fun _ _ _ => by kernel_rfl
theorem q84_0_21 : Qq l84_0_21 32 s84_0_21 := qs p84_0_21 q84_0_22
theorem p84_0_20 : Pp m84_0_20 29 t84_0_20 := fun _ _ _ => by kernel_rfl
theorem q84_0_20 : Qq l84_0_20 29 s84_0_20 := qs p84_0_20 q84_0_21
theorem p84_0_19 : Pp m84_0_19 28 t84_0_19 := fun _ _ _ => by kernel_rfl
theorem q84_0_19 : Qq l84_0_19 28 s84_0_19 := qs p84_0_19 q84_0_20
theorem p84_0_18 : Pp m84_0_18 27 t84_0_18 := fun _ _ _ => by kernel_rfl
theorem q84_0_18 : Qq l84_0_18 27 s84_0_18 := qs p84_0_18 q84_0_19
theorem p84_0_17 : Pp m84_0_17 26 t84_0_17 := fun _ _ _ => by kernel_rfl
theorem q84_0_17 : Qq l84_0_17 26 s84_0_17 := qs p84_0_17 q84_0_18
theorem p84_0_16 : Pp m84_0_16 25 t84_0_16 := fun _ _ _ => by kernel_rfl
theorem q84_0_16 : Qq l84_0_16 25 s84_0_16 := qs p84_0_16 q84_0_17
theorem p84_0_15 : Pp m84_0_15 22 t84_0_15 := fun _ _ _ => by kernel_rfl
theorem q84_0_15 : Qq l84_0_15 22 s84_0_15 := qs p84_0_15 q84_0_16
theorem p84_0_14 : Pp m84_0_14 21 t84_0_14 := fun _ _ _ => by kernel_rfl
theorem q84_0_14 : Qq l84_0_14 21 s84_0_14 := qs p84_0_14 q84_0_15
theorem p84_0_13 : Pp m84_0_13 20 t84_0_13 := fun _ _ _ => by kernel_rfl
theorem q84_0_13 : Qq l84_0_13 20 s84_0_13 := qs p84_0_13 q84_0_14
theorem p84_0_12 : Pp m84_0_12 19 t84_0_12 := fun _ _ _ => by kernel_rfl
theorem q84_0_12 : Qq l84_0_12 19 s84_0_12 := qs p84_0_12 q84_0_13
theorem p84_0_11 : Pp m84_0_11 18 t84_0_11 := fun _ _ _ => by kernel_rfl
theorem q84_0_11 : Qq l84_0_11 18 s84_0_11 := qs p84_0_11 q84_0_12
theorem p84_0_10 : Pp m84_0_10 15 t84_0_10 := fun _ _ _ => by kernel_rfl
theorem q84_0_10 : Qq l84_0_10 15 s84_0_10 := qs p84_0_10 q84_0_11
theorem p84_0_9 : Pp m84_0_9 14 t84_0_9 := fun _ _ _ => by kernel_rfl
theorem q84_0_9 : Qq l84_0_9 14 s84_0_9 := qs p84_0_9 q84_0_10
theorem p84_0_8 : Pp m84_0_8 13 t84_0_8 := fun _ _ _ => by kernel_rfl
theorem q84_0_8 : Qq l84_0_8 13 s84_0_8 := qs p84_0_8 q84_0_9
theorem p84_0_7 : Pp m84_0_7 12 t84_0_7 := fun _ _ _ => by kernel_rfl
theorem q84_0_7 : Qq l84_0_7 12 s84_0_7 := qs p84_0_7 q84_0_8
theorem p84_0_6 : Pp m84_0_6 11 t84_0_6 := fun _ _ _ => by kernel_rfl
theorem q84_0_6 : Qq l84_0_6 11 s84_0_6 := qs p84_0_6 q84_0_7
theorem p84_0_5 : Pp m84_0_5 8 t84_0_5 := fun _ _ _ => by kernel_rfl
theorem q84_0_5 : Qq l84_0_5 8 s84_0_5 := qs p84_0_5 q84_0_6
theorem p84_0_4 : Pp m84_0_4 7 t84_0_4 := fun _ _ _ => by kernel_rfl
theorem q84_0_4 : Qq l84_0_4 7 s84_0_4 := qs p84_0_4 q84_0_5
theorem p84_0_3 : Pp m84_0_3 6 t84_0_3 := fun _ _ _ => by kernel_rfl
theorem q84_0_3 : Qq l84_0_3 6 s84_0_3 := qs p84_0_3 q84_0_4
theorem p84_0_2 : Pp m84_0_2 5 t84_0_2 := fun _ _ _ => by kernel_rfl
theorem q84_0_2 : Qq l84_0_2 5 s84_0_2 := qs p84_0_2 q84_0_3
theorem p84_0_1 : Pp m84_0_1 4 t84_0_1 := fun _ _ _ => by kernel_rfl
theorem q84_0_1 : Qq l84_0_1 4 s84_0_1 := qs p84_0_1 q84_0_2
theorem p84_0_0 : Pp m84_0_0 0 t84_0_0 := fun _ _ _ => by kernel_rfl
theorem q84_0_0 : Qq l84_0_0 0 s84_0_0 := qs p84_0_0 q84_0_1
theorem f84 (F : Nat) (call : Cl) (vs : List V) (h : H) : runFn quietZ call F c84 vs h = g84 (fun b => insl quietZ call b l84_0_0 0) F call vs h := by kernel_rfl
theorem e84 : Rt c84 r84 := fun F call vs h => by rw [f84, show (fun b => insl quietZ call b l84_0_0 0) = s84_0_0 F call from funext (q84_0_0 F call)]; rfl
theorem q111_0_12 : Qq l111_0_12 15 s111_0_12 := fun _ _ _ => by kernel_rfl
theorem p111_0_11 : Pp m111_0_11 14 t111_0_11 := fun _ _ _ => by kernel_rfl
theorem q111_0_11 : Qq l111_0_11 14 s111_0_11 := qs p111_0_11 q111_0_12
theorem p111_0_10 : Pp m111_0_10 13 t111_0_10 := fun _ _ _ => by kernel_rfl
theorem q111_0_10 : Qq l111_0_10 13 s111_0_10 := qs p111_0_10 q111_0_11
theorem p111_0_9 : Pp m111_0_9 12 t111_0_9 := fun _ _ _ => by kernel_rfl
theorem q111_0_9 : Qq l111_0_9 12 s111_0_9 := qs p111_0_9 q111_0_10
theorem p111_0_8 : Pp m111_0_8 11 t111_0_8 := fun _ _ _ => by kernel_rfl
theorem q111_0_8 : Qq l111_0_8 11 s111_0_8 := qs p111_0_8 q111_0_9
theorem p111_0_7 : Pp m111_0_7 10 t111_0_7 := fun _ _ _ => by kernel_rfl
theorem q111_0_7 : Qq l111_0_7 10 s111_0_7 := qs p111_0_7 q111_0_8
theorem p111_0_6 : Pp m111_0_6 9 t111_0_6 := fun _ _ _ => by kernel_rfl
theorem q111_0_6 : Qq l111_0_6 9 s111_0_6 := qs p111_0_6 q111_0_7
theorem p111_0_5 : Pp m111_0_5 8 t111_0_5 := fun _ _ _ => by kernel_rfl
theorem q111_0_5 : Qq l111_0_5 8 s111_0_5 := qs p111_0_5 q111_0_6
theorem p111_0_4 : Pp m111_0_4 7 t111_0_4 := fun _ _ _ => by kernel_rfl
theorem q111_0_4 : Qq l111_0_4 7 s111_0_4 := qs p111_0_4 q111_0_5
theorem p111_0_3 : Pp m111_0_3 6 t111_0_3 := fun _ _ _ => by kernel_rfl
theorem q111_0_3 : Qq l111_0_3 6 s111_0_3 := qs p111_0_3 q111_0_4
theorem p111_0_2 : Pp m111_0_2 5 t111_0_2 := fun _ _ _ => by kernel_rfl
theorem q111_0_2 : Qq l111_0_2 5 s111_0_2 := qs p111_0_2 q111_0_3
theorem p111_0_1 : Pp m111_0_1 4 t111_0_1 := fun _ _ _ => by kernel_rfl
theorem q111_0_1 : Qq l111_0_1 4 s111_0_1 := qs p111_0_1 q111_0_2
theorem p111_0_0 : Pp m111_0_0 0 t111_0_0 := fun _ _ _ => by kernel_rfl
theorem q111_0_0 : Qq l111_0_0 0 s111_0_0 := qs p111_0_0 q111_0_1
theorem f111 (F : Nat) (call : Cl) (vs : List V) (h : H) : runFn quietZ call F c111 vs h = g111 (fun b => insl quietZ call b l111_0_0 0) F call vs h := by kernel_rfl
theorem e111 : Rt c111 r111 := fun F call vs h => by rw [f111, show (fun b => insl quietZ call b l111_0_0 0) = s111_0_0 F call from funext (q111_0_0 F call)]; rfl
theorem q126_0_7 : Qq l126_0_7 10 s126_0_7 := fun _ _ _ => by kernel_rfl
theorem p126_0_6 : Pp m126_0_6 9 t126_0_6 := fun _ _ _ => by kernel_rfl
theorem q126_0_6 : Qq l126_0_6 9 s126_0_6 := qs p126_0_6 q126_0_7
theorem p126_0_5 : Pp m126_0_5 8 t126_0_5 := fun _ _ _ => by kernel_rfl
theorem q126_0_5 : Qq l126_0_5 8 s126_0_5 := qs p126_0_5 q126_0_6
theorem p126_0_4 : Pp m126_0_4 7 t126_0_4 := fun _ _ _ => by kernel_rfl
theorem q126_0_4 : Qq l126_0_4 7 s126_0_4 := qs p126_0_4 q126_0_5
theorem p126_0_3 : Pp m126_0_3 6 t126_0_3 := fun _ _ _ => by kernel_rfl
theorem q126_0_3 : Qq l126_0_3 6 s126_0_3 := qs p126_0_3 q126_0_4
theorem p126_0_2 : Pp m126_0_2 5 t126_0_2 := fun _ _ _ => by kernel_rfl
theorem q126_0_2 : Qq l126_0_2 5 s126_0_2 := qs p126_0_2 q126_0_3
theorem p126_0_1 : Pp m126_0_1 4 t126_0_1 := fun _ _ _ => by kernel_rfl
theorem q126_0_1 : Qq l126_0_1 4 s126_0_1 := qs p126_0_1 q126_0_2
theorem p126_0_0 : Pp m126_0_0 0 t126_0_0 := fun _ _ _ => by kernel_rfl
theorem q126_0_0 : Qq l126_0_0 0 s126_0_0 := qs p126_0_0 q126_0_1
theorem f126 (F : Nat) (call : Cl) (vs : List V) (h : H) : runFn quietZ call F c126 vs h = g126 (fun b => insl quietZ call b l126_0_0 0) F call vs h := by kernel_rfl
theorem e126 : Rt c126 r126 := fun F call vs h => by rw [f126, show (fun b => insl quietZ call b l126_0_0 0) = s126_0_0 F call from funext (q126_0_0 F call)]; rfl
theorem q133_0_12 : Qq l133_0_12 15 s133_0_12 := fun _ _ _ => by kernel_rfl
theorem p133_0_11 : Pp m133_0_11 14 t133_0_11 := fun _ _ _ => by kernel_rfl
theorem q133_0_11 : Qq l133_0_11 14 s133_0_11 := qs p133_0_11 q133_0_12
theorem p133_0_10 : Pp m133_0_10 13 t133_0_10 := fun _ _ _ => by kernel_rfl
theorem q133_0_10 : Qq l133_0_10 13 s133_0_10 := qs p133_0_10 q133_0_11
theorem p133_0_9 : Pp m133_0_9 12 t133_0_9 := fun _ _ _ => by kernel_rfl
theorem q133_0_9 : Qq l133_0_9 12 s133_0_9 := qs p133_0_9 q133_0_10
theorem p133_0_8 : Pp m133_0_8 11 t133_0_8 := fun _ _ _ => by kernel_rfl
theorem q133_0_8 : Qq l133_0_8 11 s133_0_8 := qs p133_0_8 q133_0_9
theorem p133_0_7 : Pp m133_0_7 10 t133_0_7 := fun _ _ _ => by kernel_rfl
theorem q133_0_7 : Qq l133_0_7 10 s133_0_7 := qs p133_0_7 q133_0_8
theorem p133_0_6 : Pp m133_0_6 9 t133_0_6 := fun _ _ _ => by kernel_rfl
theorem q133_0_6 : Qq l133_0_6 9 s133_0_6 := qs p133_0_6 q133_0_7
theorem p133_0_5 : Pp m133_0_5 8 t133_0_5 := fun _ _ _ => by kernel_rfl
theorem q133_0_5 : Qq l133_0_5 8 s133_0_5 := qs p133_0_5 q133_0_6
theorem p133_0_4 : Pp m133_0_4 7 t133_0_4 := fun _ _ _ => by kernel_rfl
theorem q133_0_4 : Qq l133_0_4 7 s133_0_4 := qs p133_0_4 q133_0_5
theorem p133_0_3 : Pp m133_0_3 6 t133_0_3 := fun _ _ _ => by kernel_rfl
theorem q133_0_3 : Qq l133_0_3 6 s133_0_3 := qs p133_0_3 q133_0_4
theorem p133_0_2 : Pp m133_0_2 5 t133_0_2 := fun _ _ _ => by kernel_rfl
theorem q133_0_2 : Qq l133_0_2 5 s133_0_2 := qs p133_0_2 q133_0_3
theorem p133_0_1 : Pp m133_0_1 4 t133_0_1 := fun _ _ _ => by kernel_rfl
theorem q133_0_1 : Qq l133_0_1 4 s133_0_1 := qs p133_0_1 q133_0_2
theorem p133_0_0 : Pp m133_0_0 0 t133_0_0 := fun _ _ _ => by kernel_rfl
theorem q133_0_0 : Qq l133_0_0 0 s133_0_0 := qs p133_0_0 q133_0_1
theorem f133 (F : Nat) (call : Cl) (vs : List V) (h : H) : runFn quietZ call F c133 vs h = g133 (fun b => insl quietZ call b l133_0_0 0) F call vs h := by kernel_rfl
theorem e133 : Rt c133 r133 := fun F call vs h => by rw [f133, show (fun b => insl quietZ call b l133_0_0 0) = s133_0_0 F call from funext (q133_0_0 F call)]; rfl
theorem q178_0_8 : Qq l178_0_8 13 s178_0_8 := fun _ _ _ => by kernel_rfl
theorem p178_0_7 : Pp m178_0_7 12 t178_0_7 := fun _ _ _ => by kernel_rfl
theorem q178_0_7 : Qq l178_0_7 12 s178_0_7 := qs p178_0_7 q178_0_8
theorem p178_0_6 : Pp m178_0_6 11 t178_0_6 := fun _ _ _ => by kernel_rfl
theorem q178_0_6 : Qq l178_0_6 11 s178_0_6 := qs p178_0_6 q178_0_7
theorem p178_0_5 : Pp m178_0_5 10 t178_0_5 := fun _ _ _ => by kernel_rfl
theorem q178_0_5 : Qq l178_0_5 10 s178_0_5 := qs p178_0_5 q178_0_6
theorem p178_0_4 : Pp m178_0_4 9 t178_0_4 := fun _ _ _ => by kernel_rfl
theorem q178_0_4 : Qq l178_0_4 9 s178_0_4 := qs p178_0_4 q178_0_5
theorem p178_0_3 : Pp m178_0_3 8 t178_0_3 := fun _ _ _ => by kernel_rfl
theorem q178_0_3 : Qq l178_0_3 8 s178_0_3 := qs p178_0_3 q178_0_4
theorem p178_0_2 : Pp m178_0_2 5 t178_0_2 := fun _ _ _ => by kernel_rfl
theorem q178_0_2 : Qq l178_0_2 5 s178_0_2 := qs p178_0_2 q178_0_3
theorem p178_0_1 : Pp m178_0_1 4 t178_0_1 := fun _ _ _ => by kernel_rfl
theorem q178_0_1 : Qq l178_0_1 4 s178_0_1 := qs p178_0_1 q178_0_2
theorem p178_0_0 : Pp m178_0_0 0 t178_0_0 := fun _ _ _ => by kernel_rfl
theorem q178_0_0 : Qq l178_0_0 0 s178_0_0 := qs p178_0_0 q178_0_1
theorem f178 (F : Nat) (call : Cl) (vs : List V) (h : H) : runFn quietZ call F c178 vs h = g178 (fun b => insl quietZ call b l178_0_0 0) F call vs h := by kernel_rfl
theorem e178 : Rt c178 r178 := fun F call vs h => by rw [f178, show (fun b => insl quietZ call b l178_0_0 0) = s178_0_0 F call from funext (q178_0_0 F call)]; rfl
theorem q184_0_8 : Qq l184_0_8 12 s184_0_8 := fun _ _ _ => by kernel_rfl
theorem p184_0_7 : Pp m184_0_7 11 t184_0_7 := fun _ _ _ => by kernel_rfl
theorem q184_0_7 : Qq l184_0_7 11 s184_0_7 := qs p184_0_7 q184_0_8
theorem p184_0_6 : Pp m184_0_6 10 t184_0_6 := fun _ _ _ => by kernel_rfl
theorem q184_0_6 : Qq l184_0_6 10 s184_0_6 := qs p184_0_6 q184_0_7
theorem p184_0_5 : Pp m184_0_5 9 t184_0_5 := fun _ _ _ => by kernel_rfl
theorem q184_0_5 : Qq l184_0_5 9 s184_0_5 := qs p184_0_5 q184_0_6
theorem p184_0_4 : Pp m184_0_4 8 t184_0_4 := fun _ _ _ => by kernel_rfl
theorem q184_0_4 : Qq l184_0_4 8 s184_0_4 := qs p184_0_4 q184_0_5
theorem p184_0_3 : Pp m184_0_3 7 t184_0_3 := fun _ _ _ => by kernel_rfl
theorem q184_0_3 : Qq l184_0_3 7 s184_0_3 := qs p184_0_3 q184_0_4
theorem p184_0_2 : Pp m184_0_2 6 t184_0_2 := fun _ _ _ => by kernel_rfl
theorem q184_0_2 : Qq l184_0_2 6 s184_0_2 := qs p184_0_2 q184_0_3
theorem p184_0_1 : Pp m184_0_1 5 t184_0_1 := fun _ _ _ => by kernel_rfl
theorem q184_0_1 : Qq l184_0_1 5 s184_0_1 := qs p184_0_1 q184_0_2
theorem p184_0_0 : Pp m184_0_0 0 t184_0_0 := fun _ _ _ => by kernel_rfl
theorem q184_0_0 : Qq l184_0_0 0 s184_0_0 := qs p184_0_0 q184_0_1
theorem f184 (F : Nat) (call : Cl) (vs : List V) (h : H) : runFn quietZ call F c184 vs h = g184 (fun b => insl quietZ call b l184_0_0 0) F call vs h := by kernel_rfl
theorem e184 : Rt c184 r184 := fun F call vs h => by rw [f184, show (fun b => insl quietZ call b l184_0_0 0) = s184_0_0 F call from funext (q184_0_0 F call)]; rfl
end Ax
end
section
set_option maxRecDepth 100000
namespace Ax
open Go Go.Proofs Go.RowKit
theorem mixedQ : Tryz.prog.follows .mixedOrders = true := by kernel_rfl
theorem namesQ : ∀ (f : Nat) (fn : Func), Tryz.prog.funcs[f]? = some fn → (fn.name == "runtime.NumGoroutine") = false := all_names (by kernel_rfl)
noncomputable def callQ : FuncId → List V → H → R1 := runP Tryz.prog (fun _ => false) (fun _ _ _ => .bad 0) 5
theorem callQ_ok : CallsOK Tryz.prog callQ := fun w0 =>
  runP_snd (fun g h => by cases h) (fun f vs h v h' e => by cases e) (draw_ok mixedQ (fun w0 f vs h v h' e => by cases e) w0) 5 namesQ
noncomputable def isF (r : R1) : Bool := R1.rec (motive := fun _ => Bool) (fun v _ => V.rec (motive_1 := fun _ => Bool) (motive_2 := fun _ => Bool) false (fun b => Bool.rec true false b) (fun _ _ => false) (fun _ _ => false) (fun _ _ => false) false (fun _ _ _ _ _ => false) false
    (fun _ => false) false (fun _ _ _ _ _ => false) false (fun _ _ _ => false) false (fun _ _ => false) (fun _ _ => false) false (fun _ _ _ _ => false) v) (fun _ => false) r
theorem isF_ok {r : R1} (h : isF r = true) : ∃ h', r = .ok (.bool false) h' := by
  cases r with
  | bad n => cases h
  | ok v h' =>
    cases v with
    | bool b => cases b with
      | false => exact ⟨h', rfl⟩
      | true => cases h
    | _ => cases h
theorem gave_run : isF (callQ 105 [.nili] ⟨0, T.mk .none hd⟩) = true := by kernel_rfl
theorem gave_ok (w : World) : Outc Tryz.prog ((callFunc 105 #[.nilIface]).run Tryz.prog w) fun v w' => v = .bool false ∧ Grows w w' := by
  obtain ⟨h', e⟩ := isF_ok gave_run
  have := bare_call callQ_ok e (args := #[.nilIface]) (by simp [VRels, VRel]) w
  have henter := run_enter (P := Tryz.prog) Tryz.func105 (by kernel_rfl) rfl #[.nilIface] w
  rw [henter] at this ⊢
  refine Calls.mono this fun e w' he => ?_
  cases e with
  | returned v =>
    obtain ⟨φ', h1, h2, _⟩ := he
    simp only [VRel] at h1
    exact ⟨h1, h2⟩
  | _ => exact he
theorem quiet_all (g : Nat) (h : quietZ g = true) : Quiet Tryz.prog g := by
  have henter : ∀ args w, (callFunc 105 args).run Tryz.prog w = .ok (.enter 105 args) w := fun args w => run_enter (P := Tryz.prog) Tryz.func105 (by kernel_rfl) rfl args w
  unfold quietZ at h
  cases h1 : Nat.beq g 104 with
  | true =>
    have := Nat.eq_of_beq_eq_true h1
    subst this
    exact quiet_shape Tryz.func104 (by kernel_rfl) rfl rfl rfl henter gave_ok
  | false =>
    rw [h1] at h
    cases h2 : Nat.beq g 110 with
    | true =>
      have := Nat.eq_of_beq_eq_true h2
      subst this
      exact quiet_shape Tryz.func110 (by kernel_rfl) rfl rfl rfl henter gave_ok
    | false =>
      rw [h2] at h
      have := Nat.eq_of_beq_eq_true h
      subst this
      exact quiet_shape Tryz.func180 (by kernel_rfl) rfl rfl rfl henter gave_ok
end Ax
end
section
set_option maxRecDepth 100000
namespace Go.Proofs
open Go.Shelf
def Tryz.laysRepeat_ren : Go.Shelf.Ren := ⟨fun | 105 => 103 | 212 => 163 | 99 => 164 | 165 => 165 | 166 => 101 | 170 => 166 | 169 => 102 | 263 => 201 | 264 => 202 | 206 => 203 | 240 => 162 | 241 => 204 | 276 => 200 | 277 => 219 | n => n, fun | 9 => 9 | 3 => 3 | 4 => 4 | 20 => 20 | 0 => 0 | 46 => 94 | 109 => 244 | 5 => 5 | 72 => 176 | 76 => 183 | 51 => 167 | 146 => 296 | 53 => 169 | 148 => 298 | 70 => 173 | 37 => 174 | 75 => 178 | 127 => 243 | 164 => 283 | 80 => 123 | n => n, fun | n => n⟩
theorem Tryz.laysRepeat : Go.Proofs.Lays.n105 Tryz.prog Tryz.laysRepeat_ren where
  mixed := by kernel_rfl
  f99 := Tryz.func164.trans (congrArg some (by kernel_rfl))
  f105 := Tryz.func103.trans (congrArg some (by kernel_rfl))
  f165 := Tryz.func165.trans (congrArg some (by kernel_rfl))
  f166 := Tryz.func101.trans (congrArg some (by kernel_rfl))
  f169 := Tryz.func102.trans (congrArg some (by kernel_rfl))
  f170 := Tryz.func166.trans (congrArg some (by kernel_rfl))
  f206 := Tryz.func203.trans (congrArg some (by kernel_rfl))
  f212 := Tryz.func163.trans (congrArg some (by kernel_rfl))
  f240 := Tryz.func162.trans (congrArg some (by kernel_rfl))
  f241 := Tryz.func204.trans (congrArg some (by kernel_rfl))
  f263 := Tryz.func201.trans (congrArg some (by kernel_rfl))
  f264 := Tryz.func202.trans (congrArg some (by kernel_rfl))
  f276 := Tryz.func200.trans (congrArg some (by kernel_rfl))
  f277 := Tryz.func219.trans (congrArg some (by kernel_rfl))
  t0 := Tryz.underlying0
  a0 := Tryz.isAgg0
  z0 := Tryz.sizeOf0
  v0 := Tryz.zeroValue0
  t3 := Tryz.underlying3
  a3 := Tryz.isAgg3
  z3 := Tryz.sizeOf3
  v3 := Tryz.zeroValue3
  t4 := Tryz.underlying4
  a4 := Tryz.isAgg4
  z4 := Tryz.sizeOf4
  v4 := Tryz.zeroValue4
  t5 := Tryz.underlying5
  a5 := Tryz.isAgg5
  z5 := Tryz.sizeOf5
  v5 := Tryz.zeroValue5
  t9 := Tryz.underlying9
  a9 := Tryz.isAgg9
  z9 := Tryz.sizeOf9
  v9 := Tryz.zeroValue9
  t20 := Tryz.underlying20
  a20 := Tryz.isAgg20
  z20 := Tryz.sizeOf20
  v20 := Tryz.zeroValue20
  t37 := Tryz.underlying174
  a37 := Tryz.isAgg174
  z37 := Tryz.sizeOf174
  v37 := Tryz.zeroValue174
  t46 := Tryz.underlying94
  a46 := Tryz.isAgg94
  z46 := Tryz.sizeOf94
  v46 := Tryz.zeroValue94
  t51 := Tryz.underlying167
  a51 := Tryz.isAgg167
  z51 := Tryz.sizeOf167
  v51 := Tryz.zeroValue167
  t53 := Tryz.underlying169
  a53 := Tryz.isAgg169
  z53 := Tryz.sizeOf169
  v53 := Tryz.zeroValue169
  t70 := Tryz.underlying173
  a70 := Tryz.isAgg173
  z70 := Tryz.sizeOf173
  v70 := Tryz.zeroValue173
  t72 := Tryz.underlying176
  a72 := Tryz.isAgg176
  z72 := Tryz.sizeOf176
  v72 := Tryz.zeroValue176
  t75 := Tryz.underlying178
  a75 := Tryz.isAgg178
  z75 := Tryz.sizeOf178
  v75 := Tryz.zeroValue178
  t76 := Tryz.underlying183
  a76 := Tryz.isAgg183
  z76 := Tryz.sizeOf183
  v76 := Tryz.zeroValue183
  t109 := Tryz.underlying244
  a109 := Tryz.isAgg244
  z109 := Tryz.sizeOf244
  v109 := Tryz.zeroValue244
  t127 := Tryz.underlying243
  a127 := Tryz.isAgg243
  z127 := Tryz.sizeOf243
  v127 := Tryz.zeroValue243
  t146 := Tryz.underlying296
  a146 := Tryz.isAgg296
  z146 := Tryz.sizeOf296
  v146 := Tryz.zeroValue296
  t148 := Tryz.underlying298
  a148 := Tryz.isAgg298
  z148 := Tryz.sizeOf298
  v148 := Tryz.zeroValue298
  t164 := Tryz.underlying283
  a164 := Tryz.isAgg283
  z164 := Tryz.sizeOf283
  v164 := Tryz.zeroValue283
theorem Tryz.extra : Builder.Extra Tryz.prog Tryz.laysRepeat_ren where
  sizeBuilder := by kernel_rfl
  liesBuilder := by kernel_rfl
  t5 := Tryz.laysRepeat.t5
  a5 := Tryz.laysRepeat.a5
  z5 := Tryz.laysRepeat.z5
  v5 := Tryz.laysRepeat.v5
  infoByte := by kernel_rfl
  cellsByte := by kernel_rfl
  sizeByte := by kernel_rfl
  neB5 := by decide
theorem Tryz.fRepeat : Tryz.laysRepeat_ren.f 105 = 103 := by kernel_rfl
end Go.Proofs
namespace Ax
open Go Go.Proofs Go.RowKit

theorem bytesOf_zero (n : Nat) : bytesOf n 0 = List.replicate n 0 := by
  induction n with
  | zero => rfl
  | succ n ih =>
    simp only [bytesOf, List.replicate_succ]
    rw [show (0 : Nat) / 256 = 0 from rfl, ih]; rfl

theorem znat200 : EntOK Tryz.prog 200 (.run nat200) := by
  intro F call _ w0 vs h v h' e φ w args hv hr
  rcases vs with _ | ⟨x, _ | ⟨y, l⟩⟩
  · cases e
  · cases e
    simp only [VRels] at hv
    obtain ⟨y, ys, h1, h2, rfl⟩ := hv
    have ha : args = #[y] := by apply Array.toList_inj.1; rw [h1]
    subst ha
    rw [run_callFunc_extern (e := Extern.AbiNoEscape.same) Tryz.func200 (by kernel_rfl) (by kernel_rfl) (by kernel_rfl) (by kernel_rfl)]
    exact ⟨φ, Ext.refl _, fun _ _ => rfl, Nat.le_refl _, h2, hr⟩
  · cases e

theorem znat103 : EntOK Tryz.prog 103 (.run nat103) := by
  intro F call _ w0 vs h v h' e φ w args hv hr
  rcases vs with _ | ⟨s, _ | ⟨k, _ | ⟨z, l⟩⟩⟩
  · cases e
  · cases e
  · obtain ⟨n, b, rfl, e1⟩ := dStr_ok e
    obtain ⟨kd, k, rfl, e2⟩ := dInt_ok e1
    obtain ⟨g1, e3⟩ := gate_ok e2
    have hk : kd = .i64 := kno_inj (k := .i64) (Nat.eq_of_beq_eq_true g1)
    subst hk
    cases k with
    | negSucc k => cases e3
    | ofNat k =>
      obtain ⟨g2, e4⟩ := gate_ok e3
      clear e e1 e2 e3
      cases e4
      rw [band, band] at g2
      obtain ⟨g3, g4, g5⟩ := g2
      have g3 : n * k ≤ 140737488355328 := Nat.le_of_ble_eq_true g3
      have g4 : k ≤ 9223372036854775807 := Nat.le_of_ble_eq_true g4
      have g5 : b % 256 ^ n = 0 := Nat.eq_of_beq_eq_true g5
      simp only [VRels, VRel] at hv
      obtain ⟨y, ys, h1, rfl, y2, ys2, rfl, rfl, rfl⟩ := hv
      have ha : args = #[.string (strOf n b), .int .i64 (k : Int)] := by apply Array.toList_inj.1; rw [h1]; rfl
      subst ha
      rw [run_enter Tryz.func103 (by kernel_rfl) rfl]
      have hrep := Any.strings_Repeat Tryz.laysRepeat Tryz.extra (strOf n b) k w g4 (by rw [strOf_size]; exact g3)
      rw [Tryz.fRepeat] at hrep
      refine Calls.mono hrep fun e w' he => ?_
      obtain ⟨rfl, hb⟩ := he
      refine ⟨φ, Ext.refl _, fun _ _ => rfl, Nat.le_refl _, ?_, hr.grows ⟨hb.os, hb.tape, hb.output, hb.size, hb.block⟩⟩
      simp only [VRel]
      have hz : (strOf n b).data.toList = List.replicate n 0 := by
        show (bytesOf n b).toArray.toList = _
        rw [← bytesOf_mod, g5, bytesOf_zero]
      rw [hz, Lib.repeatL_replicate]
      unfold strOf
      rw [bytesOf_zero, Nat.mul_comm]; rfl
  · cases e
end Ax
end
section
set_option maxRecDepth 100000
namespace Ax
open Go Go.Proofs
theorem no0 (off s : Nat) : AllT (EntOK Tryz.prog) 0 n0 off s := trivial
theorem no1 (off s : Nat) : AllT (EntOK Tryz.prog) 1 n1 off s := ⟨no0 _ _, no0 _ _⟩
theorem no2 (off s : Nat) : AllT (EntOK Tryz.prog) 2 n2 off s := ⟨no1 _ _, no1 _ _⟩
theorem no3 (off s : Nat) : AllT (EntOK Tryz.prog) 3 n3 off s := ⟨no2 _ _, no2 _ _⟩
theorem no4 (off s : Nat) : AllT (EntOK Tryz.prog) 4 n4 off s := ⟨no3 _ _, no3 _ _⟩
theorem no5 (off s : Nat) : AllT (EntOK Tryz.prog) 5 n5 off s := ⟨no4 _ _, no4 _ _⟩
theorem no6 (off s : Nat) : AllT (EntOK Tryz.prog) 6 n6 off s := ⟨no5 _ _, no5 _ _⟩
theorem no7 (off s : Nat) : AllT (EntOK Tryz.prog) 7 n7 off s := ⟨no6 _ _, no6 _ _⟩
theorem no8 (off s : Nat) : AllT (EntOK Tryz.prog) 8 n8 off s := ⟨no7 _ _, no7 _ _⟩
noncomputable def cc (fn : Func) : Fn' := Option.rec (motive := fun _ => Fn') (.mk .stop []) (fun c => c) (compF Tryz.prog fn)
theorem ent_of {K : Nat} {fn : Func} {r : Rg} (hfn : Tryz.prog.funcs[K]? = some fn) (hs : (compF Tryz.prog fn).isSome = true) (hr : Rt (cc fn) r) : EntOK Tryz.prog K (.run r) :=
  ent_code quiet_all mixedQ namesQ hfn (c := cc fn) (by
    unfold cc
    cases h : compF Tryz.prog fn with
    | none => rw [h] at hs; cases hs
    | some c => rfl) hr
theorem zr6 : EntOK Tryz.prog 6 (.run r6) := ent_of Tryz.func6 (by kernel_rfl) fun _ _ _ _ => by kernel_rfl
theorem zr8 : EntOK Tryz.prog 8 (.run r8) := ent_code quiet_all mixedQ namesQ Tryz.func8 (c := c8) (by kernel_rfl) e8
theorem zr9 : EntOK Tryz.prog 9 (.run r9) := ent_code quiet_all mixedQ namesQ Tryz.func9 (c := c9) (by kernel_rfl) e9
theorem zr10 : EntOK Tryz.prog 10 (.run r10) := ent_of Tryz.func10 (by kernel_rfl) fun _ _ _ _ => by kernel_rfl
theorem zr11 : EntOK Tryz.prog 11 (.run r11) := ent_code quiet_all mixedQ namesQ Tryz.func11 (c := c11) (by kernel_rfl) e11
theorem zr12 : EntOK Tryz.prog 12 (.run r12) := ent_of Tryz.func12 (by kernel_rfl) fun _ _ _ _ => by kernel_rfl
theorem zr13 : EntOK Tryz.prog 13 (.run r13) := ent_of Tryz.func13 (by kernel_rfl) fun _ _ _ _ => by kernel_rfl
theorem zr14 : EntOK Tryz.prog 14 (.run r14) := ent_of Tryz.func14 (by kernel_rfl) fun _ _ _ _ => by kernel_rfl
theorem zr17 : EntOK Tryz.prog 17 (.run r17) := ent_of Tryz.func17 (by kernel_rfl) fun _ _ _ _ => by kernel_rfl
theorem zr19 : EntOK Tryz.prog 19 (.run r19) := ent_of Tryz.func19 (by kernel_rfl) fun _ _ _ _ => by kernel_rfl
theorem zr20 : EntOK Tryz.prog 20 (.run r20) := ent_of Tryz.func20 (by kernel_rfl) fun _ _ _ _ => by kernel_rfl
theorem zr21 : EntOK Tryz.prog 21 (.run r21) := ent_of Tryz.func21 (by kernel_rfl) fun _ _ _ _ => by kernel_rfl
theorem zr22 : EntOK Tryz.prog 22 (.run r22) := ent_of Tryz.func22 (by kernel_rfl) fun _ _ _ _ => by kernel_rfl
theorem zr23 : EntOK Tryz.prog 23 (.run r23) := ent_code quiet_all mixedQ namesQ Tryz.func23 (c := c23) (by kernel_rfl) e23
theorem zr24 : EntOK Tryz.prog 24 (.run r24) := ent_of Tryz.func24 (by kernel_rfl) fun _ _ _ _ => by kernel_rfl
theorem zr25 : EntOK Tryz.prog 25 (.run r25) := ent_code quiet_all mixedQ namesQ Tryz.func25 (c := c25) (by kernel_rfl) e25
theorem zr26 : EntOK Tryz.prog 26 (.run r26) := ent_of Tryz.func26 (by kernel_rfl) fun _ _ _ _ => by kernel_rfl
theorem zr27 : EntOK Tryz.prog 27 (.run r27) := ent_of Tryz.func27 (by kernel_rfl) fun _ _ _ _ => by kernel_rfl
theorem zr29 : EntOK Tryz.prog 29 (.run r29) := ent_code quiet_all mixedQ namesQ Tryz.func29 (c := c29) (by kernel_rfl) e29
theorem zr30 : EntOK Tryz.prog 30 (.run r30) := ent_of Tryz.func30 (by kernel_rfl) fun _ _ _ _ => by kernel_rfl
theorem zr31 : EntOK Tryz.prog 31 (.run r31) := ent_of Tryz.func31 (by kernel_rfl) fun _ _ _ _ => by kernel_rfl
theorem zr32 : EntOK Tryz.prog 32 (.run r32) := ent_of Tryz.func32 (by kernel_rfl) fun _ _ _ _ => by kernel_rfl
theorem zr33 : EntOK Tryz.prog 33 (.run r33) := ent_of Tryz.func33 (by kernel_rfl) fun _ _ _ _ => by kernel_rfl
theorem zr34 : EntOK Tryz.prog 34 (.run r34) := ent_of Tryz.func34 (by kernel_rfl) fun _ _ _ _ => by kernel_rfl
theorem zr35 : EntOK Tryz.prog 35 (.run r35) := ent_code quiet_all mixedQ namesQ Tryz.func35 (c := c35) (by kernel_rfl) e35
theorem zr36 : EntOK Tryz.prog 36 (.run r36) := ent_of Tryz.func36 (by kernel_rfl) fun _ _ _ _ => by kernel_rfl
theorem zr37 : EntOK Tryz.prog 37 (.run r37) := ent_of Tryz.func37 (by kernel_rfl) fun _ _ _ _ => by kernel_rfl
theorem zr38 : EntOK Tryz.prog 38 (.run r38) := ent_of Tryz.func38 (by kernel_rfl) fun _ _ _ _ => by kernel_rfl
theorem zr40 : EntOK Tryz.prog 40 (.run r40) := ent_of Tryz.func40 (by kernel_rfl) fun _ _ _ _ => by kernel_rfl
theorem zr41 : EntOK Tryz.prog 41 (.run r41) := ent_of Tryz.func41 (by kernel_rfl) fun _ _ _ _ => by kernel_rfl
theorem zr42 : EntOK Tryz.prog 42 (.run r42) := ent_of Tryz.func42 (by kernel_rfl) fun _ _ _ _ => by kernel_rfl
theorem zr43 : EntOK Tryz.prog 43 (.run r43) := ent_of Tryz.func43 (by kernel_rfl) fun _ _ _ _ => by kernel_rfl
theorem zr45 : EntOK Tryz.prog 45 (.run r45) := ent_code quiet_all mixedQ namesQ Tryz.func45 (c := c45) (by kernel_rfl) e45
theorem zr46 : EntOK Tryz.prog 46 (.run r46) := ent_code quiet_all mixedQ namesQ Tryz.func46 (c := c46) (by kernel_rfl) e46
theorem zr47 : EntOK Tryz.prog 47 (.run r47) := ent_of Tryz.func47 (by kernel_rfl) fun _ _ _ _ => by kernel_rfl
theorem zr48 : EntOK Tryz.prog 48 (.run r48) := ent_of Tryz.func48 (by kernel_rfl) fun _ _ _ _ => by kernel_rfl
theorem zr49 : EntOK Tryz.prog 49 (.run r49) := ent_of Tryz.func49 (by kernel_rfl) fun _ _ _ _ => by kernel_rfl
theorem zr50 : EntOK Tryz.prog 50 (.run r50) := ent_of Tryz.func50 (by kernel_rfl) fun _ _ _ _ => by kernel_rfl
theorem zr52 : EntOK Tryz.prog 52 (.run r52) := ent_of Tryz.func52 (by kernel_rfl) fun _ _ _ _ => by kernel_rfl
theorem zr54 : EntOK Tryz.prog 54 (.run r54) := ent_of Tryz.func54 (by kernel_rfl) fun _ _ _ _ => by kernel_rfl
theorem zr55 : EntOK Tryz.prog 55 (.run r55) := ent_of Tryz.func55 (by kernel_rfl) fun _ _ _ _ => by kernel_rfl
theorem zr56 : EntOK Tryz.prog 56 (.run r56) := ent_of Tryz.func56 (by kernel_rfl) fun _ _ _ _ => by kernel_rfl
theorem zr57 : EntOK Tryz.prog 57 (.run r57) := ent_code quiet_all mixedQ namesQ Tryz.func57 (c := c57) (by kernel_rfl) e57
theorem zr58 : EntOK Tryz.prog 58 (.run r58) := ent_of Tryz.func58 (by kernel_rfl) fun _ _ _ _ => by kernel_rfl
theorem zr59 : EntOK Tryz.prog 59 (.run r59) := ent_of Tryz.func59 (by kernel_rfl) fun _ _ _ _ => by kernel_rfl
theorem zr60 : EntOK Tryz.prog 60 (.run r60) := ent_of Tryz.func60 (by kernel_rfl) fun _ _ _ _ => by kernel_rfl
theorem zr61 : EntOK Tryz.prog 61 (.run r61) := ent_of Tryz.func61 (by kernel_rfl) fun _ _ _ _ => by kernel_rfl
theorem zr63 : EntOK Tryz.prog 63 (.run r63) := ent_of Tryz.func63 (by kernel_rfl) fun _ _ _ _ => by kernel_rfl
theorem zr64 : EntOK Tryz.prog 64 (.run r64) := ent_of Tryz.func64 (by kernel_rfl) fun _ _ _ _ => by kernel_rfl
theorem zr65 : EntOK Tryz.prog 65 (.run r65) := ent_of Tryz.func65 (by kernel_rfl) fun _ _ _ _ => by kernel_rfl
theorem zr66 : EntOK Tryz.prog 66 (.run r66) := ent_code quiet_all mixedQ namesQ Tryz.func66 (c := c66) (by kernel_rfl) e66
theorem zr67 : EntOK Tryz.prog 67 (.run r67) := ent_of Tryz.func67 (by kernel_rfl) fun _ _ _ _ => by kernel_rfl
theorem zr68 : EntOK Tryz.prog 68 (.run r68) := ent_of Tryz.func68 (by kernel_rfl) fun _ _ _ _ => by kernel_rfl
theorem zr69 : EntOK Tryz.prog 69 (.run r69) := ent_code quiet_all mixedQ namesQ Tryz.func69 (c := c69) (by kernel_rfl) e69
theorem zr70 : EntOK Tryz.prog 70 (.run r70) := ent_of Tryz.func70 (by kernel_rfl) fun _ _ _ _ => by kernel_rfl
theorem zr73 : EntOK Tryz.prog 73 (.run r73) := ent_of Tryz.func73 (by kernel_rfl) fun _ _ _ _ => by kernel_rfl
theorem zr74 : EntOK Tryz.prog 74 (.run r74) := ent_of Tryz.func74 (by kernel_rfl) fun _ _ _ _ => by kernel_rfl
theorem zr75 : EntOK Tryz.prog 75 (.run r75) := ent_code quiet_all mixedQ namesQ Tryz.func75 (c := c75) (by kernel_rfl) e75
theorem zr76 : EntOK Tryz.prog 76 (.run r76) := ent_of Tryz.func76 (by kernel_rfl) fun _ _ _ _ => by kernel_rfl
theorem zr78 : EntOK Tryz.prog 78 (.run r78) := ent_of Tryz.func78 (by kernel_rfl) fun _ _ _ _ => by kernel_rfl
theorem zr79 : EntOK Tryz.prog 79 (.run r79) := ent_code quiet_all mixedQ namesQ Tryz.func79 (c := c79) (by kernel_rfl) e79
theorem zr80 : EntOK Tryz.prog 80 (.run r80) := ent_of Tryz.func80 (by kernel_rfl) fun _ _ _ _ => by kernel_rfl
theorem zr81 : EntOK Tryz.prog 81 (.run r81) := ent_of Tryz.func81 (by kernel_rfl) fun _ _ _ _ => by kernel_rfl
theorem zr82 : EntOK Tryz.prog 82 (.run r82) := ent_of Tryz.func82 (by kernel_rfl) fun _ _ _ _ => by kernel_rfl
theorem zr83 : EntOK Tryz.prog 83 (.run r83) := ent_code quiet_all mixedQ namesQ Tryz.func83 (c := c83) (by kernel_rfl) e83
theorem zr84 : EntOK Tryz.prog 84 (.run r84) := ent_code quiet_all mixedQ namesQ Tryz.func84 (c := c84) (by kernel_rfl) e84
theorem zr85 : EntOK Tryz.prog 85 (.run r85) := ent_of Tryz.func85 (by kernel_rfl) fun _ _ _ _ => by kernel_rfl
theorem zr94 : EntOK Tryz.prog 94 (.run r94) := ent_of Tryz.func94 (by kernel_rfl) fun _ _ _ _ => by kernel_rfl
theorem zr95 : EntOK Tryz.prog 95 (.run r95) := ent_of Tryz.func95 (by kernel_rfl) fun _ _ _ _ => by kernel_rfl
theorem zr96 : EntOK Tryz.prog 96 (.run r96) := ent_of Tryz.func96 (by kernel_rfl) fun _ _ _ _ => by kernel_rfl
theorem zr97 : EntOK Tryz.prog 97 (.run r97) := ent_of Tryz.func97 (by kernel_rfl) fun _ _ _ _ => by kernel_rfl
theorem zr98 : EntOK Tryz.prog 98 (.run r98) := ent_of Tryz.func98 (by kernel_rfl) fun _ _ _ _ => by kernel_rfl
theorem zr99 : EntOK Tryz.prog 99 (.run r99) := ent_of Tryz.func99 (by kernel_rfl) fun _ _ _ _ => by kernel_rfl
theorem zr100 : EntOK Tryz.prog 100 (.run r100) := ent_of Tryz.func100 (by kernel_rfl) fun _ _ _ _ => by kernel_rfl
theorem zr101 : EntOK Tryz.prog 101 (.run r101) := ent_of Tryz.func101 (by kernel_rfl) fun _ _ _ _ => by kernel_rfl
theorem zr102 : EntOK Tryz.prog 102 (.run r102) := ent_of Tryz.func102 (by kernel_rfl) fun _ _ _ _ => by kernel_rfl
theorem zr106 : EntOK Tryz.prog 106 (.run r106) := ent_of Tryz.func106 (by kernel_rfl) fun _ _ _ _ => by kernel_rfl
theorem zr107 : EntOK Tryz.prog 107 (.run r107) := ent_of Tryz.func107 (by kernel_rfl) fun _ _ _ _ => by kernel_rfl
theorem zr108 : EntOK Tryz.prog 108 (.run r108) := ent_of Tryz.func108 (by kernel_rfl) fun _ _ _ _ => by kernel_rfl
theorem zr109 : EntOK Tryz.prog 109 (.run r109) := ent_of Tryz.func109 (by kernel_rfl) fun _ _ _ _ => by kernel_rfl
theorem zr111 : EntOK Tryz.prog 111 (.run r111) := ent_code quiet_all mixedQ namesQ Tryz.func111 (c := c111) (by kernel_rfl) e111
theorem zr112 : EntOK Tryz.prog 112 (.run r112) := ent_of Tryz.func112 (by kernel_rfl) fun _ _ _ _ => by kernel_rfl
theorem zr114 : EntOK Tryz.prog 114 (.run r114) := ent_of Tryz.func114 (by kernel_rfl) fun _ _ _ _ => by kernel_rfl
theorem zr115 : EntOK Tryz.prog 115 (.run r115) := ent_of Tryz.func115 (by kernel_rfl) fun _ _ _ _ => by kernel_rfl
theorem zr116 : EntOK Tryz.prog 116 (.run r116) := ent_of Tryz.func116 (by kernel_rfl) fun _ _ _ _ => by kernel_rfl
theorem zr117 : EntOK Tryz.prog 117 (.run r117) := ent_of Tryz.func117 (by kernel_rfl) fun _ _ _ _ => by kernel_rfl
theorem zr118 : EntOK Tryz.prog 118 (.run r118) := ent_of Tryz.func118 (by kernel_rfl) fun _ _ _ _ => by kernel_rfl
theorem zr119 : EntOK Tryz.prog 119 (.run r119) := ent_of Tryz.func119 (by kernel_rfl) fun _ _ _ _ => by kernel_rfl
theorem zr120 : EntOK Tryz.prog 120 (.run r120) := ent_of Tryz.func120 (by kernel_rfl) fun _ _ _ _ => by kernel_rfl
theorem zr121 : EntOK Tryz.prog 121 (.run r121) := ent_of Tryz.func121 (by kernel_rfl) fun _ _ _ _ => by kernel_rfl
theorem zr122 : EntOK Tryz.prog 122 (.run r122) := ent_of Tryz.func122 (by kernel_rfl) fun _ _ _ _ => by kernel_rfl
theorem zr123 : EntOK Tryz.prog 123 (.run r123) := ent_of Tryz.func123 (by kernel_rfl) fun _ _ _ _ => by kernel_rfl
theorem zr124 : EntOK Tryz.prog 124 (.run r124) := ent_of Tryz.func124 (by kernel_rfl) fun _ _ _ _ => by kernel_rfl
theorem zr125 : EntOK Tryz.prog 125 (.run r125) := ent_of Tryz.func125 (by kernel_rfl) fun _ _ _ _ => by kernel_rfl
theorem zr126 : EntOK Tryz.prog 126 (.run r126) := ent_code quiet_all mixedQ namesQ Tryz.func126 (c := c126) (by kernel_rfl) e126
theorem zr128 : EntOK Tryz.prog 128 (.run r128) := ent_of Tryz.func128 (by kernel_rfl) fun _ _ _ _ => by kernel_rfl
theorem zr131 : EntOK Tryz.prog 131 (.run r131) := ent_of Tryz.func131 (by kernel_rfl) fun _ _ _ _ => by kernel_rfl
theorem zr133 : EntOK Tryz.prog 133 (.run r133) := ent_code quiet_all mixedQ namesQ Tryz.func133 (c := c133) (by kernel_rfl) e133
theorem zr134 : EntOK Tryz.prog 134 (.run r134) := ent_of Tryz.func134 (by kernel_rfl) fun _ _ _ _ => by kernel_rfl
theorem zr139 : EntOK Tryz.prog 139 (.run r139) := ent_of Tryz.func139 (by kernel_rfl) fun _ _ _ _ => by kernel_rfl
theorem zr140 : EntOK Tryz.prog 140 (.run r140) := ent_of Tryz.func140 (by kernel_rfl) fun _ _ _ _ => by kernel_rfl
theorem zr142 : EntOK Tryz.prog 142 (.run r142) := ent_of Tryz.func142 (by kernel_rfl) fun _ _ _ _ => by kernel_rfl
theorem zr143 : EntOK Tryz.prog 143 (.run r143) := ent_of Tryz.func143 (by kernel_rfl) fun _ _ _ _ => by kernel_rfl
theorem zr144 : EntOK Tryz.prog 144 (.run r144) := ent_of Tryz.func144 (by kernel_rfl) fun _ _ _ _ => by kernel_rfl
theorem zr145 : EntOK Tryz.prog 145 (.run r145) := ent_of Tryz.func145 (by kernel_rfl) fun _ _ _ _ => by kernel_rfl
theorem zr146 : EntOK Tryz.prog 146 (.run r146) := ent_of Tryz.func146 (by kernel_rfl) fun _ _ _ _ => by kernel_rfl
theorem zr147 : EntOK Tryz.prog 147 (.run r147) := ent_of Tryz.func147 (by kernel_rfl) fun _ _ _ _ => by kernel_rfl
theorem zr153 : EntOK Tryz.prog 153 (.run r153) := ent_of Tryz.func153 (by kernel_rfl) fun _ _ _ _ => by kernel_rfl
theorem zr154 : EntOK Tryz.prog 154 (.run r154) := ent_of Tryz.func154 (by kernel_rfl) fun _ _ _ _ => by kernel_rfl
theorem zr155 : EntOK Tryz.prog 155 (.run r155) := ent_of Tryz.func155 (by kernel_rfl) fun _ _ _ _ => by kernel_rfl
theorem zr156 : EntOK Tryz.prog 156 (.run r156) := ent_of Tryz.func156 (by kernel_rfl) fun _ _ _ _ => by kernel_rfl
theorem zr157 : EntOK Tryz.prog 157 (.run r157) := ent_of Tryz.func157 (by kernel_rfl) fun _ _ _ _ => by kernel_rfl
theorem zr158 : EntOK Tryz.prog 158 (.run r158) := ent_of Tryz.func158 (by kernel_rfl) fun _ _ _ _ => by kernel_rfl
theorem zr159 : EntOK Tryz.prog 159 (.run r159) := ent_of Tryz.func159 (by kernel_rfl) fun _ _ _ _ => by kernel_rfl
theorem zr160 : EntOK Tryz.prog 160 (.run r160) := ent_of Tryz.func160 (by kernel_rfl) fun _ _ _ _ => by kernel_rfl
theorem zr162 : EntOK Tryz.prog 162 (.run r162) := ent_of Tryz.func162 (by kernel_rfl) fun _ _ _ _ => by kernel_rfl
theorem zr167 : EntOK Tryz.prog 167 (.run r167) := ent_of Tryz.func167 (by kernel_rfl) fun _ _ _ _ => by kernel_rfl
theorem zr168 : EntOK Tryz.prog 168 (.run r168) := ent_of Tryz.func168 (by kernel_rfl) fun _ _ _ _ => by kernel_rfl
theorem zr172 : EntOK Tryz.prog 172 (.run r172) := ent_of Tryz.func172 (by kernel_rfl) fun _ _ _ _ => by kernel_rfl
theorem zr173 : EntOK Tryz.prog 173 (.run r173) := ent_of Tryz.func173 (by kernel_rfl) fun _ _ _ _ => by kernel_rfl
theorem zr176 : EntOK Tryz.prog 176 (.run r176) := ent_of Tryz.func176 (by kernel_rfl) fun _ _ _ _ => by kernel_rfl
theorem zr177 : EntOK Tryz.prog 177 (.run r177) := ent_of Tryz.func177 (by kernel_rfl) fun _ _ _ _ => by kernel_rfl
theorem zr178 : EntOK Tryz.prog 178 (.run r178) := ent_code quiet_all mixedQ namesQ Tryz.func178 (c := c178) (by kernel_rfl) e178
theorem zr184 : EntOK Tryz.prog 184 (.run r184) := ent_code quiet_all mixedQ namesQ Tryz.func184 (c := c184) (by kernel_rfl) e184
theorem zr186 : EntOK Tryz.prog 186 (.run r186) := ent_of Tryz.func186 (by kernel_rfl) fun _ _ _ _ => by kernel_rfl
theorem zr187 : EntOK Tryz.prog 187 (.run r187) := ent_of Tryz.func187 (by kernel_rfl) fun _ _ _ _ => by kernel_rfl
theorem zr188 : EntOK Tryz.prog 188 (.run r188) := ent_of Tryz.func188 (by kernel_rfl) fun _ _ _ _ => by kernel_rfl
theorem zr189 : EntOK Tryz.prog 189 (.run r189) := ent_of Tryz.func189 (by kernel_rfl) fun _ _ _ _ => by kernel_rfl
theorem zr190 : EntOK Tryz.prog 190 (.run r190) := ent_of Tryz.func190 (by kernel_rfl) fun _ _ _ _ => by kernel_rfl
theorem zr191 : EntOK Tryz.prog 191 (.run r191) := ent_of Tryz.func191 (by kernel_rfl) fun _ _ _ _ => by kernel_rfl
theorem zr192 : EntOK Tryz.prog 192 (.run r192) := ent_of Tryz.func192 (by kernel_rfl) fun _ _ _ _ => by kernel_rfl
theorem zr193 : EntOK Tryz.prog 193 (.run r193) := ent_of Tryz.func193 (by kernel_rfl) fun _ _ _ _ => by kernel_rfl
theorem zr194 : EntOK Tryz.prog 194 (.run r194) := ent_of Tryz.func194 (by kernel_rfl) fun _ _ _ _ => by kernel_rfl
theorem zr195 : EntOK Tryz.prog 195 (.run r195) := ent_of Tryz.func195 (by kernel_rfl) fun _ _ _ _ => by kernel_rfl
theorem zr211 : EntOK Tryz.prog 211 (.run r211) := ent_of Tryz.func211 (by kernel_rfl) fun _ _ _ _ => by kernel_rfl
theorem zr213 : EntOK Tryz.prog 213 (.run r213) := ent_of Tryz.func213 (by kernel_rfl) fun _ _ _ _ => by kernel_rfl
theorem zr214 : EntOK Tryz.prog 214 (.run r214) := ent_of Tryz.func214 (by kernel_rfl) fun _ _ _ _ => by kernel_rfl
theorem zr229 : EntOK Tryz.prog 229 (.run r229) := ent_of Tryz.func229 (by kernel_rfl) fun _ _ _ _ => by kernel_rfl
theorem tab_ok : AllT (EntOK Tryz.prog) 9 tab 0 1 := ⟨⟨⟨⟨⟨⟨⟨⟨no1 _ _, ⟨zr128, no0 _ _⟩⟩, ⟨⟨zr64, no0 _ _⟩, ⟨zr192, no0 _ _⟩⟩⟩, ⟨⟨⟨zr32, no0 _ _⟩, ⟨zr160, no0 _ _⟩⟩, ⟨⟨zr96, no0 _ _⟩, no1 _ _⟩⟩⟩, ⟨⟨⟨no1 _ _, ⟨zr144, no0 _ _⟩⟩, ⟨⟨zr80, no0 _ _⟩, no1 _ _⟩⟩, ⟨⟨⟨zr48, no0 _ _⟩, ⟨zr176, no0 _ _⟩⟩, ⟨⟨zr112, no0 _ _⟩, no1 _ _⟩⟩⟩⟩, ⟨⟨⟨⟨⟨zr8, no0 _ _⟩, no1 _ _⟩, ⟨no1 _ _, ⟨znat200, no0 _ _⟩⟩⟩, ⟨⟨⟨zr40, no0 _ _⟩, ⟨zr168, no0 _ _⟩⟩, no2 _ _⟩⟩, ⟨⟨⟨⟨zr24, no0 _ _⟩, no1 _ _⟩, no2 _ _⟩, ⟨⟨⟨zr56, no0 _ _⟩, ⟨zr184, no0 _ _⟩⟩, ⟨⟨zr120, no0 _ _⟩, no1 _ _⟩⟩⟩⟩⟩, ⟨⟨⟨⟨no2 _ _, ⟨⟨zr68, no0 _ _⟩, no1 _ _⟩⟩, ⟨⟨⟨zr36, no0 _ _⟩, no1 _ _⟩, ⟨⟨zr100, no0 _ _⟩, no1 _ _⟩⟩⟩, ⟨⟨⟨⟨zr20, no0 _ _⟩, no1 _ _⟩, ⟨⟨zr84, no0 _ _⟩, no1 _ _⟩⟩, ⟨⟨⟨zr52, no0 _ _⟩, no1 _ _⟩, ⟨⟨zr116, no0 _ _⟩, no1 _ _⟩⟩⟩⟩, ⟨⟨⟨⟨⟨zr12, no0 _ _⟩, ⟨zr140, no0 _ _⟩⟩, ⟨⟨zr76, no0 _ _⟩, no1 _ _⟩⟩, ⟨⟨no1 _ _, ⟨zr172, no0 _ _⟩⟩, ⟨⟨zr108, no0 _ _⟩, no1 _ _⟩⟩⟩, ⟨⟨⟨no1 _ _, ⟨zr156, no0 _ _⟩⟩, no2 _ _⟩, ⟨⟨⟨zr60, no0 _ _⟩, ⟨zr188, no0 _ _⟩⟩, ⟨⟨zr124, no0 _ _⟩, no1 _ _⟩⟩⟩⟩⟩⟩, ⟨⟨⟨⟨⟨no2 _ _, ⟨⟨zr66, no0 _ _⟩, ⟨zr194, no0 _ _⟩⟩⟩, ⟨⟨⟨zr34, no0 _ _⟩, ⟨zr162, no0 _ _⟩⟩, ⟨⟨zr98, no0 _ _⟩, no1 _ _⟩⟩⟩, ⟨⟨⟨no1 _ _, ⟨zr146, no0 _ _⟩⟩, ⟨⟨zr82, no0 _ _⟩, no1 _ _⟩⟩, ⟨⟨⟨zr50, no0 _ _⟩, ⟨zr178, no0 _ _⟩⟩, ⟨⟨zr114, no0 _ _⟩, no1 _ _⟩⟩⟩⟩, ⟨⟨⟨⟨⟨zr10, no0 _ _⟩, no1 _ _⟩, ⟨⟨zr74, no0 _ _⟩, no1 _ _⟩⟩, ⟨⟨⟨zr42, no0 _ _⟩, no1 _ _⟩, ⟨⟨zr106, no0 _ _⟩, no1 _ _⟩⟩⟩, ⟨⟨⟨⟨zr26, no0 _ _⟩, ⟨zr154, no0 _ _⟩⟩, no2 _ _⟩, ⟨⟨⟨zr58, no0 _ _⟩, ⟨zr186, no0 _ _⟩⟩, ⟨⟨zr122, no0 _ _⟩, no1 _ _⟩⟩⟩⟩⟩, ⟨⟨⟨⟨⟨⟨zr6, no0 _ _⟩, ⟨zr134, no0 _ _⟩⟩, ⟨⟨zr70, no0 _ _⟩, no1 _ _⟩⟩, ⟨⟨⟨zr38, no0 _ _⟩, no1 _ _⟩, ⟨⟨zr102, no0 _ _⟩, no1 _ _⟩⟩⟩, ⟨⟨⟨⟨zr22, no0 _ _⟩, no1 _ _⟩, ⟨no1 _ _, ⟨zr214, no0 _ _⟩⟩⟩, ⟨⟨⟨zr54, no0 _ _⟩, no1 _ _⟩, ⟨⟨zr118, no0 _ _⟩, no1 _ _⟩⟩⟩⟩, ⟨⟨⟨⟨⟨zr14, no0 _ _⟩, ⟨zr142, no0 _ _⟩⟩, ⟨⟨zr78, no0 _ _⟩, no1 _ _⟩⟩, ⟨⟨⟨zr46, no0 _ _⟩, no1 _ _⟩, no2 _ _⟩⟩, ⟨⟨⟨⟨zr30, no0 _ _⟩, ⟨zr158, no0 _ _⟩⟩, ⟨⟨zr94, no0 _ _⟩, no1 _ _⟩⟩, ⟨⟨no1 _ _, ⟨zr190, no0 _ _⟩⟩, ⟨⟨zr126, no0 _ _⟩, no1 _ _⟩⟩⟩⟩⟩⟩⟩, ⟨⟨⟨⟨⟨⟨no2 _ _, ⟨⟨zr65, no0 _ _⟩, ⟨zr193, no0 _ _⟩⟩⟩, ⟨⟨⟨zr33, no0 _ _⟩, no1 _ _⟩, ⟨⟨zr97, no0 _ _⟩, no1 _ _⟩⟩⟩, ⟨⟨⟨⟨zr17, no0 _ _⟩, ⟨zr145, no0 _ _⟩⟩, ⟨⟨zr81, no0 _ _⟩, no1 _ _⟩⟩, ⟨⟨⟨zr49, no0 _ _⟩, ⟨zr177, no0 _ _⟩⟩, no2 _ _⟩⟩⟩, ⟨⟨⟨⟨⟨zr9, no0 _ _⟩, no1 _ _⟩, ⟨⟨zr73, no0 _ _⟩, no1 _ _⟩⟩, ⟨⟨⟨zr41, no0 _ _⟩, no1 _ _⟩, no2 _ _⟩⟩, ⟨⟨⟨⟨zr25, no0 _ _⟩, ⟨zr153, no0 _ _⟩⟩, no2 _ _⟩, ⟨⟨⟨zr57, no0 _ _⟩, no1 _ _⟩, ⟨⟨zr121, no0 _ _⟩, no1 _ _⟩⟩⟩⟩⟩, ⟨⟨⟨⟨⟨no1 _ _, ⟨zr133, no0 _ _⟩⟩, ⟨⟨zr69, no0 _ _⟩, no1 _ _⟩⟩, ⟨⟨⟨zr37, no0 _ _⟩, no1 _ _⟩, ⟨⟨zr101, no0 _ _⟩, ⟨zr229, no0 _ _⟩⟩⟩⟩, ⟨⟨⟨⟨zr21, no0 _ _⟩, no1 _ _⟩, ⟨⟨zr85, no0 _ _⟩, ⟨zr213, no0 _ _⟩⟩⟩, ⟨no2 _ _, ⟨⟨zr117, no0 _ _⟩, no1 _ _⟩⟩⟩⟩, ⟨⟨⟨⟨⟨zr13, no0 _ _⟩, no1 _ _⟩, no2 _ _⟩, ⟨⟨⟨zr45, no0 _ _⟩, ⟨zr173, no0 _ _⟩⟩, ⟨⟨zr109, no0 _ _⟩, no1 _ _⟩⟩⟩, ⟨⟨⟨⟨zr29, no0 _ _⟩, ⟨zr157, no0 _ _⟩⟩, no2 _ _⟩, ⟨⟨⟨zr61, no0 _ _⟩, ⟨zr189, no0 _ _⟩⟩, ⟨⟨zr125, no0 _ _⟩, no1 _ _⟩⟩⟩⟩⟩⟩, ⟨⟨⟨⟨⟨⟨no1 _ _, ⟨zr131, no0 _ _⟩⟩, ⟨⟨zr67, no0 _ _⟩, ⟨zr195, no0 _ _⟩⟩⟩, ⟨⟨⟨zr35, no0 _ _⟩, no1 _ _⟩, ⟨⟨zr99, no0 _ _⟩, no1 _ _⟩⟩⟩, ⟨⟨⟨⟨zr19, no0 _ _⟩, ⟨zr147, no0 _ _⟩⟩, ⟨⟨zr83, no0 _ _⟩, ⟨zr211, no0 _ _⟩⟩⟩, ⟨no2 _ _, ⟨⟨zr115, no0 _ _⟩, no1 _ _⟩⟩⟩⟩, ⟨⟨⟨⟨⟨zr11, no0 _ _⟩, ⟨zr139, no0 _ _⟩⟩, ⟨⟨zr75, no0 _ _⟩, no1 _ _⟩⟩, ⟨⟨⟨zr43, no0 _ _⟩, no1 _ _⟩, ⟨⟨zr107, no0 _ _⟩, no1 _ _⟩⟩⟩, ⟨⟨⟨⟨zr27, no0 _ _⟩, ⟨zr155, no0 _ _⟩⟩, no2 _ _⟩, ⟨⟨⟨zr59, no0 _ _⟩, ⟨zr187, no0 _ _⟩⟩, ⟨⟨zr123, no0 _ _⟩, no1 _ _⟩⟩⟩⟩⟩, ⟨⟨⟨no3 _ _, ⟨⟨no1 _ _, ⟨zr167, no0 _ _⟩⟩, ⟨⟨znat103, no0 _ _⟩, no1 _ _⟩⟩⟩, ⟨⟨⟨⟨zr23, no0 _ _⟩, no1 _ _⟩, no2 _ _⟩, ⟨⟨⟨zr55, no0 _ _⟩, no1 _ _⟩, ⟨⟨zr119, no0 _ _⟩, no1 _ _⟩⟩⟩⟩, ⟨⟨⟨⟨no1 _ _, ⟨zr143, no0 _ _⟩⟩, ⟨⟨zr79, no0 _ _⟩, no1 _ _⟩⟩, ⟨⟨⟨zr47, no0 _ _⟩, no1 _ _⟩, ⟨⟨zr111, no0 _ _⟩, no1 _ _⟩⟩⟩, ⟨⟨⟨⟨zr31, no0 _ _⟩, ⟨zr159, no0 _ _⟩⟩, ⟨⟨zr95, no0 _ _⟩, no1 _ _⟩⟩, ⟨⟨⟨zr63, no0 _ _⟩, ⟨zr191, no0 _ _⟩⟩, no2 _ _⟩⟩⟩⟩⟩⟩⟩
theorem calls_ok (F n : Nat) : CallsOK Tryz.prog (callE tab F n) := callE_ok tab_ok F n
end Ax
end
