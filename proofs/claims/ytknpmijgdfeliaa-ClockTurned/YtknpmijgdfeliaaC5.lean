import Derived.Test.YtknpmijgdfeliaaC4
/- If watches or events are numbered otherwise only their numbers change, and no argument is changed, for every input. -/
/- More of the functions' shallow texts, by gen.py. -/
set_option linter.unusedVariables false
set_option maxRecDepth 100000
namespace Go.Proofs.Ytknpmijgdfeliaa.G
open Go.V
def an_7 : Nat → Ann := fun b => match b with
 | 0 => { ms := [91], ks := [.i .i64], us := [1, 2, 5, 10, 11, 12, 13, 89, 90, 477], rt := false, ex := [] }
 | 2 => { ms := [107], ks := [.i .i64], us := [1, 2, 5, 10, 11, 12, 13, 106, 477], rt := false, ex := [] }
 | 4 => { ms := [140], ks := [.i .i64], us := [1, 2, 5, 10, 11, 12, 13, 139, 477], rt := false, ex := [] }
 | 6 => { ms := [10, 358], ks := [.b, .i .i64], us := [1, 5, 11, 12, 13, 20, 21, 22, 41, 43, 357, 477], rt := false, ex := [] }
 | 8 => { ms := [10, 446], ks := [.b, .i .i64], us := [5, 20, 21, 445, 477], rt := false, ex := [] }
 | 10 => { ms := [10, 462], ks := [.b, .i .i64], us := [5, 21, 461, 477], rt := false, ex := [] }
 | 2000024 => { ms := [], ks := [], us := [1, 2, 5, 10, 11, 12, 13, 477], rt := true, ex := [] }
 | 2000044 => { ms := [], ks := [], us := [1, 5, 10, 11, 12, 13, 20, 21, 22, 41, 43, 45, 46, 47, 48, 357, 358, 477], rt := true, ex := [] }
 | _ => {}
abbrev rv_7 : List ResultVar := [.tmp 10]
abbrev rs_7 : List Nat := [477, 10]
def D_law07_ClockTurned_0 (W : World) (R : Ending → Hp → Prop) (zn0 : Int) (zn1 : Int) (za2 : Addr) (za3 : Addr) (za4 : Addr) (za5 : Addr) : Hp → Prop := DRG Pg W 477 rs_7 (opsAt (sub (bodyOf Try.f7) [1, 1, 1, 1, 1, 1, 1, 1, 1, 0])) (KS Pg W 477 rs_7 an_7 false (sub (bodyOf Try.f7) [1, 1, 1, 1, 1, 1, 1, 1, 1, 1]) 0 (fin Pg W 477 rv_7 R)) [1, 2, 5, 10, 11, 12, 13, 477] [(.int .i64 zn0), (.int .i64 zn1), (.pointer (some za2)), (.bool false), (.func (.func 32) #[] #[(.pointer (some za3)), (.pointer (some za2))]), (.func (.func 33) #[] #[(.pointer (some za4)), (.pointer (some za2))]), (.pointer (some za5)), (.tuple #[])]
def D_law07_ClockTurned_1 (W : World) (R : Ending → Hp → Prop) (nx3 : List Value → Hp → Prop) (zn0 : Int) (za1 : Addr) (zb2 : Bool) (za3 : Addr) (za4 : Addr) (za5 : Addr) (zp6 : Option Addr) (zl7 : Nat) (zl8 : Nat) (zp9 : Option Addr) (zl10 : Nat) (zl11 : Nat) (zp12 : Option Addr) (zl13 : Nat) (zl14 : Nat) (zn15 : Int) (zn16 : Int) (zn17 : Int) (za18 : Addr) (za19 : Addr) (zn20 : Int) (zn21 : Int) : Hp → Prop := DRG Pg W 477 rs_7 (opsAt (sub (bodyOf Try.f7) [1, 1, 1, 1, 1, 1, 1, 1, 1, 1, 1, 1, 1, 1, 1, 1, 1, 1, 1, 1, 1, 1, 1, 0, 1, 0, 0, 1, 1, 0, 0, 1, 1, 0])) (KS Pg W 477 rs_7 an_7 false (sub (bodyOf Try.f7) [1, 1, 1, 1, 1, 1, 1, 1, 1, 1, 1, 1, 1, 1, 1, 1, 1, 1, 1, 1, 1, 1, 1, 0, 1, 0, 0, 1, 1, 0, 0, 1, 1, 1]) 7 (KBlk 7 (KS Pg W 477 rs_7 an_7 false (sub (bodyOf Try.f7) [1, 1, 1, 1, 1, 1, 1, 1, 1, 1, 1, 1, 1, 1, 1, 1, 1, 1, 1, 1, 1, 1, 1, 0, 1, 0, 0, 1, 1, 1]) 6 (KLoop [10, 358] [1, 5, 11, 12, 13, 20, 21, 22, 41, 43, 357, 477] [(.int .i64 zn0), (.pointer (some za1)), (.func (.func 32) #[] #[(.pointer (some za3)), (.pointer (some za1))]), (.func (.func 33) #[] #[(.pointer (some za4)), (.pointer (some za1))]), (.pointer (some za5)), (.slice zp6 zl7 zl8), (.slice zp9 zl10 zl11), (.slice zp12 zl13 zl14), (.int .i64 zn15), (.int .i64 zn16), (.int .i64 zn21), (.tuple #[])] nx3 (KBlk 6 (KS Pg W 477 rs_7 an_7 false (sub (bodyOf Try.f7) [1, 1, 1, 1, 1, 1, 1, 1, 1, 1, 1, 1, 1, 1, 1, 1, 1, 1, 1, 1, 1, 1, 1, 1]) 0 (fin Pg W 477 rv_7 R))))))) [1, 5, 10, 11, 12, 13, 20, 21, 22, 41, 43, 45, 46, 47, 48, 357, 358, 477] [(.int .i64 zn0), (.pointer (some za1)), (.bool zb2), (.func (.func 32) #[] #[(.pointer (some za3)), (.pointer (some za1))]), (.func (.func 33) #[] #[(.pointer (some za4)), (.pointer (some za1))]), (.pointer (some za5)), (.slice zp6 zl7 zl8), (.slice zp9 zl10 zl11), (.slice zp12 zl13 zl14), (.int .i64 zn15), (.int .i64 zn16), (.int .i64 zn17), (.pointer (some za18)), (.pointer (some za19)), (.int .i64 zn20), (.int .i64 zn21), (.int .i64 zn17), (.tuple #[])]
def L_law07_ClockTurned_0 (W : World) (R : Ending → Hp → Prop) (zn0 : Int) (zn1 : Int) (za2 : Addr) (za3 : Addr) (za4 : Addr) (za5 : Addr) (zp6 : Option Addr) (zl7 : Nat) (zl8 : Nat) (zn9 : Int) (n94 : Int) : Hp → Prop :=
 LOOPN [.i .i64] (fun ys next s => ∀ j : Tm, vc Pg W 477 rs_7 an_7 false (sub (bodyOf Try.f7) [1, 1, 1, 1, 1, 1, 0, 1, 0, 0]) 0 (KLoop [91] [1, 2, 5, 10, 11, 12, 13, 89, 90, 477] [(.int .i64 zn0), (.int .i64 zn1), (.pointer (some za2)), (.bool false), (.func (.func 32) #[] #[(.pointer (some za3)), (.pointer (some za2))]), (.func (.func 33) #[] #[(.pointer (some za4)), (.pointer (some za2))]), (.pointer (some za5)), (.slice zp6 zl7 zl8), (.int .i64 zn9), (.tuple #[])] next (KBlk 0 (KS Pg W 477 rs_7 an_7 false (sub (bodyOf Try.f7) [1, 1, 1, 1, 1, 1, 1]) 0 (fin Pg W 477 rv_7 R)))) (known [91] ys (known [1, 2, 5, 10, 11, 12, 13, 89, 90, 477] [(.int .i64 zn0), (.int .i64 zn1), (.pointer (some za2)), (.bool false), (.func (.func 32) #[] #[(.pointer (some za3)), (.pointer (some za2))]), (.func (.func 33) #[] #[(.pointer (some za4)), (.pointer (some za2))]), (.pointer (some za5)), (.slice zp6 zl7 zl8), (.int .i64 zn9), (.tuple #[])] j)) s) [(.int .i64 n94)]
def L_law07_ClockTurned_1 (W : World) (R : Ending → Hp → Prop) (zn0 : Int) (zn1 : Int) (za2 : Addr) (za3 : Addr) (za4 : Addr) (za5 : Addr) (zn6 : Int) (n122 : Int) : Hp → Prop :=
 LOOPN [.i .i64] (fun ys next s => ∀ j : Tm, vc Pg W 477 rs_7 an_7 false (sub (bodyOf Try.f7) [1, 1, 1, 1, 1, 1, 1, 0, 1, 0, 0]) 2 (KLoop [107] [1, 2, 5, 10, 11, 12, 13, 106, 477] [(.int .i64 zn0), (.int .i64 zn1), (.pointer (some za2)), (.bool false), (.func (.func 32) #[] #[(.pointer (some za3)), (.pointer (some za2))]), (.func (.func 33) #[] #[(.pointer (some za4)), (.pointer (some za2))]), (.pointer (some za5)), (.int .i64 zn6), (.tuple #[])] next (KBlk 2 (KS Pg W 477 rs_7 an_7 false (sub (bodyOf Try.f7) [1, 1, 1, 1, 1, 1, 1, 1]) 0 (fin Pg W 477 rv_7 R)))) (known [107] ys (known [1, 2, 5, 10, 11, 12, 13, 106, 477] [(.int .i64 zn0), (.int .i64 zn1), (.pointer (some za2)), (.bool false), (.func (.func 32) #[] #[(.pointer (some za3)), (.pointer (some za2))]), (.func (.func 33) #[] #[(.pointer (some za4)), (.pointer (some za2))]), (.pointer (some za5)), (.int .i64 zn6), (.tuple #[])] j)) s) [(.int .i64 n122)]
def L_law07_ClockTurned_2 (W : World) (R : Ending → Hp → Prop) (zn0 : Int) (zn1 : Int) (za2 : Addr) (za3 : Addr) (za4 : Addr) (za5 : Addr) (zn6 : Int) (n165 : Int) : Hp → Prop :=
 LOOPN [.i .i64] (fun ys next s => ∀ j : Tm, vc Pg W 477 rs_7 an_7 false (sub (bodyOf Try.f7) [1, 1, 1, 1, 1, 1, 1, 1, 0, 1, 0, 0]) 4 (KLoop [140] [1, 2, 5, 10, 11, 12, 13, 139, 477] [(.int .i64 zn0), (.int .i64 zn1), (.pointer (some za2)), (.bool false), (.func (.func 32) #[] #[(.pointer (some za3)), (.pointer (some za2))]), (.func (.func 33) #[] #[(.pointer (some za4)), (.pointer (some za2))]), (.pointer (some za5)), (.int .i64 zn6), (.tuple #[])] next (KBlk 4 (KS Pg W 477 rs_7 an_7 false (sub (bodyOf Try.f7) [1, 1, 1, 1, 1, 1, 1, 1, 1]) 0 (fin Pg W 477 rv_7 R)))) (known [140] ys (known [1, 2, 5, 10, 11, 12, 13, 139, 477] [(.int .i64 zn0), (.int .i64 zn1), (.pointer (some za2)), (.bool false), (.func (.func 32) #[] #[(.pointer (some za3)), (.pointer (some za2))]), (.func (.func 33) #[] #[(.pointer (some za4)), (.pointer (some za2))]), (.pointer (some za5)), (.int .i64 zn6), (.tuple #[])] j)) s) [(.int .i64 n165)]
def L_law07_ClockTurned_3 (W : World) (R : Ending → Hp → Prop) (zn0 : Int) (za1 : Addr) (za2 : Addr) (za3 : Addr) (za4 : Addr) (zp5 : Option Addr) (zl6 : Nat) (zl7 : Nat) (zp8 : Option Addr) (zl9 : Nat) (zl10 : Nat) (zp11 : Option Addr) (zl12 : Nat) (zl13 : Nat) (zn14 : Int) (zn15 : Int) (zn16 : Int) (b846 : Bool) (n847 : Int) : Hp → Prop :=
 LOOPN [.b, .i .i64] (fun ys next s => ∀ j : Tm, vc Pg W 477 rs_7 an_7 false (sub (bodyOf Try.f7) [1, 1, 1, 1, 1, 1, 1, 1, 1, 1, 1, 1, 1, 1, 1, 1, 1, 1, 1, 1, 1, 1, 1, 0, 1, 0, 0]) 6 (KLoop [10, 358] [1, 5, 11, 12, 13, 20, 21, 22, 41, 43, 357, 477] [(.int .i64 zn0), (.pointer (some za1)), (.func (.func 32) #[] #[(.pointer (some za2)), (.pointer (some za1))]), (.func (.func 33) #[] #[(.pointer (some za3)), (.pointer (some za1))]), (.pointer (some za4)), (.slice zp5 zl6 zl7), (.slice zp8 zl9 zl10), (.slice zp11 zl12 zl13), (.int .i64 zn14), (.int .i64 zn15), (.int .i64 zn16), (.tuple #[])] next (KBlk 6 (KS Pg W 477 rs_7 an_7 false (sub (bodyOf Try.f7) [1, 1, 1, 1, 1, 1, 1, 1, 1, 1, 1, 1, 1, 1, 1, 1, 1, 1, 1, 1, 1, 1, 1, 1]) 0 (fin Pg W 477 rv_7 R)))) (known [10, 358] ys (known [1, 5, 11, 12, 13, 20, 21, 22, 41, 43, 357, 477] [(.int .i64 zn0), (.pointer (some za1)), (.func (.func 32) #[] #[(.pointer (some za2)), (.pointer (some za1))]), (.func (.func 33) #[] #[(.pointer (some za3)), (.pointer (some za1))]), (.pointer (some za4)), (.slice zp5 zl6 zl7), (.slice zp8 zl9 zl10), (.slice zp11 zl12 zl13), (.int .i64 zn14), (.int .i64 zn15), (.int .i64 zn16), (.tuple #[])] j)) s) [(.bool b846), (.int .i64 n847)]
def L_law07_ClockTurned_4 (W : World) (R : Ending → Hp → Prop) (za0 : Addr) (zp1 : Option Addr) (zl2 : Nat) (zl3 : Nat) (zp4 : Option Addr) (zl5 : Nat) (zl6 : Nat) (zn7 : Int) (b1269 : Bool) (n1270 : Int) : Hp → Prop :=
 LOOPN [.b, .i .i64] (fun ys next s => ∀ j : Tm, vc Pg W 477 rs_7 an_7 false (sub (bodyOf Try.f7) [1, 1, 1, 1, 1, 1, 1, 1, 1, 1, 1, 1, 1, 1, 1, 1, 1, 1, 1, 1, 1, 1, 1, 1, 0, 1, 0, 0]) 8 (KLoop [10, 446] [5, 20, 21, 445, 477] [(.pointer (some za0)), (.slice zp1 zl2 zl3), (.slice zp4 zl5 zl6), (.int .i64 zn7), (.tuple #[])] next (KBlk 8 (KS Pg W 477 rs_7 an_7 false (sub (bodyOf Try.f7) [1, 1, 1, 1, 1, 1, 1, 1, 1, 1, 1, 1, 1, 1, 1, 1, 1, 1, 1, 1, 1, 1, 1, 1, 1]) 0 (fin Pg W 477 rv_7 R)))) (known [10, 446] ys (known [5, 20, 21, 445, 477] [(.pointer (some za0)), (.slice zp1 zl2 zl3), (.slice zp4 zl5 zl6), (.int .i64 zn7), (.tuple #[])] j)) s) [(.bool b1269), (.int .i64 n1270)]
def L_law07_ClockTurned_5 (W : World) (R : Ending → Hp → Prop) (za0 : Addr) (zp1 : Option Addr) (zl2 : Nat) (zl3 : Nat) (zn4 : Int) (b1282 : Bool) (n1283 : Int) : Hp → Prop :=
 LOOPN [.b, .i .i64] (fun ys next s => ∀ j : Tm, vc Pg W 477 rs_7 an_7 false (sub (bodyOf Try.f7) [1, 1, 1, 1, 1, 1, 1, 1, 1, 1, 1, 1, 1, 1, 1, 1, 1, 1, 1, 1, 1, 1, 1, 1, 1, 0, 1, 0, 0]) 10 (KLoop [10, 462] [5, 21, 461, 477] [(.pointer (some za0)), (.slice zp1 zl2 zl3), (.int .i64 zn4), (.tuple #[])] next (KBlk 10 (KS Pg W 477 rs_7 an_7 false (sub (bodyOf Try.f7) [1, 1, 1, 1, 1, 1, 1, 1, 1, 1, 1, 1, 1, 1, 1, 1, 1, 1, 1, 1, 1, 1, 1, 1, 1, 1]) 0 (fin Pg W 477 rv_7 R)))) (known [10, 462] ys (known [5, 21, 461, 477] [(.pointer (some za0)), (.slice zp1 zl2 zl3), (.int .i64 zn4), (.tuple #[])] j)) s) [(.bool b1282), (.int .i64 n1283)]
def J_law07_ClockTurned_0 (W : World) (R : Ending → Hp → Prop) (b33 : Bool) (B15 : Nat) (n11 : Int) (n12 : Int) (B16 : Nat) (B17 : Nat) : Hp → Prop :=
 BR b33
 (CALL Pg W F_law07_alive []
 (fun v34 => TYB v34 fun b36 =>
 R (.returned (.bool b36)))
 (fun e35 => R (.panicked e35)))
 (RDL (Addr.add ⟨B15, 0, none⟩ 0) fun x37 l38 c39 =>
 RDI .i64 (Addr.add ⟨B15, 0, none⟩ 1) fun n40 =>
 RDL (Addr.add ⟨B15, 0, none⟩ 2) fun x41 l42 c43 =>
 RDL (Addr.add ⟨B15, 0, none⟩ 3) fun x44 l45 c46 =>
 NEWZ Pg 26 fun B47 =>
 WR (Addr.add ⟨B47, 0, none⟩ 0) (.slice x37 l38 c39) <|
 WR (Addr.add ⟨B47, 0, none⟩ 1) (.int .i64 n40) <|
 WR (Addr.add ⟨B47, 0, none⟩ 2) (.slice x41 l42 c43) <|
 WR (Addr.add ⟨B47, 0, none⟩ 3) (.slice x44 l45 c46) <|
 RDL (Addr.add ⟨B15, 0, none⟩ 0) fun x48 l49 c50 =>
 MKS Pg 66 (↑l49 : Int) (↑l49 : Int) fun B51 =>
 WR (Addr.add (Addr.add ⟨B47, 0, none⟩ 0) 0) (.slice (some ⟨B51, 0, none⟩) (Int.toNat (↑l49 : Int)) (Int.toNat (↑l49 : Int))) <|
 WR (Addr.add (Addr.add ⟨B47, 0, none⟩ 2) 0) (.slice none 0 0) <|
 WR (Addr.add (Addr.add ⟨B47, 0, none⟩ 3) 0) (.slice none 0 0) <|
 RDL (Addr.add ⟨B15, 0, none⟩ 0) fun x52 l53 c54 =>
 L_law07_ClockTurned_0 W R n11 n12 ⟨B15, 0, none⟩ ⟨B16, 0, none⟩ ⟨B17, 0, none⟩ ⟨B47, 0, none⟩ x52 l53 c54 (↑l53 : Int) 0)
def J_law07_ClockTurned_1 (W : World) (R : Ending → Hp → Prop) (b32 : Bool) (B15 : Nat) (n11 : Int) (n12 : Int) (B16 : Nat) (B17 : Nat) : Hp → Prop :=
 BR b32
 (J_law07_ClockTurned_0 W R true B15 n11 n12 B16 B17)
 (RDL (Addr.add ⟨B15, 0, none⟩ 0) fun x55 l56 c57 =>
 RDI .i64 (Addr.add ⟨B15, 0, none⟩ 1) fun n58 =>
 RDL (Addr.add ⟨B15, 0, none⟩ 2) fun x59 l60 c61 =>
 RDL (Addr.add ⟨B15, 0, none⟩ 3) fun x62 l63 c64 =>
 CALL Pg W F_ref07_Event [(.agg #[(.slice x55 l56 c57), (.int .i64 n58), (.slice x59 l60 c61), (.slice x62 l63 c64)]), (.int .i64 n12)]
 (fun v65 => TYB v65 fun b67 =>
 J_law07_ClockTurned_0 W R (!b67) B15 n11 n12 B16 B17)
 (fun e66 => R (.panicked e66)))
def J_law07_ClockTurned_2 (W : World) (R : Ending → Hp → Prop) (b31 : Bool) (B15 : Nat) (n11 : Int) (n12 : Int) (B16 : Nat) (B17 : Nat) : Hp → Prop :=
 BR b31
 (J_law07_ClockTurned_1 W R true B15 n11 n12 B16 B17)
 (RDL (Addr.add ⟨B15, 0, none⟩ 0) fun x68 l69 c70 =>
 RDI .i64 (Addr.add ⟨B15, 0, none⟩ 1) fun n71 =>
 RDL (Addr.add ⟨B15, 0, none⟩ 2) fun x72 l73 c74 =>
 RDL (Addr.add ⟨B15, 0, none⟩ 3) fun x75 l76 c77 =>
 CALL Pg W F_ref07_Event [(.agg #[(.slice x68 l69 c70), (.int .i64 n71), (.slice x72 l73 c74), (.slice x75 l76 c77)]), (.int .i64 n11)]
 (fun v78 => TYB v78 fun b80 =>
 J_law07_ClockTurned_1 W R (!b80) B15 n11 n12 B16 B17)
 (fun e79 => R (.panicked e79)))
def J_law07_ClockTurned_3 (W : World) (R : Ending → Hp → Prop) (b617 : Bool) (zn0 : Int) (za2 : Addr) (za3 : Addr) (za4 : Addr) (za5 : Addr) (x272 : Option Addr) (l273 : Nat) (c274 : Nat) (x275 : Option Addr) (l276 : Nat) (c277 : Nat) (x278 : Option Addr) (l279 : Nat) (c280 : Nat) (n565 : Int) (n584 : Int) : Hp → Prop :=
 BR b617
 (R (.returned (.bool false)))
 (L_law07_ClockTurned_3 W R zn0 za2 za3 za4 za5 x272 l273 c274 x275 l276 c277 x278 l279 c280 n565 n584 (↑l279 : Int) false 0)
def J_law07_ClockTurned_4 (W : World) (R : Ending → Hp → Prop) (b599 : Bool) (n305 : Int) (B332 : Nat) (B306 : Nat) (zn0 : Int) (za2 : Addr) (za3 : Addr) (za4 : Addr) (za5 : Addr) (x272 : Option Addr) (l273 : Nat) (c274 : Nat) (x275 : Option Addr) (l276 : Nat) (c277 : Nat) (x278 : Option Addr) (l279 : Nat) (c280 : Nat) (n565 : Int) (n584 : Int) (n412 : Int) (n431 : Int) (zn1 : Int) : Hp → Prop :=
 BR b599
 (R (.returned (.bool false)))
 (BR (n305 == 0)
 (RDI .i64 (Addr.add ⟨B332, 0, none⟩ 0) fun n600 =>
 RDI .i64 (Addr.add ⟨B332, 0, none⟩ 1) fun n601 =>
 RDI .i64 (Addr.add ⟨B306, 0, none⟩ 1) fun n602 =>
 RDI .i64 (Addr.add ⟨B306, 0, none⟩ 0) fun n603 =>
 CALL Pg W F_law07_span [(.int .i64 (IntKind.wrap .i64 (0 - n602))), (.int .i64 (IntKind.wrap .i64 (0 - n603)))]
 (fun v604 => AGG v604 fun q606 => HD q606 fun v607 r608 => TYI .i64 v607 fun n609 =>
 HD r608 fun v610 r611 => TYI .i64 v610 fun n612 =>
 NL r611 <|
 ANDS (RDI .i64 (Addr.add ⟨B332, 0, none⟩ 0) fun n615 =>
 RDI .i64 (Addr.add ⟨B332, 0, none⟩ 1) fun n616 =>
 fun _ => ((.agg #[(.int .i64 n615), (.int .i64 n616)]) : Value) = (.agg #[(.int .i64 n600), (.int .i64 n601)])) <|
 BR (!((n600 == n609) && (n601 == n612)))
 (J_law07_ClockTurned_3 W R true zn0 za2 za3 za4 za5 x272 l273 c274 x275 l276 c277 x278 l279 c280 n565 n584)
 (BR (n412 == 2)
 (BR (n431 != 0)
 (J_law07_ClockTurned_3 W R true zn0 za2 za3 za4 za5 x272 l273 c274 x275 l276 c277 x278 l279 c280 n565 n584)
 (BR (zn0 == zn1)
 (RDI .i64 (Addr.add ⟨B306, 0, none⟩ 0) fun n618 =>
 RDI .i64 (Addr.add ⟨B306, 0, none⟩ 1) fun n619 =>
 CALL Pg W F_law07_span [(.int .i64 0), (.int .i64 0)]
 (fun v620 => AGG v620 fun q622 => HD q622 fun v623 r624 => TYI .i64 v623 fun n625 =>
 HD r624 fun v626 r627 => TYI .i64 v626 fun n628 =>
 NL r627 <|
 ANDS (RDI .i64 (Addr.add ⟨B306, 0, none⟩ 0) fun n631 =>
 RDI .i64 (Addr.add ⟨B306, 0, none⟩ 1) fun n632 =>
 fun _ => ((.agg #[(.int .i64 n631), (.int .i64 n632)]) : Value) = (.agg #[(.int .i64 n618), (.int .i64 n619)])) <|
 J_law07_ClockTurned_3 W R (!((n618 == n625) && (n619 == n628))) zn0 za2 za3 za4 za5 x272 l273 c274 x275 l276 c277 x278 l279 c280 n565 n584)
 (fun e621 => R (.panicked e621)))
 (J_law07_ClockTurned_3 W R false zn0 za2 za3 za4 za5 x272 l273 c274 x275 l276 c277 x278 l279 c280 n565 n584)))
 (BR (zn0 == zn1)
 (RDI .i64 (Addr.add ⟨B306, 0, none⟩ 0) fun n633 =>
 RDI .i64 (Addr.add ⟨B306, 0, none⟩ 1) fun n634 =>
 CALL Pg W F_law07_span [(.int .i64 0), (.int .i64 0)]
 (fun v635 => AGG v635 fun q637 => HD q637 fun v638 r639 => TYI .i64 v638 fun n640 =>
 HD r639 fun v641 r642 => TYI .i64 v641 fun n643 =>
 NL r642 <|
 ANDS (RDI .i64 (Addr.add ⟨B306, 0, none⟩ 0) fun n646 =>
 RDI .i64 (Addr.add ⟨B306, 0, none⟩ 1) fun n647 =>
 fun _ => ((.agg #[(.int .i64 n646), (.int .i64 n647)]) : Value) = (.agg #[(.int .i64 n633), (.int .i64 n634)])) <|
 J_law07_ClockTurned_3 W R (!((n633 == n640) && (n634 == n643))) zn0 za2 za3 za4 za5 x272 l273 c274 x275 l276 c277 x278 l279 c280 n565 n584)
 (fun e636 => R (.panicked e636)))
 (J_law07_ClockTurned_3 W R false zn0 za2 za3 za4 za5 x272 l273 c274 x275 l276 c277 x278 l279 c280 n565 n584))))
 (fun e605 => R (.panicked e605)))
 (J_law07_ClockTurned_3 W R false zn0 za2 za3 za4 za5 x272 l273 c274 x275 l276 c277 x278 l279 c280 n565 n584))
def J_law07_ClockTurned_5 (W : World) (R : Ending → Hp → Prop) (b598 : Bool) (n305 : Int) (B332 : Nat) (B306 : Nat) (zn0 : Int) (za2 : Addr) (za3 : Addr) (za4 : Addr) (za5 : Addr) (x272 : Option Addr) (l273 : Nat) (c274 : Nat) (x275 : Option Addr) (l276 : Nat) (c277 : Nat) (x278 : Option Addr) (l279 : Nat) (c280 : Nat) (n565 : Int) (n584 : Int) (n412 : Int) (n431 : Int) (zn1 : Int) (n527 : Int) (n546 : Int) : Hp → Prop :=
 BR b598
 (J_law07_ClockTurned_4 W R true n305 B332 B306 zn0 za2 za3 za4 za5 x272 l273 c274 x275 l276 c277 x278 l279 c280 n565 n584 n412 n431 zn1)
 (CALL Pg W F_ref07_Size [(.int .i64 n527)]
 (fun v648 => TYI .i64 v648 fun n650 =>
 CALL Pg W F_ref07_Size [(.int .i64 n546)]
 (fun v651 => TYI .i64 v651 fun n653 =>
 J_law07_ClockTurned_4 W R (n650 != n653) n305 B332 B306 zn0 za2 za3 za4 za5 x272 l273 c274 x275 l276 c277 x278 l279 c280 n565 n584 n412 n431 zn1)
 (fun e652 => R (.panicked e652)))
 (fun e649 => R (.panicked e649)))
def J_law07_ClockTurned_6 (W : World) (R : Ending → Hp → Prop) (b597 : Bool) (n305 : Int) (B332 : Nat) (B306 : Nat) (zn0 : Int) (za2 : Addr) (za3 : Addr) (za4 : Addr) (za5 : Addr) (x272 : Option Addr) (l273 : Nat) (c274 : Nat) (x275 : Option Addr) (l276 : Nat) (c277 : Nat) (x278 : Option Addr) (l279 : Nat) (c280 : Nat) (n565 : Int) (n584 : Int) (n412 : Int) (n431 : Int) (zn1 : Int) (n527 : Int) (n546 : Int) : Hp → Prop :=
 BR b597
 (J_law07_ClockTurned_5 W R true n305 B332 B306 zn0 za2 za3 za4 za5 x272 l273 c274 x275 l276 c277 x278 l279 c280 n565 n584 n412 n431 zn1 n527 n546)
 (J_law07_ClockTurned_5 W R (decide (n546 < 0)) n305 B332 B306 zn0 za2 za3 za4 za5 x272 l273 c274 x275 l276 c277 x278 l279 c280 n565 n584 n412 n431 zn1 n527 n546)
def J_law07_ClockTurned_7 (W : World) (R : Ending → Hp → Prop) (b596 : Bool) (n305 : Int) (B332 : Nat) (B306 : Nat) (zn0 : Int) (za2 : Addr) (za3 : Addr) (za4 : Addr) (za5 : Addr) (x272 : Option Addr) (l273 : Nat) (c274 : Nat) (x275 : Option Addr) (l276 : Nat) (c277 : Nat) (x278 : Option Addr) (l279 : Nat) (c280 : Nat) (n565 : Int) (n584 : Int) (n412 : Int) (n431 : Int) (zn1 : Int) (n527 : Int) (n546 : Int) : Hp → Prop :=
 BR b596
 (J_law07_ClockTurned_6 W R true n305 B332 B306 zn0 za2 za3 za4 za5 x272 l273 c274 x275 l276 c277 x278 l279 c280 n565 n584 n412 n431 zn1 n527 n546)
 (J_law07_ClockTurned_6 W R (decide (n527 < 0)) n305 B332 B306 zn0 za2 za3 za4 za5 x272 l273 c274 x275 l276 c277 x278 l279 c280 n565 n584 n412 n431 zn1 n527 n546)
def J_law07_ClockTurned_8 (W : World) (R : Ending → Hp → Prop) (b595 : Bool) (n305 : Int) (B332 : Nat) (B306 : Nat) (zn0 : Int) (za2 : Addr) (za3 : Addr) (za4 : Addr) (za5 : Addr) (x272 : Option Addr) (l273 : Nat) (c274 : Nat) (x275 : Option Addr) (l276 : Nat) (c277 : Nat) (x278 : Option Addr) (l279 : Nat) (c280 : Nat) (n565 : Int) (n584 : Int) (n412 : Int) (n431 : Int) (zn1 : Int) (n527 : Int) (n546 : Int) (n568 : Int) (n587 : Int) : Hp → Prop :=
 BR b595
 (J_law07_ClockTurned_7 W R true n305 B332 B306 zn0 za2 za3 za4 za5 x272 l273 c274 x275 l276 c277 x278 l279 c280 n565 n584 n412 n431 zn1 n527 n546)
 (J_law07_ClockTurned_7 W R (n568 != n587) n305 B332 B306 zn0 za2 za3 za4 za5 x272 l273 c274 x275 l276 c277 x278 l279 c280 n565 n584 n412 n431 zn1 n527 n546)
def J_law07_ClockTurned_9 (W : World) (R : Ending → Hp → Prop) (b594 : Bool) (n305 : Int) (B332 : Nat) (B306 : Nat) (zn0 : Int) (za2 : Addr) (za3 : Addr) (za4 : Addr) (za5 : Addr) (x272 : Option Addr) (l273 : Nat) (c274 : Nat) (x275 : Option Addr) (l276 : Nat) (c277 : Nat) (x278 : Option Addr) (l279 : Nat) (c280 : Nat) (n565 : Int) (n584 : Int) (n412 : Int) (n431 : Int) (zn1 : Int) (n527 : Int) (n546 : Int) (n568 : Int) (n587 : Int) (n530 : Int) (n549 : Int) : Hp → Prop :=
 BR b594
 (J_law07_ClockTurned_8 W R true n305 B332 B306 zn0 za2 za3 za4 za5 x272 l273 c274 x275 l276 c277 x278 l279 c280 n565 n584 n412 n431 zn1 n527 n546 n568 n587)
 (J_law07_ClockTurned_8 W R (n530 != n549) n305 B332 B306 zn0 za2 za3 za4 za5 x272 l273 c274 x275 l276 c277 x278 l279 c280 n565 n584 n412 n431 zn1 n527 n546 n568 n587)
def J_law07_ClockTurned_10 (W : World) (R : Ending → Hp → Prop) (b593 : Bool) (n305 : Int) (B332 : Nat) (B306 : Nat) (zn0 : Int) (za2 : Addr) (za3 : Addr) (za4 : Addr) (za5 : Addr) (x272 : Option Addr) (l273 : Nat) (c274 : Nat) (x275 : Option Addr) (l276 : Nat) (c277 : Nat) (x278 : Option Addr) (l279 : Nat) (c280 : Nat) (n565 : Int) (n584 : Int) (n412 : Int) (n431 : Int) (zn1 : Int) (n527 : Int) (n546 : Int) (n568 : Int) (n587 : Int) (n530 : Int) (n549 : Int) (B460 : Nat) (p510 : Option Addr) : Hp → Prop :=
 BR b593
 (J_law07_ClockTurned_9 W R true n305 B332 B306 zn0 za2 za3 za4 za5 x272 l273 c274 x275 l276 c277 x278 l279 c280 n565 n584 n412 n431 zn1 n527 n546 n568 n587 n530 n549)
 (RDI .i64 (Addr.add ⟨B460, 0, none⟩ 0) fun n654 =>
 RDI .i64 (Addr.add ⟨B460, 0, none⟩ 1) fun n655 =>
 SO p510 fun a656 =>
 RDI .i64 (Addr.add a656 0) fun n657 =>
 RDI .i64 (Addr.add a656 1) fun n658 =>
 J_law07_ClockTurned_9 W R (!((n654 == n657) && (n655 == n658))) n305 B332 B306 zn0 za2 za3 za4 za5 x272 l273 c274 x275 l276 c277 x278 l279 c280 n565 n584 n412 n431 zn1 n527 n546 n568 n587 n530 n549)
def J_law07_ClockTurned_11 (W : World) (R : Ending → Hp → Prop) (b592 : Bool) (n305 : Int) (B332 : Nat) (B306 : Nat) (zn0 : Int) (za2 : Addr) (za3 : Addr) (za4 : Addr) (za5 : Addr) (x272 : Option Addr) (l273 : Nat) (c274 : Nat) (x275 : Option Addr) (l276 : Nat) (c277 : Nat) (x278 : Option Addr) (l279 : Nat) (c280 : Nat) (n565 : Int) (n584 : Int) (n412 : Int) (n431 : Int) (zn1 : Int) (n527 : Int) (n546 : Int) (n568 : Int) (n587 : Int) (n530 : Int) (n549 : Int) (B460 : Nat) (p510 : Option Addr) (p395 : Option Addr) : Hp → Prop :=
 BR b592
 (J_law07_ClockTurned_10 W R true n305 B332 B306 zn0 za2 za3 za4 za5 x272 l273 c274 x275 l276 c277 x278 l279 c280 n565 n584 n412 n431 zn1 n527 n546 n568 n587 n530 n549 B460 p510)
 (SO p395 fun a659 =>
 RDI .i64 (Addr.add a659 0) fun n660 =>
 RDI .i64 (Addr.add a659 1) fun n661 =>
 RDI .i64 (Addr.add ⟨B306, 0, none⟩ 0) fun n662 =>
 RDI .i64 (Addr.add ⟨B306, 0, none⟩ 1) fun n663 =>
 J_law07_ClockTurned_10 W R (!((n660 == n662) && (n661 == n663))) n305 B332 B306 zn0 za2 za3 za4 za5 x272 l273 c274 x275 l276 c277 x278 l279 c280 n565 n584 n412 n431 zn1 n527 n546 n568 n587 n530 n549 B460 p510)
def J_law07_ClockTurned_12 (W : World) (R : Ending → Hp → Prop) (b591 : Bool) (n305 : Int) (B332 : Nat) (B306 : Nat) (zn0 : Int) (za2 : Addr) (za3 : Addr) (za4 : Addr) (za5 : Addr) (x272 : Option Addr) (l273 : Nat) (c274 : Nat) (x275 : Option Addr) (l276 : Nat) (c277 : Nat) (x278 : Option Addr) (l279 : Nat) (c280 : Nat) (n565 : Int) (n584 : Int) (n412 : Int) (n431 : Int) (zn1 : Int) (n527 : Int) (n546 : Int) (n568 : Int) (n587 : Int) (n530 : Int) (n549 : Int) (B460 : Nat) (p510 : Option Addr) (p395 : Option Addr) (n511 : Int) : Hp → Prop :=
 BR b591
 (J_law07_ClockTurned_11 W R true n305 B332 B306 zn0 za2 za3 za4 za5 x272 l273 c274 x275 l276 c277 x278 l279 c280 n565 n584 n412 n431 zn1 n527 n546 n568 n587 n530 n549 B460 p510 p395)
 (J_law07_ClockTurned_11 W R (n305 != n511) n305 B332 B306 zn0 za2 za3 za4 za5 x272 l273 c274 x275 l276 c277 x278 l279 c280 n565 n584 n412 n431 zn1 n527 n546 n568 n587 n530 n549 B460 p510 p395)
def J_law07_ClockTurned_13 (W : World) (R : Ending → Hp → Prop) (b590 : Bool) (n305 : Int) (B332 : Nat) (B306 : Nat) (zn0 : Int) (za2 : Addr) (za3 : Addr) (za4 : Addr) (za5 : Addr) (x272 : Option Addr) (l273 : Nat) (c274 : Nat) (x275 : Option Addr) (l276 : Nat) (c277 : Nat) (x278 : Option Addr) (l279 : Nat) (c280 : Nat) (n565 : Int) (n584 : Int) (n412 : Int) (n431 : Int) (zn1 : Int) (n527 : Int) (n546 : Int) (n568 : Int) (n587 : Int) (n530 : Int) (n549 : Int) (B460 : Nat) (p510 : Option Addr) (p395 : Option Addr) (n511 : Int) (n459 : Int) : Hp → Prop :=
 BR b590
 (J_law07_ClockTurned_12 W R true n305 B332 B306 zn0 za2 za3 za4 za5 x272 l273 c274 x275 l276 c277 x278 l279 c280 n565 n584 n412 n431 zn1 n527 n546 n568 n587 n530 n549 B460 p510 p395 n511)
 (J_law07_ClockTurned_12 W R (n305 != n459) n305 B332 B306 zn0 za2 za3 za4 za5 x272 l273 c274 x275 l276 c277 x278 l279 c280 n565 n584 n412 n431 zn1 n527 n546 n568 n587 n530 n549 B460 p510 p395 n511)
def J_law07_ClockTurned_14 (W : World) (R : Ending → Hp → Prop) (b589 : Bool) (n305 : Int) (B332 : Nat) (B306 : Nat) (zn0 : Int) (za2 : Addr) (za3 : Addr) (za4 : Addr) (za5 : Addr) (x272 : Option Addr) (l273 : Nat) (c274 : Nat) (x275 : Option Addr) (l276 : Nat) (c277 : Nat) (x278 : Option Addr) (l279 : Nat) (c280 : Nat) (n565 : Int) (n584 : Int) (n412 : Int) (n431 : Int) (zn1 : Int) (n527 : Int) (n546 : Int) (n568 : Int) (n587 : Int) (n530 : Int) (n549 : Int) (B460 : Nat) (p510 : Option Addr) (p395 : Option Addr) (n511 : Int) (n459 : Int) (n434 : Int) : Hp → Prop :=
 BR b589
 (J_law07_ClockTurned_13 W R true n305 B332 B306 zn0 za2 za3 za4 za5 x272 l273 c274 x275 l276 c277 x278 l279 c280 n565 n584 n412 n431 zn1 n527 n546 n568 n587 n530 n549 B460 p510 p395 n511 n459)
 (J_law07_ClockTurned_13 W R (n305 != n434) n305 B332 B306 zn0 za2 za3 za4 za5 x272 l273 c274 x275 l276 c277 x278 l279 c280 n565 n584 n412 n431 zn1 n527 n546 n568 n587 n530 n549 B460 p510 p395 n511 n459)
def J_law07_ClockTurned_15 (W : World) (R : Ending → Hp → Prop) (b588 : Bool) (n305 : Int) (B332 : Nat) (B306 : Nat) (zn0 : Int) (za2 : Addr) (za3 : Addr) (za4 : Addr) (za5 : Addr) (x272 : Option Addr) (l273 : Nat) (c274 : Nat) (x275 : Option Addr) (l276 : Nat) (c277 : Nat) (x278 : Option Addr) (l279 : Nat) (c280 : Nat) (n565 : Int) (n584 : Int) (n412 : Int) (n431 : Int) (zn1 : Int) (n527 : Int) (n546 : Int) (n568 : Int) (n587 : Int) (n530 : Int) (n549 : Int) (B460 : Nat) (p510 : Option Addr) (p395 : Option Addr) (n511 : Int) (n459 : Int) (n434 : Int) (n415 : Int) : Hp → Prop :=
 BR b588
 (J_law07_ClockTurned_14 W R true n305 B332 B306 zn0 za2 za3 za4 za5 x272 l273 c274 x275 l276 c277 x278 l279 c280 n565 n584 n412 n431 zn1 n527 n546 n568 n587 n530 n549 B460 p510 p395 n511 n459 n434)
 (J_law07_ClockTurned_14 W R (n305 != n415) n305 B332 B306 zn0 za2 za3 za4 za5 x272 l273 c274 x275 l276 c277 x278 l279 c280 n565 n584 n412 n431 zn1 n527 n546 n568 n587 n530 n549 B460 p510 p395 n511 n459 n434)
def J_law07_ClockTurned_16 (W : World) (R : Ending → Hp → Prop) (za2 : Addr) (za5 : Addr) (n305 : Int) (n331 : Int) (B332 : Nat) (B306 : Nat) (zn0 : Int) (za3 : Addr) (za4 : Addr) (x272 : Option Addr) (l273 : Nat) (c274 : Nat) (x275 : Option Addr) (l276 : Nat) (c277 : Nat) (x278 : Option Addr) (l279 : Nat) (c280 : Nat) (n412 : Int) (n431 : Int) (zn1 : Int) (B460 : Nat) (p510 : Option Addr) (p395 : Option Addr) (n511 : Int) (n459 : Int) (n434 : Int) (n415 : Int) (n396 : Int) : Hp → Prop :=
 RDL (Addr.add za2 0) fun x512 l513 c514 =>
 RDI .i64 (Addr.add za2 1) fun n515 =>
 RDL (Addr.add za2 2) fun x516 l517 c518 =>
 RDL (Addr.add za2 3) fun x519 l520 c521 =>
 CALL Pg W F_clock_Drop [(.agg #[(.slice x512 l513 c514), (.int .i64 n515), (.slice x516 l517 c518), (.slice x519 l520 c521)])]
 (fun v522 => TUP v522 fun q524 => HD q524 fun v525 r526 => TYI .i64 v525 fun n527 =>
 HD r526 fun v528 r529 => TYI .i64 v528 fun n530 =>
 NL r529 <|
 RDL (Addr.add za5 0) fun x531 l532 c533 =>
 RDI .i64 (Addr.add za5 1) fun n534 =>
 RDL (Addr.add za5 2) fun x535 l536 c537 =>
 RDL (Addr.add za5 3) fun x538 l539 c540 =>
 CALL Pg W F_clock_Drop [(.agg #[(.slice x531 l532 c533), (.int .i64 n534), (.slice x535 l536 c537), (.slice x538 l539 c540)])]
 (fun v541 => TUP v541 fun q543 => HD q543 fun v544 r545 => TYI .i64 v544 fun n546 =>
 HD r545 fun v547 r548 => TYI .i64 v547 fun n549 =>
 NL r548 <|
 RDL (Addr.add za2 0) fun x550 l551 c552 =>
 RDI .i64 (Addr.add za2 1) fun n553 =>
 RDL (Addr.add za2 2) fun x554 l555 c556 =>
 RDL (Addr.add za2 3) fun x557 l558 c559 =>
 CALL Pg W F_clock_Wrong [(.agg #[(.slice x550 l551 c552), (.int .i64 n553), (.slice x554 l555 c556), (.slice x557 l558 c559)])]
 (fun v560 => TUP v560 fun q562 => HD q562 fun v563 r564 => TYI .i64 v563 fun n565 =>
 HD r564 fun v566 r567 => TYI .i64 v566 fun n568 =>
 NL r567 <|
 RDL (Addr.add za5 0) fun x569 l570 c571 =>
 RDI .i64 (Addr.add za5 1) fun n572 =>
 RDL (Addr.add za5 2) fun x573 l574 c575 =>
 RDL (Addr.add za5 3) fun x576 l577 c578 =>
 CALL Pg W F_clock_Wrong [(.agg #[(.slice x569 l570 c571), (.int .i64 n572), (.slice x573 l574 c575), (.slice x576 l577 c578)])]
 (fun v579 => TUP v579 fun q581 => HD q581 fun v582 r583 => TYI .i64 v582 fun n584 =>
 HD r583 fun v585 r586 => TYI .i64 v585 fun n587 =>
 NL r586 <|
 BR (n305 != n331)
 (J_law07_ClockTurned_15 W R true n305 B332 B306 zn0 za2 za3 za4 za5 x272 l273 c274 x275 l276 c277 x278 l279 c280 n565 n584 n412 n431 zn1 n527 n546 n568 n587 n530 n549 B460 p510 p395 n511 n459 n434 n415)
 (J_law07_ClockTurned_15 W R (n305 != n396) n305 B332 B306 zn0 za2 za3 za4 za5 x272 l273 c274 x275 l276 c277 x278 l279 c280 n565 n584 n412 n431 zn1 n527 n546 n568 n587 n530 n549 B460 p510 p395 n511 n459 n434 n415))
 (fun e580 => R (.panicked e580)))
 (fun e561 => R (.panicked e561)))
 (fun e542 => R (.panicked e542)))
 (fun e523 => R (.panicked e523))
def J_law07_ClockTurned_17 (W : World) (R : Ending → Hp → Prop) (za2 : Addr) (zn0 : Int) (zn1 : Int) (za5 : Addr) (za3 : Addr) (n305 : Int) (n331 : Int) (B332 : Nat) (B306 : Nat) (za4 : Addr) (x272 : Option Addr) (l273 : Nat) (c274 : Nat) (x275 : Option Addr) (l276 : Nat) (c277 : Nat) (x278 : Option Addr) (l279 : Nat) (c280 : Nat) (p395 : Option Addr) (n396 : Int) : Hp → Prop :=
 RDL (Addr.add za2 0) fun x397 l398 c399 =>
 RDI .i64 (Addr.add za2 1) fun n400 =>
 RDL (Addr.add za2 2) fun x401 l402 c403 =>
 RDL (Addr.add za2 3) fun x404 l405 c406 =>
 CALL Pg W F_clock_First [(.agg #[(.slice x397 l398 c399), (.int .i64 n400), (.slice x401 l402 c403), (.slice x404 l405 c406)]), (.int .i64 zn0), (.int .i64 zn1)]
 (fun v407 => TUP v407 fun q409 => HD q409 fun v410 r411 => TYI .i64 v410 fun n412 =>
 HD r411 fun v413 r414 => TYI .i64 v413 fun n415 =>
 NL r414 <|
 RDL (Addr.add za2 0) fun x416 l417 c418 =>
 RDI .i64 (Addr.add za2 1) fun n419 =>
 RDL (Addr.add za2 2) fun x420 l421 c422 =>
 RDL (Addr.add za2 3) fun x423 l424 c425 =>
 CALL Pg W F_clock_First [(.agg #[(.slice x416 l417 c418), (.int .i64 n419), (.slice x420 l421 c422), (.slice x423 l424 c425)]), (.int .i64 zn1), (.int .i64 zn0)]
 (fun v426 => TUP v426 fun q428 => HD q428 fun v429 r430 => TYI .i64 v429 fun n431 =>
 HD r430 fun v432 r433 => TYI .i64 v432 fun n434 =>
 NL r433 <|
 RDL (Addr.add za2 0) fun x435 l436 c437 =>
 RDI .i64 (Addr.add za2 1) fun n438 =>
 RDL (Addr.add za2 2) fun x439 l440 c441 =>
 RDL (Addr.add za2 3) fun x442 l443 c444 =>
 CALL Pg W F_clock_When [(.agg #[(.slice x435 l436 c437), (.int .i64 n438), (.slice x439 l440 c441), (.slice x442 l443 c444)]), (.int .i64 zn0)]
 (fun v445 => TUP v445 fun q447 => HD q447 fun v448 r449 => AGG v448 fun q450 => HD q450 fun v451 r452 => TYI .i64 v451 fun n453 =>
 HD r452 fun v454 r455 => TYI .i64 v454 fun n456 =>
 NL r455 <|
 HD r449 fun v457 r458 => TYI .i64 v457 fun n459 =>
 NL r458 <|
 NEWZ Pg 34 fun B460 =>
 WR (Addr.add ⟨B460, 0, none⟩ 0) (.int .i64 n453) <|
 WR (Addr.add ⟨B460, 0, none⟩ 1) (.int .i64 n456) <|
 RDL (Addr.add za5 0) fun x461 l462 c463 =>
 RDI .i64 (Addr.add za5 1) fun n464 =>
 RDL (Addr.add za5 2) fun x465 l466 c467 =>
 RDL (Addr.add za5 3) fun x468 l469 c470 =>
 CONJ [
 CALLV Pg W (.func (.func 32) #[] #[(.pointer (some za3)), (.pointer (some za2))]) [(.int .i64 zn0)]
 (fun v471 => TYI .i64 v471 fun n473 =>
 ANDS (RDL (Addr.add za5 0) fun x474 l475 c476 =>
 RDI .i64 (Addr.add za5 1) fun n477 =>
 RDL (Addr.add za5 2) fun x478 l479 c480 =>
 RDL (Addr.add za5 3) fun x481 l482 c483 =>
 fun _ => ((.agg #[(.slice x474 l475 c476), (.int .i64 n477), (.slice x478 l479 c480), (.slice x481 l482 c483)]) : Value) = (.agg #[(.slice x461 l462 c463), (.int .i64 n464), (.slice x465 l466 c467), (.slice x468 l469 c470)])) <|
 CONJ [
 CALL Pg W F_clock_When [(.agg #[(.slice x461 l462 c463), (.int .i64 n464), (.slice x465 l466 c467), (.slice x468 l469 c470)]), (.int .i64 n473)]
 (fun v484 => TUP v484 fun q486 => HD q486 fun v487 r488 => AGG v487 fun q489 => HD q489 fun v490 r491 => TYI .i64 v490 fun n492 =>
 HD r491 fun v493 r494 => TYI .i64 v493 fun n495 =>
 NL r494 <|
 HD r488 fun v496 r497 => TYI .i64 v496 fun n498 =>
 NL r497 <|
 NEWZ Pg 34 fun B499 =>
 ANDS (RDL (Addr.add za5 0) fun x500 l501 c502 =>
 RDI .i64 (Addr.add za5 1) fun n503 =>
 RDL (Addr.add za5 2) fun x504 l505 c506 =>
 RDL (Addr.add za5 3) fun x507 l508 c509 =>
 fun _ => ((.agg #[(.slice x500 l501 c502), (.int .i64 n503), (.slice x504 l505 c506), (.slice x507 l508 c509)]) : Value) = (.agg #[(.slice x461 l462 c463), (.int .i64 n464), (.slice x465 l466 c467), (.slice x468 l469 c470)])) <|
 WR (Addr.add ⟨B499, 0, none⟩ 0) (.int .i64 n492) <|
 WR (Addr.add ⟨B499, 0, none⟩ 1) (.int .i64 n495) <|
 J_law07_ClockTurned_16 W R za2 za5 n305 n331 B332 B306 zn0 za3 za4 x272 l273 c274 x275 l276 c277 x278 l279 c280 n412 n431 zn1 B460 (some ⟨B499, 0, none⟩) p395 n498 n459 n434 n415 n396)
 (fun e485 => R (.panicked e485)),
 NEWZ Pg 34 fun B664 =>
 ANDS (RDL (Addr.add za5 0) fun x665 l666 c667 =>
 RDI .i64 (Addr.add za5 1) fun n668 =>
 RDL (Addr.add za5 2) fun x669 l670 c671 =>
 RDL (Addr.add za5 3) fun x672 l673 c674 =>
 fun _ => ((.agg #[(.slice x665 l666 c667), (.int .i64 n668), (.slice x669 l670 c671), (.slice x672 l673 c674)]) : Value) = (.agg #[(.slice x461 l462 c463), (.int .i64 n464), (.slice x465 l466 c467), (.slice x468 l469 c470)])) <|
 CALL Pg W F_clock_When [(.agg #[(.slice x461 l462 c463), (.int .i64 n464), (.slice x465 l466 c467), (.slice x468 l469 c470)]), (.int .i64 n473)]
 (fun v675 => TUP v675 fun q677 => HD q677 fun v678 r679 => AGG v678 fun q680 => HD q680 fun v681 r682 => TYI .i64 v681 fun n683 =>
 HD r682 fun v684 r685 => TYI .i64 v684 fun n686 =>
 NL r685 <|
 HD r679 fun v687 r688 => TYI .i64 v687 fun n689 =>
 NL r688 <|
 WR (Addr.add ⟨B664, 0, none⟩ 0) (.int .i64 n683) <|
 WR (Addr.add ⟨B664, 0, none⟩ 1) (.int .i64 n686) <|
 J_law07_ClockTurned_16 W R za2 za5 n305 n331 B332 B306 zn0 za3 za4 x272 l273 c274 x275 l276 c277 x278 l279 c280 n412 n431 zn1 B460 (some ⟨B664, 0, none⟩) p395 n689 n459 n434 n415 n396)
 (fun e676 => R (.panicked e676))])
 (fun e472 => R (.panicked e472)),
 NEWZ Pg 34 fun B690 =>
 ANDS (RDL (Addr.add za5 0) fun x691 l692 c693 =>
 RDI .i64 (Addr.add za5 1) fun n694 =>
 RDL (Addr.add za5 2) fun x695 l696 c697 =>
 RDL (Addr.add za5 3) fun x698 l699 c700 =>
 fun _ => ((.agg #[(.slice x691 l692 c693), (.int .i64 n694), (.slice x695 l696 c697), (.slice x698 l699 c700)]) : Value) = (.agg #[(.slice x461 l462 c463), (.int .i64 n464), (.slice x465 l466 c467), (.slice x468 l469 c470)])) <|
 CALLV Pg W (.func (.func 32) #[] #[(.pointer (some za3)), (.pointer (some za2))]) [(.int .i64 zn0)]
 (fun v701 => TYI .i64 v701 fun n703 =>
 ANDS (RDL (Addr.add za5 0) fun x704 l705 c706 =>
 RDI .i64 (Addr.add za5 1) fun n707 =>
 RDL (Addr.add za5 2) fun x708 l709 c710 =>
 RDL (Addr.add za5 3) fun x711 l712 c713 =>
 fun _ => ((.agg #[(.slice x704 l705 c706), (.int .i64 n707), (.slice x708 l709 c710), (.slice x711 l712 c713)]) : Value) = (.agg #[(.slice x461 l462 c463), (.int .i64 n464), (.slice x465 l466 c467), (.slice x468 l469 c470)])) <|
 CALL Pg W F_clock_When [(.agg #[(.slice x461 l462 c463), (.int .i64 n464), (.slice x465 l466 c467), (.slice x468 l469 c470)]), (.int .i64 n703)]
 (fun v714 => TUP v714 fun q716 => HD q716 fun v717 r718 => AGG v717 fun q719 => HD q719 fun v720 r721 => TYI .i64 v720 fun n722 =>
 HD r721 fun v723 r724 => TYI .i64 v723 fun n725 =>
 NL r724 <|
 HD r718 fun v726 r727 => TYI .i64 v726 fun n728 =>
 NL r727 <|
 WR (Addr.add ⟨B690, 0, none⟩ 0) (.int .i64 n722) <|
 WR (Addr.add ⟨B690, 0, none⟩ 1) (.int .i64 n725) <|
 J_law07_ClockTurned_16 W R za2 za5 n305 n331 B332 B306 zn0 za3 za4 x272 l273 c274 x275 l276 c277 x278 l279 c280 n412 n431 zn1 B460 (some ⟨B690, 0, none⟩) p395 n728 n459 n434 n415 n396)
 (fun e715 => R (.panicked e715)))
 (fun e702 => R (.panicked e702))])
 (fun e446 => R (.panicked e446)))
 (fun e427 => R (.panicked e427)))
 (fun e408 => R (.panicked e408))
def J_law07_ClockTurned_18 (W : World) (R : Ending → Hp → Prop) (b1126 : Bool) (zn0 : Int) (za1 : Addr) (za3 : Addr) (za4 : Addr) (za5 : Addr) (zp6 : Option Addr) (zl7 : Nat) (zl8 : Nat) (zp9 : Option Addr) (zl10 : Nat) (zl11 : Nat) (zp12 : Option Addr) (zl13 : Nat) (zl14 : Nat) (zn15 : Int) (zn16 : Int) (zn21 : Int) (nx3 : List Value → Hp → Prop) (zb2 : Bool) (zn17 : Int) : Hp → Prop :=
 BR b1126
 (R (.returned (.bool false)))
 (NX [(.int .i64 zn0), (.pointer (some za1)), (.func (.func 32) #[] #[(.pointer (some za3)), (.pointer (some za1))]), (.func (.func 33) #[] #[(.pointer (some za4)), (.pointer (some za1))]), (.pointer (some za5)), (.slice zp6 zl7 zl8), (.slice zp9 zl10 zl11), (.slice zp12 zl13 zl14), (.int .i64 zn15), (.int .i64 zn16), (.int .i64 zn21), (.tuple #[])] [(.int .i64 zn0), (.pointer (some za1)), (.func (.func 32) #[] #[(.pointer (some za3)), (.pointer (some za1))]), (.func (.func 33) #[] #[(.pointer (some za4)), (.pointer (some za1))]), (.pointer (some za5)), (.slice zp6 zl7 zl8), (.slice zp9 zl10 zl11), (.slice zp12 zl13 zl14), (.int .i64 zn15), (.int .i64 zn16), (.int .i64 zn21), (.tuple #[])] (nx3 [(.bool zb2), (.int .i64 (IntKind.wrap .i64 (zn17 + 1)))]))
def J_law07_ClockTurned_19 (W : World) (R : Ending → Hp → Prop) (b1125 : Bool) (zn0 : Int) (za1 : Addr) (za3 : Addr) (za4 : Addr) (za5 : Addr) (zp6 : Option Addr) (zl7 : Nat) (zl8 : Nat) (zp9 : Option Addr) (zl10 : Nat) (zl11 : Nat) (zp12 : Option Addr) (zl13 : Nat) (zl14 : Nat) (zn15 : Int) (zn16 : Int) (zn21 : Int) (nx3 : List Value → Hp → Prop) (zb2 : Bool) (zn17 : Int) : Hp → Prop :=
 BR b1125
 (J_law07_ClockTurned_18 W R true zn0 za1 za3 za4 za5 zp6 zl7 zl8 zp9 zl10 zl11 zp12 zl13 zl14 zn15 zn16 zn21 nx3 zb2 zn17)
 (IXS zp12 zl13 zn17 4 fun a1127 =>
 RDI .i64 (Addr.add a1127 0) fun n1128 =>
 RDI .i64 (Addr.add a1127 1) fun n1129 =>
 RDI .i64 (Addr.add a1127 2) fun n1130 =>
 RDI .i64 (Addr.add a1127 3) fun n1131 =>
 RDL (Addr.add za1 0) fun x1132 l1133 c1134 =>
 IXS x1132 l1133 zn17 4 fun a1135 =>
 RDI .i64 (Addr.add a1135 0) fun n1136 =>
 RDI .i64 (Addr.add a1135 1) fun n1137 =>
 RDI .i64 (Addr.add a1135 2) fun n1138 =>
 RDI .i64 (Addr.add a1135 3) fun n1139 =>
 J_law07_ClockTurned_18 W R (!((n1128 == n1136) && ((n1129 == n1137) && ((n1130 == n1138) && (n1131 == n1139))))) zn0 za1 za3 za4 za5 zp6 zl7 zl8 zp9 zl10 zl11 zp12 zl13 zl14 zn15 zn16 zn21 nx3 zb2 zn17)
def J_law07_ClockTurned_20 (W : World) (R : Ending → Hp → Prop) (b1110 : Bool) (zn0 : Int) (za1 : Addr) (za3 : Addr) (za4 : Addr) (za5 : Addr) (zp6 : Option Addr) (zl7 : Nat) (zl8 : Nat) (zp9 : Option Addr) (zl10 : Nat) (zl11 : Nat) (zp12 : Option Addr) (zl13 : Nat) (zl14 : Nat) (zn15 : Int) (zn16 : Int) (zn21 : Int) (nx3 : List Value → Hp → Prop) (zb2 : Bool) (zn17 : Int) : Hp → Prop :=
 BR b1110
 (J_law07_ClockTurned_19 W R true zn0 za1 za3 za4 za5 zp6 zl7 zl8 zp9 zl10 zl11 zp12 zl13 zl14 zn15 zn16 zn21 nx3 zb2 zn17)
 (NNI zn17 <|
 CALLV Pg W (.func (.func 33) #[] #[(.pointer (some za4)), (.pointer (some za1))]) [(.int .i64 zn17)]
 (fun v1140 => TYI .i64 v1140 fun n1142 =>
 NNI n1142 <|
 J_law07_ClockTurned_19 W R ((andv .i64 (shrv .i64 zn15 zn17) 1) != (andv .i64 (shrv .i64 zn16 n1142) 1)) zn0 za1 za3 za4 za5 zp6 zl7 zl8 zp9 zl10 zl11 zp12 zl13 zl14 zn15 zn16 zn21 nx3 zb2 zn17)
 (fun e1141 => R (.panicked e1141)))
def J_law07_ClockTurned_21 (W : World) (R : Ending → Hp → Prop) (b1095 : Bool) (zn0 : Int) (za1 : Addr) (za3 : Addr) (za4 : Addr) (za5 : Addr) (zp6 : Option Addr) (zl7 : Nat) (zl8 : Nat) (zp9 : Option Addr) (zl10 : Nat) (zl11 : Nat) (zp12 : Option Addr) (zl13 : Nat) (zl14 : Nat) (zn15 : Int) (zn16 : Int) (zn21 : Int) (nx3 : List Value → Hp → Prop) (zb2 : Bool) (zn17 : Int) (n991 : Int) (n1056 : Int) : Hp → Prop :=
 BR b1095
 (J_law07_ClockTurned_20 W R true zn0 za1 za3 za4 za5 zp6 zl7 zl8 zp9 zl10 zl11 zp12 zl13 zl14 zn15 zn16 zn21 nx3 zb2 zn17)
 (J_law07_ClockTurned_20 W R (n991 != n1056) zn0 za1 za3 za4 za5 zp6 zl7 zl8 zp9 zl10 zl11 zp12 zl13 zl14 zn15 zn16 zn21 nx3 zb2 zn17)
def J_law07_ClockTurned_22 (W : World) (R : Ending → Hp → Prop) (b1080 : Bool) (zn0 : Int) (za1 : Addr) (za3 : Addr) (za4 : Addr) (za5 : Addr) (zp6 : Option Addr) (zl7 : Nat) (zl8 : Nat) (zp9 : Option Addr) (zl10 : Nat) (zl11 : Nat) (zp12 : Option Addr) (zl13 : Nat) (zl14 : Nat) (zn15 : Int) (zn16 : Int) (zn21 : Int) (nx3 : List Value → Hp → Prop) (zb2 : Bool) (zn17 : Int) (n991 : Int) (n1056 : Int) (B992 : Nat) (p1055 : Option Addr) : Hp → Prop :=
 BR b1080
 (J_law07_ClockTurned_21 W R true zn0 za1 za3 za4 za5 zp6 zl7 zl8 zp9 zl10 zl11 zp12 zl13 zl14 zn15 zn16 zn21 nx3 zb2 zn17 n991 n1056)
 (RDI .i64 (Addr.add ⟨B992, 0, none⟩ 0) fun n1143 =>
 RDI .i64 (Addr.add ⟨B992, 0, none⟩ 1) fun n1144 =>
 SO p1055 fun a1145 =>
 RDI .i64 (Addr.add a1145 0) fun n1146 =>
 RDI .i64 (Addr.add a1145 1) fun n1147 =>
 J_law07_ClockTurned_21 W R (!((n1143 == n1146) && (n1144 == n1147))) zn0 za1 za3 za4 za5 zp6 zl7 zl8 zp9 zl10 zl11 zp12 zl13 zl14 zn15 zn16 zn21 nx3 zb2 zn17 n991 n1056)
def J_law07_ClockTurned_23 (W : World) (R : Ending → Hp → Prop) (b1070 : Bool) (zn0 : Int) (za1 : Addr) (za3 : Addr) (za4 : Addr) (za5 : Addr) (zp6 : Option Addr) (zl7 : Nat) (zl8 : Nat) (zp9 : Option Addr) (zl10 : Nat) (zl11 : Nat) (zp12 : Option Addr) (zl13 : Nat) (zl14 : Nat) (zn15 : Int) (zn16 : Int) (zn21 : Int) (nx3 : List Value → Hp → Prop) (zb2 : Bool) (zn17 : Int) (n991 : Int) (n1056 : Int) (B992 : Nat) (p1055 : Option Addr) (zn20 : Int) (n966 : Int) : Hp → Prop :=
 BR b1070
 (J_law07_ClockTurned_22 W R true zn0 za1 za3 za4 za5 zp6 zl7 zl8 zp9 zl10 zl11 zp12 zl13 zl14 zn15 zn16 zn21 nx3 zb2 zn17 n991 n1056 B992 p1055)
 (J_law07_ClockTurned_22 W R (zn20 != n966) zn0 za1 za3 za4 za5 zp6 zl7 zl8 zp9 zl10 zl11 zp12 zl13 zl14 zn15 zn16 zn21 nx3 zb2 zn17 n991 n1056 B992 p1055)
def J_law07_ClockTurned_24 (W : World) (R : Ending → Hp → Prop) (za18 : Addr) (a964 : Addr) (zn0 : Int) (za1 : Addr) (za3 : Addr) (za4 : Addr) (za5 : Addr) (zp6 : Option Addr) (zl7 : Nat) (zl8 : Nat) (zp9 : Option Addr) (zl10 : Nat) (zl11 : Nat) (zp12 : Option Addr) (zl13 : Nat) (zl14 : Nat) (zn15 : Int) (zn16 : Int) (zn21 : Int) (nx3 : List Value → Hp → Prop) (zb2 : Bool) (zn17 : Int) (n991 : Int) (n1056 : Int) (B992 : Nat) (p1055 : Option Addr) (zn20 : Int) (n966 : Int) (za19 : Addr) (a965 : Addr) : Hp → Prop :=
 RDI .i64 (Addr.add za18 0) fun n1057 =>
 RDI .i64 (Addr.add za18 1) fun n1058 =>
 RDI .i64 (Addr.add a964 0) fun n1059 =>
 RDI .i64 (Addr.add a964 1) fun n1060 =>
 BR (!((n1057 == n1059) && (n1058 == n1060)))
 (J_law07_ClockTurned_23 W R true zn0 za1 za3 za4 za5 zp6 zl7 zl8 zp9 zl10 zl11 zp12 zl13 zl14 zn15 zn16 zn21 nx3 zb2 zn17 n991 n1056 B992 p1055 zn20 n966)
 (RDI .i64 (Addr.add za19 0) fun n1148 =>
 RDI .i64 (Addr.add za19 1) fun n1149 =>
 RDI .i64 (Addr.add a965 0) fun n1150 =>
 RDI .i64 (Addr.add a965 1) fun n1151 =>
 J_law07_ClockTurned_23 W R (!((n1148 == n1150) && (n1149 == n1151))) zn0 za1 za3 za4 za5 zp6 zl7 zl8 zp9 zl10 zl11 zp12 zl13 zl14 zn15 zn16 zn21 nx3 zb2 zn17 n991 n1056 B992 p1055 zn20 n966)
def B_law07_ClockTurned_0 (W : World) (R : Ending → Hp → Prop) (zn0 : Int) (zn1 : Int) (za2 : Addr) (za3 : Addr) (za4 : Addr) (za5 : Addr) (zp6 : Option Addr) (zl7 : Nat) (zl8 : Nat) (zn9 : Int) (n94 : Int) (nx0 : List Value → Hp → Prop) : Hp → Prop :=
 BR (decide (n94 < zn9))
 (IXS zp6 zl7 n94 4 fun a95 =>
 RDI .i64 (Addr.add a95 0) fun n96 =>
 RDI .i64 (Addr.add a95 1) fun n97 =>
 RDI .i64 (Addr.add a95 2) fun n98 =>
 RDI .i64 (Addr.add a95 3) fun n99 =>
 NEWZ Pg 66 fun B100 =>
 WR (Addr.add ⟨B100, 0, none⟩ 0) (.int .i64 n96) <|
 WR (Addr.add ⟨B100, 0, none⟩ 1) (.int .i64 n97) <|
 WR (Addr.add ⟨B100, 0, none⟩ 2) (.int .i64 n98) <|
 WR (Addr.add ⟨B100, 0, none⟩ 3) (.int .i64 n99) <|
 RDL (Addr.add za5 0) fun x101 l102 c103 =>
 RDI .i64 (Addr.add ⟨B100, 0, none⟩ 0) fun n104 =>
 RDI .i64 (Addr.add ⟨B100, 0, none⟩ 1) fun n105 =>
 RDI .i64 (Addr.add ⟨B100, 0, none⟩ 2) fun n106 =>
 RDI .i64 (Addr.add ⟨B100, 0, none⟩ 3) fun n107 =>
 CALLV Pg W (.func (.func 33) #[] #[(.pointer (some za4)), (.pointer (some za2))]) [(.int .i64 n94)]
 (fun v108 => TYI .i64 v108 fun n110 =>
 ANDS (RDI .i64 (Addr.add ⟨B100, 0, none⟩ 0) fun n111 =>
 RDI .i64 (Addr.add ⟨B100, 0, none⟩ 1) fun n112 =>
 RDI .i64 (Addr.add ⟨B100, 0, none⟩ 2) fun n113 =>
 RDI .i64 (Addr.add ⟨B100, 0, none⟩ 3) fun n114 =>
 fun _ => ((.agg #[(.int .i64 n111), (.int .i64 n112), (.int .i64 n113), (.int .i64 n114)]) : Value) = (.agg #[(.int .i64 n104), (.int .i64 n105), (.int .i64 n106), (.int .i64 n107)])) <|
 ANDS (RDL (Addr.add za5 0) fun x115 l116 c117 =>
 fun _ => ((.slice x115 l116 c117) : Value) = (.slice x101 l102 c103)) <|
 IXS x101 l102 n110 4 fun a118 =>
 WR (Addr.add a118 0) (.int .i64 n104) <|
 WR (Addr.add a118 1) (.int .i64 n105) <|
 WR (Addr.add a118 2) (.int .i64 n106) <|
 WR (Addr.add a118 3) (.int .i64 n107) <|
 NX [(.int .i64 zn0), (.int .i64 zn1), (.pointer (some za2)), (.bool false), (.func (.func 32) #[] #[(.pointer (some za3)), (.pointer (some za2))]), (.func (.func 33) #[] #[(.pointer (some za4)), (.pointer (some za2))]), (.pointer (some za5)), (.slice zp6 zl7 zl8), (.int .i64 zn9), (.tuple #[])] [(.int .i64 zn0), (.int .i64 zn1), (.pointer (some za2)), (.bool false), (.func (.func 32) #[] #[(.pointer (some za3)), (.pointer (some za2))]), (.func (.func 33) #[] #[(.pointer (some za4)), (.pointer (some za2))]), (.pointer (some za5)), (.slice zp6 zl7 zl8), (.int .i64 zn9), (.tuple #[])] (nx0 [(.int .i64 (IntKind.wrap .i64 (n94 + 1)))]))
 (fun e109 => R (.panicked e109)))
 (RDL (Addr.add za2 2) fun x119 l120 c121 =>
 L_law07_ClockTurned_1 W R zn0 zn1 za2 za3 za4 za5 (↑l120 : Int) 0)
theorem B_law07_ClockTurned_0_eq (W : World) (R : Ending → Hp → Prop) (zn0 : Int) (zn1 : Int) (za2 : Addr) (za3 : Addr) (za4 : Addr) (za5 : Addr) (zp6 : Option Addr) (zl7 : Nat) (zl8 : Nat) (zn9 : Int) (n94 : Int) (nx0 : List Value → Hp → Prop) (j : Tm) : vc Pg W 477 rs_7 an_7 false (sub (bodyOf Try.f7) [1, 1, 1, 1, 1, 1, 0, 1, 0, 0]) 0 (KLoop [91] [1, 2, 5, 10, 11, 12, 13, 89, 90, 477] [(.int .i64 zn0), (.int .i64 zn1), (.pointer (some za2)), (.bool false), (.func (.func 32) #[] #[(.pointer (some za3)), (.pointer (some za2))]), (.func (.func 33) #[] #[(.pointer (some za4)), (.pointer (some za2))]), (.pointer (some za5)), (.slice zp6 zl7 zl8), (.int .i64 zn9), (.tuple #[])] nx0 (KBlk 0 (KS Pg W 477 rs_7 an_7 false (sub (bodyOf Try.f7) [1, 1, 1, 1, 1, 1, 1]) 0 (fin Pg W 477 rv_7 R)))) (known [91] [(.int .i64 n94)] (known [1, 2, 5, 10, 11, 12, 13, 89, 90, 477] [(.int .i64 zn0), (.int .i64 zn1), (.pointer (some za2)), (.bool false), (.func (.func 32) #[] #[(.pointer (some za3)), (.pointer (some za2))]), (.func (.func 33) #[] #[(.pointer (some za4)), (.pointer (some za2))]), (.pointer (some za5)), (.slice zp6 zl7 zl8), (.int .i64 zn9), (.tuple #[])] j)) = B_law07_ClockTurned_0 W R zn0 zn1 za2 za3 za4 za5 zp6 zl7 zl8 zn9 n94 nx0 := by kernel_rfl
def N_law07_ClockTurned_0 (I : Int → Hp → Prop) (μ : Int → Hp → Nat) (n940 : Int) (s : Hp) (vs : List Value) : Hp → Prop := fun s' => ∃ n94, vs = [(.int .i64 n94)] ∧ I n94 s' ∧ μ n94 s' < μ n940 s
theorem L_law07_ClockTurned_0_rule (W : World) (R : Ending → Hp → Prop) (zn0 : Int) (zn1 : Int) (za2 : Addr) (za3 : Addr) (za4 : Addr) (za5 : Addr) (zp6 : Option Addr) (zl7 : Nat) (zl8 : Nat) (zn9 : Int) (I : Int → Hp → Prop) (μ : Int → Hp → Nat) (n940 : Int) (s : Hp) (h0 : I n940 s)
    (hr : ∀ (n94 : Int) (s : Hp), I n94 s → B_law07_ClockTurned_0 W R zn0 zn1 za2 za3 za4 za5 zp6 zl7 zl8 zn9 n94 (fun vs => N_law07_ClockTurned_0 I μ n94 s vs) s) : L_law07_ClockTurned_0 W R zn0 zn1 za2 za3 za4 za5 zp6 zl7 zl8 zn9 n940 s := by
  refine ⟨fun vs s => ∃ n94, vs = [(.int .i64 n94)] ∧ I n94 s, fun vs s => (match vs with | [.int _ n94] => μ n94 s | _ => 0), ⟨⟨⟨_, rfl⟩, trivial⟩, ⟨_, rfl, h0⟩⟩, ?_⟩
  intro n94 s hI j
  obtain ⟨n94', hy, hI⟩ := hI
  have hI' : I n94 s := by cases hy; exact hI
  have hh := hr n94 s hI'
  rw [← B_law07_ClockTurned_0_eq W R zn0 zn1 za2 za3 za4 za5 zp6 zl7 zl8 zn9 n94 _ j] at hh
  refine vc_mono ?_ _ _ hh
  exact KLoop_mono (fun vs s' h => by obtain ⟨n941, rfl, h1, h2⟩ := h; exact ⟨⟨⟨_, rfl⟩, trivial⟩, ⟨_, rfl, h1⟩, h2⟩)
def B_law07_ClockTurned_1 (W : World) (R : Ending → Hp → Prop) (zn0 : Int) (zn1 : Int) (za2 : Addr) (za3 : Addr) (za4 : Addr) (za5 : Addr) (zn6 : Int) (n122 : Int) (nx1 : List Value → Hp → Prop) : Hp → Prop :=
 BR (decide (n122 < zn6))
 (RDL (Addr.add za2 2) fun x123 l124 c125 =>
 RDL (Addr.add za2 2) fun x126 l127 c128 =>
 IXS x123 l124 (IntKind.wrap .i64 ((IntKind.wrap .i64 ((↑l127 : Int) - 1)) - n122)) 3 fun a129 =>
 RDI .i64 (Addr.add a129 0) fun n130 =>
 RDI .i64 (Addr.add a129 1) fun n131 =>
 RDI .i64 (Addr.add a129 2) fun n132 =>
 NEWZ Pg 61 fun B133 =>
 WR (Addr.add ⟨B133, 0, none⟩ 0) (.int .i64 n130) <|
 WR (Addr.add ⟨B133, 0, none⟩ 1) (.int .i64 n131) <|
 WR (Addr.add ⟨B133, 0, none⟩ 2) (.int .i64 n132) <|
 RDL (Addr.add za5 2) fun x134 l135 c136 =>
 RDI .i64 (Addr.add ⟨B133, 0, none⟩ 0) fun n137 =>
 RDI .i64 (Addr.add ⟨B133, 0, none⟩ 1) fun n138 =>
 RDI .i64 (Addr.add ⟨B133, 0, none⟩ 2) fun n139 =>
 CALLV Pg W (.func (.func 32) #[] #[(.pointer (some za3)), (.pointer (some za2))]) [(.int .i64 n137)]
 (fun v140 => TYI .i64 v140 fun n142 =>
 ANDS (RDI .i64 (Addr.add ⟨B133, 0, none⟩ 2) fun n143 =>
 fun _ => ((.int .i64 n143) : Value) = (.int .i64 n139)) <|
 ANDS (RDI .i64 (Addr.add ⟨B133, 0, none⟩ 1) fun n144 =>
 fun _ => ((.int .i64 n144) : Value) = (.int .i64 n138)) <|
 ANDS (RDL (Addr.add za5 2) fun x145 l146 c147 =>
 fun _ => ((.slice x145 l146 c147) : Value) = (.slice x134 l135 c136)) <|
 CALLV Pg W (.func (.func 33) #[] #[(.pointer (some za4)), (.pointer (some za2))]) [(.int .i64 n138)]
 (fun v148 => TYI .i64 v148 fun n150 =>
 ANDS (RDI .i64 (Addr.add ⟨B133, 0, none⟩ 2) fun n151 =>
 fun _ => ((.int .i64 n151) : Value) = (.int .i64 n139)) <|
 ANDS (RDL (Addr.add za5 2) fun x152 l153 c154 =>
 fun _ => ((.slice x152 l153 c154) : Value) = (.slice x134 l135 c136)) <|
 NEW 61 [(.int .i64 n142), (.int .i64 n150), (.int .i64 n139)] fun B155 =>
 ANDS (RDL (Addr.add za5 2) fun x156 l157 c158 =>
 fun _ => ((.slice x156 l157 c158) : Value) = (.slice x134 l135 c136)) <|
 APP Pg 61 3 x134 l135 c136 (some ⟨B155, 0, none⟩) 1 fun x159 l160 c161 =>
 WR (Addr.add (Addr.add za5 2) 0) (.slice x159 l160 c161) <|
 NX [(.int .i64 zn0), (.int .i64 zn1), (.pointer (some za2)), (.bool false), (.func (.func 32) #[] #[(.pointer (some za3)), (.pointer (some za2))]), (.func (.func 33) #[] #[(.pointer (some za4)), (.pointer (some za2))]), (.pointer (some za5)), (.int .i64 zn6), (.tuple #[])] [(.int .i64 zn0), (.int .i64 zn1), (.pointer (some za2)), (.bool false), (.func (.func 32) #[] #[(.pointer (some za3)), (.pointer (some za2))]), (.func (.func 33) #[] #[(.pointer (some za4)), (.pointer (some za2))]), (.pointer (some za5)), (.int .i64 zn6), (.tuple #[])] (nx1 [(.int .i64 (IntKind.wrap .i64 (n122 + 1)))]))
 (fun e149 => R (.panicked e149)))
 (fun e141 => R (.panicked e141)))
 (RDL (Addr.add za2 3) fun x162 l163 c164 =>
 L_law07_ClockTurned_2 W R zn0 zn1 za2 za3 za4 za5 (↑l163 : Int) 0)
theorem B_law07_ClockTurned_1_eq (W : World) (R : Ending → Hp → Prop) (zn0 : Int) (zn1 : Int) (za2 : Addr) (za3 : Addr) (za4 : Addr) (za5 : Addr) (zn6 : Int) (n122 : Int) (nx1 : List Value → Hp → Prop) (j : Tm) : vc Pg W 477 rs_7 an_7 false (sub (bodyOf Try.f7) [1, 1, 1, 1, 1, 1, 1, 0, 1, 0, 0]) 2 (KLoop [107] [1, 2, 5, 10, 11, 12, 13, 106, 477] [(.int .i64 zn0), (.int .i64 zn1), (.pointer (some za2)), (.bool false), (.func (.func 32) #[] #[(.pointer (some za3)), (.pointer (some za2))]), (.func (.func 33) #[] #[(.pointer (some za4)), (.pointer (some za2))]), (.pointer (some za5)), (.int .i64 zn6), (.tuple #[])] nx1 (KBlk 2 (KS Pg W 477 rs_7 an_7 false (sub (bodyOf Try.f7) [1, 1, 1, 1, 1, 1, 1, 1]) 0 (fin Pg W 477 rv_7 R)))) (known [107] [(.int .i64 n122)] (known [1, 2, 5, 10, 11, 12, 13, 106, 477] [(.int .i64 zn0), (.int .i64 zn1), (.pointer (some za2)), (.bool false), (.func (.func 32) #[] #[(.pointer (some za3)), (.pointer (some za2))]), (.func (.func 33) #[] #[(.pointer (some za4)), (.pointer (some za2))]), (.pointer (some za5)), (.int .i64 zn6), (.tuple #[])] j)) = B_law07_ClockTurned_1 W R zn0 zn1 za2 za3 za4 za5 zn6 n122 nx1 := by kernel_rfl
def N_law07_ClockTurned_1 (I : Int → Hp → Prop) (μ : Int → Hp → Nat) (n1220 : Int) (s : Hp) (vs : List Value) : Hp → Prop := fun s' => ∃ n122, vs = [(.int .i64 n122)] ∧ I n122 s' ∧ μ n122 s' < μ n1220 s
theorem L_law07_ClockTurned_1_rule (W : World) (R : Ending → Hp → Prop) (zn0 : Int) (zn1 : Int) (za2 : Addr) (za3 : Addr) (za4 : Addr) (za5 : Addr) (zn6 : Int) (I : Int → Hp → Prop) (μ : Int → Hp → Nat) (n1220 : Int) (s : Hp) (h0 : I n1220 s)
    (hr : ∀ (n122 : Int) (s : Hp), I n122 s → B_law07_ClockTurned_1 W R zn0 zn1 za2 za3 za4 za5 zn6 n122 (fun vs => N_law07_ClockTurned_1 I μ n122 s vs) s) : L_law07_ClockTurned_1 W R zn0 zn1 za2 za3 za4 za5 zn6 n1220 s := by
  refine ⟨fun vs s => ∃ n122, vs = [(.int .i64 n122)] ∧ I n122 s, fun vs s => (match vs with | [.int _ n122] => μ n122 s | _ => 0), ⟨⟨⟨_, rfl⟩, trivial⟩, ⟨_, rfl, h0⟩⟩, ?_⟩
  intro n122 s hI j
  obtain ⟨n122', hy, hI⟩ := hI
  have hI' : I n122 s := by cases hy; exact hI
  have hh := hr n122 s hI'
  rw [← B_law07_ClockTurned_1_eq W R zn0 zn1 za2 za3 za4 za5 zn6 n122 _ j] at hh
  refine vc_mono ?_ _ _ hh
  exact KLoop_mono (fun vs s' h => by obtain ⟨n1221, rfl, h1, h2⟩ := h; exact ⟨⟨⟨_, rfl⟩, trivial⟩, ⟨_, rfl, h1⟩, h2⟩)
def B_law07_ClockTurned_2 (W : World) (R : Ending → Hp → Prop) (zn0 : Int) (zn1 : Int) (za2 : Addr) (za3 : Addr) (za4 : Addr) (za5 : Addr) (zn6 : Int) (n165 : Int) (nx2 : List Value → Hp → Prop) : Hp → Prop :=
 BR (decide (n165 < zn6))
 (RDL (Addr.add za2 3) fun x166 l167 c168 =>
 RDL (Addr.add za2 3) fun x169 l170 c171 =>
 IXS x166 l167 (IntKind.wrap .i64 ((IntKind.wrap .i64 ((↑l170 : Int) - 1)) - n165)) 4 fun a172 =>
 RDI .i64 (Addr.add a172 0) fun n173 =>
 RDI .i64 (Addr.add a172 1) fun n174 =>
 RDI .i64 (Addr.add a172 2) fun n175 =>
 RDI .i64 (Addr.add a172 3) fun n176 =>
 NEWZ Pg 63 fun B177 =>
 WR (Addr.add ⟨B177, 0, none⟩ 0) (.int .i64 n173) <|
 WR (Addr.add ⟨B177, 0, none⟩ 1) (.int .i64 n174) <|
 WR (Addr.add ⟨B177, 0, none⟩ 2) (.int .i64 n175) <|
 WR (Addr.add ⟨B177, 0, none⟩ 3) (.int .i64 n176) <|
 RDL (Addr.add za5 3) fun x178 l179 c180 =>
 RDI .i64 (Addr.add ⟨B177, 0, none⟩ 1) fun n181 =>
 RDI .i64 (Addr.add ⟨B177, 0, none⟩ 0) fun n182 =>
 RDI .i64 (Addr.add (Addr.add ⟨B177, 0, none⟩ 2) 1) fun n183 =>
 RDI .i64 (Addr.add (Addr.add ⟨B177, 0, none⟩ 2) 0) fun n184 =>
 CALLV Pg W (.func (.func 32) #[] #[(.pointer (some za3)), (.pointer (some za2))]) [(.int .i64 n181)]
 (fun v185 => TYI .i64 v185 fun n187 =>
 ANDS (RDI .i64 (Addr.add (Addr.add ⟨B177, 0, none⟩ 2) 0) fun n188 =>
 fun _ => ((.int .i64 n188) : Value) = (.int .i64 n184)) <|
 ANDS (RDI .i64 (Addr.add (Addr.add ⟨B177, 0, none⟩ 2) 1) fun n189 =>
 fun _ => ((.int .i64 n189) : Value) = (.int .i64 n183)) <|
 ANDS (RDI .i64 (Addr.add ⟨B177, 0, none⟩ 0) fun n190 =>
 fun _ => ((.int .i64 n190) : Value) = (.int .i64 n182)) <|
 ANDS (RDL (Addr.add za5 3) fun x191 l192 c193 =>
 fun _ => ((.slice x191 l192 c193) : Value) = (.slice x178 l179 c180)) <|
 CALLV Pg W (.func (.func 32) #[] #[(.pointer (some za3)), (.pointer (some za2))]) [(.int .i64 n182)]
 (fun v194 => TYI .i64 v194 fun n196 =>
 ANDS (RDI .i64 (Addr.add (Addr.add ⟨B177, 0, none⟩ 2) 0) fun n197 =>
 fun _ => ((.int .i64 n197) : Value) = (.int .i64 n184)) <|
 ANDS (RDI .i64 (Addr.add (Addr.add ⟨B177, 0, none⟩ 2) 1) fun n198 =>
 fun _ => ((.int .i64 n198) : Value) = (.int .i64 n183)) <|
 ANDS (RDL (Addr.add za5 3) fun x199 l200 c201 =>
 fun _ => ((.slice x199 l200 c201) : Value) = (.slice x178 l179 c180)) <|
 CALL Pg W F_law07_span [(.int .i64 (IntKind.wrap .i64 (0 - n183))), (.int .i64 (IntKind.wrap .i64 (0 - n184)))]
 (fun v202 => AGG v202 fun q204 => HD q204 fun v205 r206 => TYI .i64 v205 fun n207 =>
 HD r206 fun v208 r209 => TYI .i64 v208 fun n210 =>
 NL r209 <|
 ANDS (RDL (Addr.add za5 3) fun x211 l212 c213 =>
 fun _ => ((.slice x211 l212 c213) : Value) = (.slice x178 l179 c180)) <|
 NEW 63 [(.int .i64 n187), (.int .i64 n196), (.int .i64 n207), (.int .i64 n210)] fun B214 =>
 ANDS (RDL (Addr.add za5 3) fun x215 l216 c217 =>
 fun _ => ((.slice x215 l216 c217) : Value) = (.slice x178 l179 c180)) <|
 APP Pg 63 4 x178 l179 c180 (some ⟨B214, 0, none⟩) 1 fun x218 l219 c220 =>
 WR (Addr.add (Addr.add za5 3) 0) (.slice x218 l219 c220) <|
 NX [(.int .i64 zn0), (.int .i64 zn1), (.pointer (some za2)), (.bool false), (.func (.func 32) #[] #[(.pointer (some za3)), (.pointer (some za2))]), (.func (.func 33) #[] #[(.pointer (some za4)), (.pointer (some za2))]), (.pointer (some za5)), (.int .i64 zn6), (.tuple #[])] [(.int .i64 zn0), (.int .i64 zn1), (.pointer (some za2)), (.bool false), (.func (.func 32) #[] #[(.pointer (some za3)), (.pointer (some za2))]), (.func (.func 33) #[] #[(.pointer (some za4)), (.pointer (some za2))]), (.pointer (some za5)), (.int .i64 zn6), (.tuple #[])] (nx2 [(.int .i64 (IntKind.wrap .i64 (n165 + 1)))]))
 (fun e203 => R (.panicked e203)))
 (fun e195 => R (.panicked e195)))
 (fun e186 => R (.panicked e186)))
 (D_law07_ClockTurned_0 W R zn0 zn1 za2 za3 za4 za5)
theorem B_law07_ClockTurned_2_eq (W : World) (R : Ending → Hp → Prop) (zn0 : Int) (zn1 : Int) (za2 : Addr) (za3 : Addr) (za4 : Addr) (za5 : Addr) (zn6 : Int) (n165 : Int) (nx2 : List Value → Hp → Prop) (j : Tm) : vc Pg W 477 rs_7 an_7 false (sub (bodyOf Try.f7) [1, 1, 1, 1, 1, 1, 1, 1, 0, 1, 0, 0]) 4 (KLoop [140] [1, 2, 5, 10, 11, 12, 13, 139, 477] [(.int .i64 zn0), (.int .i64 zn1), (.pointer (some za2)), (.bool false), (.func (.func 32) #[] #[(.pointer (some za3)), (.pointer (some za2))]), (.func (.func 33) #[] #[(.pointer (some za4)), (.pointer (some za2))]), (.pointer (some za5)), (.int .i64 zn6), (.tuple #[])] nx2 (KBlk 4 (KS Pg W 477 rs_7 an_7 false (sub (bodyOf Try.f7) [1, 1, 1, 1, 1, 1, 1, 1, 1]) 0 (fin Pg W 477 rv_7 R)))) (known [140] [(.int .i64 n165)] (known [1, 2, 5, 10, 11, 12, 13, 139, 477] [(.int .i64 zn0), (.int .i64 zn1), (.pointer (some za2)), (.bool false), (.func (.func 32) #[] #[(.pointer (some za3)), (.pointer (some za2))]), (.func (.func 33) #[] #[(.pointer (some za4)), (.pointer (some za2))]), (.pointer (some za5)), (.int .i64 zn6), (.tuple #[])] j)) = B_law07_ClockTurned_2 W R zn0 zn1 za2 za3 za4 za5 zn6 n165 nx2 := by kernel_rfl
def N_law07_ClockTurned_2 (I : Int → Hp → Prop) (μ : Int → Hp → Nat) (n1650 : Int) (s : Hp) (vs : List Value) : Hp → Prop := fun s' => ∃ n165, vs = [(.int .i64 n165)] ∧ I n165 s' ∧ μ n165 s' < μ n1650 s
theorem L_law07_ClockTurned_2_rule (W : World) (R : Ending → Hp → Prop) (zn0 : Int) (zn1 : Int) (za2 : Addr) (za3 : Addr) (za4 : Addr) (za5 : Addr) (zn6 : Int) (I : Int → Hp → Prop) (μ : Int → Hp → Nat) (n1650 : Int) (s : Hp) (h0 : I n1650 s)
    (hr : ∀ (n165 : Int) (s : Hp), I n165 s → B_law07_ClockTurned_2 W R zn0 zn1 za2 za3 za4 za5 zn6 n165 (fun vs => N_law07_ClockTurned_2 I μ n165 s vs) s) : L_law07_ClockTurned_2 W R zn0 zn1 za2 za3 za4 za5 zn6 n1650 s := by
  refine ⟨fun vs s => ∃ n165, vs = [(.int .i64 n165)] ∧ I n165 s, fun vs s => (match vs with | [.int _ n165] => μ n165 s | _ => 0), ⟨⟨⟨_, rfl⟩, trivial⟩, ⟨_, rfl, h0⟩⟩, ?_⟩
  intro n165 s hI j
  obtain ⟨n165', hy, hI⟩ := hI
  have hI' : I n165 s := by cases hy; exact hI
  have hh := hr n165 s hI'
  rw [← B_law07_ClockTurned_2_eq W R zn0 zn1 za2 za3 za4 za5 zn6 n165 _ j] at hh
  refine vc_mono ?_ _ _ hh
  exact KLoop_mono (fun vs s' h => by obtain ⟨n1651, rfl, h1, h2⟩ := h; exact ⟨⟨⟨_, rfl⟩, trivial⟩, ⟨_, rfl, h1⟩, h2⟩)
def B_law07_ClockTurned_3 (W : World) (R : Ending → Hp → Prop) (zn0 : Int) (za1 : Addr) (za2 : Addr) (za3 : Addr) (za4 : Addr) (zp5 : Option Addr) (zl6 : Nat) (zl7 : Nat) (zp8 : Option Addr) (zl9 : Nat) (zl10 : Nat) (zp11 : Option Addr) (zl12 : Nat) (zl13 : Nat) (zn14 : Int) (zn15 : Int) (zn16 : Int) (b846 : Bool) (n847 : Int) (nx3 : List Value → Hp → Prop) : Hp → Prop :=
 BR (decide (n847 < zn16))
 (RDL (Addr.add za1 0) fun x848 l849 c850 =>
 RDI .i64 (Addr.add za1 1) fun n851 =>
 RDL (Addr.add za1 2) fun x852 l853 c854 =>
 RDL (Addr.add za1 3) fun x855 l856 c857 =>
 CALL Pg W F_clock_Goes [(.agg #[(.slice x848 l849 c850), (.int .i64 n851), (.slice x852 l853 c854), (.slice x855 l856 c857)]), (.int .i64 n847)]
 (fun v858 => TUP v858 fun q860 => HD q860 fun v861 r862 => AGG v861 fun q863 => HD q863 fun v864 r865 => TYI .i64 v864 fun n866 =>
 HD r865 fun v867 r868 => TYI .i64 v867 fun n869 =>
 NL r868 <|
 HD r862 fun v870 r871 => AGG v870 fun q872 => HD q872 fun v873 r874 => TYI .i64 v873 fun n875 =>
 HD r874 fun v876 r877 => TYI .i64 v876 fun n878 =>
 NL r877 <|
 HD r871 fun v879 r880 => TYI .i64 v879 fun n881 =>
 NL r880 <|
 NEWZ Pg 34 fun B882 =>
 NEWZ Pg 34 fun B883 =>
 WR (Addr.add ⟨B882, 0, none⟩ 0) (.int .i64 n866) <|
 WR (Addr.add ⟨B882, 0, none⟩ 1) (.int .i64 n869) <|
 WR (Addr.add ⟨B883, 0, none⟩ 0) (.int .i64 n875) <|
 WR (Addr.add ⟨B883, 0, none⟩ 1) (.int .i64 n878) <|
 D_law07_ClockTurned_1 W R nx3 zn0 za1 b846 za2 za3 za4 zp5 zl6 zl7 zp8 zl9 zl10 zp11 zl12 zl13 zn14 zn15 n847 ⟨B882, 0, none⟩ ⟨B883, 0, none⟩ n881 zn16)
 (fun e859 => R (.panicked e859)))
 (L_law07_ClockTurned_4 W R za1 zp5 zl6 zl7 zp8 zl9 zl10 (↑zl6 : Int) b846 0)
theorem B_law07_ClockTurned_3_eq (W : World) (R : Ending → Hp → Prop) (zn0 : Int) (za1 : Addr) (za2 : Addr) (za3 : Addr) (za4 : Addr) (zp5 : Option Addr) (zl6 : Nat) (zl7 : Nat) (zp8 : Option Addr) (zl9 : Nat) (zl10 : Nat) (zp11 : Option Addr) (zl12 : Nat) (zl13 : Nat) (zn14 : Int) (zn15 : Int) (zn16 : Int) (b846 : Bool) (n847 : Int) (nx3 : List Value → Hp → Prop) (j : Tm) : vc Pg W 477 rs_7 an_7 false (sub (bodyOf Try.f7) [1, 1, 1, 1, 1, 1, 1, 1, 1, 1, 1, 1, 1, 1, 1, 1, 1, 1, 1, 1, 1, 1, 1, 0, 1, 0, 0]) 6 (KLoop [10, 358] [1, 5, 11, 12, 13, 20, 21, 22, 41, 43, 357, 477] [(.int .i64 zn0), (.pointer (some za1)), (.func (.func 32) #[] #[(.pointer (some za2)), (.pointer (some za1))]), (.func (.func 33) #[] #[(.pointer (some za3)), (.pointer (some za1))]), (.pointer (some za4)), (.slice zp5 zl6 zl7), (.slice zp8 zl9 zl10), (.slice zp11 zl12 zl13), (.int .i64 zn14), (.int .i64 zn15), (.int .i64 zn16), (.tuple #[])] nx3 (KBlk 6 (KS Pg W 477 rs_7 an_7 false (sub (bodyOf Try.f7) [1, 1, 1, 1, 1, 1, 1, 1, 1, 1, 1, 1, 1, 1, 1, 1, 1, 1, 1, 1, 1, 1, 1, 1]) 0 (fin Pg W 477 rv_7 R)))) (known [10, 358] [(.bool b846), (.int .i64 n847)] (known [1, 5, 11, 12, 13, 20, 21, 22, 41, 43, 357, 477] [(.int .i64 zn0), (.pointer (some za1)), (.func (.func 32) #[] #[(.pointer (some za2)), (.pointer (some za1))]), (.func (.func 33) #[] #[(.pointer (some za3)), (.pointer (some za1))]), (.pointer (some za4)), (.slice zp5 zl6 zl7), (.slice zp8 zl9 zl10), (.slice zp11 zl12 zl13), (.int .i64 zn14), (.int .i64 zn15), (.int .i64 zn16), (.tuple #[])] j)) = B_law07_ClockTurned_3 W R zn0 za1 za2 za3 za4 zp5 zl6 zl7 zp8 zl9 zl10 zp11 zl12 zl13 zn14 zn15 zn16 b846 n847 nx3 := by kernel_rfl
def N_law07_ClockTurned_3 (I : Bool → Int → Hp → Prop) (μ : Bool → Int → Hp → Nat) (b8460 : Bool) (n8470 : Int) (s : Hp) (vs : List Value) : Hp → Prop := fun s' => ∃ b846 n847, vs = [(.bool b846), (.int .i64 n847)] ∧ I b846 n847 s' ∧ μ b846 n847 s' < μ b8460 n8470 s
theorem L_law07_ClockTurned_3_rule (W : World) (R : Ending → Hp → Prop) (zn0 : Int) (za1 : Addr) (za2 : Addr) (za3 : Addr) (za4 : Addr) (zp5 : Option Addr) (zl6 : Nat) (zl7 : Nat) (zp8 : Option Addr) (zl9 : Nat) (zl10 : Nat) (zp11 : Option Addr) (zl12 : Nat) (zl13 : Nat) (zn14 : Int) (zn15 : Int) (zn16 : Int) (I : Bool → Int → Hp → Prop) (μ : Bool → Int → Hp → Nat) (b8460 : Bool) (n8470 : Int) (s : Hp) (h0 : I b8460 n8470 s)
    (hr : ∀ (b846 : Bool) (n847 : Int) (s : Hp), I b846 n847 s → B_law07_ClockTurned_3 W R zn0 za1 za2 za3 za4 zp5 zl6 zl7 zp8 zl9 zl10 zp11 zl12 zl13 zn14 zn15 zn16 b846 n847 (fun vs => N_law07_ClockTurned_3 I μ b846 n847 s vs) s) : L_law07_ClockTurned_3 W R zn0 za1 za2 za3 za4 zp5 zl6 zl7 zp8 zl9 zl10 zp11 zl12 zl13 zn14 zn15 zn16 b8460 n8470 s := by
  refine ⟨fun vs s => ∃ b846 n847, vs = [(.bool b846), (.int .i64 n847)] ∧ I b846 n847 s, fun vs s => (match vs with | [.bool b846, .int _ n847] => μ b846 n847 s | _ => 0), ⟨⟨⟨_, rfl⟩, ⟨⟨_, rfl⟩, trivial⟩⟩, ⟨_, _, rfl, h0⟩⟩, ?_⟩
  intro b846 n847 s hI j
  obtain ⟨b846', n847', hy, hI⟩ := hI
  have hI' : I b846 n847 s := by cases hy; exact hI
  have hh := hr b846 n847 s hI'
  rw [← B_law07_ClockTurned_3_eq W R zn0 za1 za2 za3 za4 zp5 zl6 zl7 zp8 zl9 zl10 zp11 zl12 zl13 zn14 zn15 zn16 b846 n847 _ j] at hh
  refine vc_mono ?_ _ _ hh
  exact KLoop_mono (fun vs s' h => by obtain ⟨b8461, n8471, rfl, h1, h2⟩ := h; exact ⟨⟨⟨_, rfl⟩, ⟨⟨_, rfl⟩, trivial⟩⟩, ⟨_, _, rfl, h1⟩, h2⟩)
def B_law07_ClockTurned_4 (W : World) (R : Ending → Hp → Prop) (za0 : Addr) (zp1 : Option Addr) (zl2 : Nat) (zl3 : Nat) (zp4 : Option Addr) (zl5 : Nat) (zl6 : Nat) (zn7 : Int) (b1269 : Bool) (n1270 : Int) (nx4 : List Value → Hp → Prop) : Hp → Prop :=
 BR (decide (n1270 < zn7))
 (IXS zp1 zl2 n1270 3 fun a1271 =>
 RDI .i64 (Addr.add a1271 0) fun n1272 =>
 RDI .i64 (Addr.add a1271 1) fun n1273 =>
 RDI .i64 (Addr.add a1271 2) fun n1274 =>
 RDL (Addr.add za0 2) fun x1275 l1276 c1277 =>
 IXS x1275 l1276 n1270 3 fun a1278 =>
 RDI .i64 (Addr.add a1278 0) fun n1279 =>
 RDI .i64 (Addr.add a1278 1) fun n1280 =>
 RDI .i64 (Addr.add a1278 2) fun n1281 =>
 BR (!((n1272 == n1279) && ((n1273 == n1280) && (n1274 == n1281))))
 (R (.returned (.bool false)))
 (NX [(.pointer (some za0)), (.slice zp1 zl2 zl3), (.slice zp4 zl5 zl6), (.int .i64 zn7), (.tuple #[])] [(.pointer (some za0)), (.slice zp1 zl2 zl3), (.slice zp4 zl5 zl6), (.int .i64 zn7), (.tuple #[])] (nx4 [(.bool b1269), (.int .i64 (IntKind.wrap .i64 (n1270 + 1)))])))
 (L_law07_ClockTurned_5 W R za0 zp4 zl5 zl6 (↑zl5 : Int) b1269 0)
theorem B_law07_ClockTurned_4_eq (W : World) (R : Ending → Hp → Prop) (za0 : Addr) (zp1 : Option Addr) (zl2 : Nat) (zl3 : Nat) (zp4 : Option Addr) (zl5 : Nat) (zl6 : Nat) (zn7 : Int) (b1269 : Bool) (n1270 : Int) (nx4 : List Value → Hp → Prop) (j : Tm) : vc Pg W 477 rs_7 an_7 false (sub (bodyOf Try.f7) [1, 1, 1, 1, 1, 1, 1, 1, 1, 1, 1, 1, 1, 1, 1, 1, 1, 1, 1, 1, 1, 1, 1, 1, 0, 1, 0, 0]) 8 (KLoop [10, 446] [5, 20, 21, 445, 477] [(.pointer (some za0)), (.slice zp1 zl2 zl3), (.slice zp4 zl5 zl6), (.int .i64 zn7), (.tuple #[])] nx4 (KBlk 8 (KS Pg W 477 rs_7 an_7 false (sub (bodyOf Try.f7) [1, 1, 1, 1, 1, 1, 1, 1, 1, 1, 1, 1, 1, 1, 1, 1, 1, 1, 1, 1, 1, 1, 1, 1, 1]) 0 (fin Pg W 477 rv_7 R)))) (known [10, 446] [(.bool b1269), (.int .i64 n1270)] (known [5, 20, 21, 445, 477] [(.pointer (some za0)), (.slice zp1 zl2 zl3), (.slice zp4 zl5 zl6), (.int .i64 zn7), (.tuple #[])] j)) = B_law07_ClockTurned_4 W R za0 zp1 zl2 zl3 zp4 zl5 zl6 zn7 b1269 n1270 nx4 := by kernel_rfl
def N_law07_ClockTurned_4 (I : Bool → Int → Hp → Prop) (μ : Bool → Int → Hp → Nat) (b12690 : Bool) (n12700 : Int) (s : Hp) (vs : List Value) : Hp → Prop := fun s' => ∃ b1269 n1270, vs = [(.bool b1269), (.int .i64 n1270)] ∧ I b1269 n1270 s' ∧ μ b1269 n1270 s' < μ b12690 n12700 s
theorem L_law07_ClockTurned_4_rule (W : World) (R : Ending → Hp → Prop) (za0 : Addr) (zp1 : Option Addr) (zl2 : Nat) (zl3 : Nat) (zp4 : Option Addr) (zl5 : Nat) (zl6 : Nat) (zn7 : Int) (I : Bool → Int → Hp → Prop) (μ : Bool → Int → Hp → Nat) (b12690 : Bool) (n12700 : Int) (s : Hp) (h0 : I b12690 n12700 s)
    (hr : ∀ (b1269 : Bool) (n1270 : Int) (s : Hp), I b1269 n1270 s → B_law07_ClockTurned_4 W R za0 zp1 zl2 zl3 zp4 zl5 zl6 zn7 b1269 n1270 (fun vs => N_law07_ClockTurned_4 I μ b1269 n1270 s vs) s) : L_law07_ClockTurned_4 W R za0 zp1 zl2 zl3 zp4 zl5 zl6 zn7 b12690 n12700 s := by
  refine ⟨fun vs s => ∃ b1269 n1270, vs = [(.bool b1269), (.int .i64 n1270)] ∧ I b1269 n1270 s, fun vs s => (match vs with | [.bool b1269, .int _ n1270] => μ b1269 n1270 s | _ => 0), ⟨⟨⟨_, rfl⟩, ⟨⟨_, rfl⟩, trivial⟩⟩, ⟨_, _, rfl, h0⟩⟩, ?_⟩
  intro b1269 n1270 s hI j
  obtain ⟨b1269', n1270', hy, hI⟩ := hI
  have hI' : I b1269 n1270 s := by cases hy; exact hI
  have hh := hr b1269 n1270 s hI'
  rw [← B_law07_ClockTurned_4_eq W R za0 zp1 zl2 zl3 zp4 zl5 zl6 zn7 b1269 n1270 _ j] at hh
  refine vc_mono ?_ _ _ hh
  exact KLoop_mono (fun vs s' h => by obtain ⟨b12691, n12701, rfl, h1, h2⟩ := h; exact ⟨⟨⟨_, rfl⟩, ⟨⟨_, rfl⟩, trivial⟩⟩, ⟨_, _, rfl, h1⟩, h2⟩)
def B_law07_ClockTurned_5 (W : World) (R : Ending → Hp → Prop) (za0 : Addr) (zp1 : Option Addr) (zl2 : Nat) (zl3 : Nat) (zn4 : Int) (b1282 : Bool) (n1283 : Int) (nx5 : List Value → Hp → Prop) : Hp → Prop :=
 BR (decide (n1283 < zn4))
 (IXS zp1 zl2 n1283 4 fun a1284 =>
 RDI .i64 (Addr.add a1284 0) fun n1285 =>
 RDI .i64 (Addr.add a1284 1) fun n1286 =>
 RDI .i64 (Addr.add a1284 2) fun n1287 =>
 RDI .i64 (Addr.add a1284 3) fun n1288 =>
 RDL (Addr.add za0 3) fun x1289 l1290 c1291 =>
 IXS x1289 l1290 n1283 4 fun a1292 =>
 RDI .i64 (Addr.add a1292 0) fun n1293 =>
 RDI .i64 (Addr.add a1292 1) fun n1294 =>
 RDI .i64 (Addr.add a1292 2) fun n1295 =>
 RDI .i64 (Addr.add a1292 3) fun n1296 =>
 BR (!((n1285 == n1293) && ((n1286 == n1294) && ((n1287 == n1295) && (n1288 == n1296)))))
 (R (.returned (.bool false)))
 (NX [(.pointer (some za0)), (.slice zp1 zl2 zl3), (.int .i64 zn4), (.tuple #[])] [(.pointer (some za0)), (.slice zp1 zl2 zl3), (.int .i64 zn4), (.tuple #[])] (nx5 [(.bool b1282), (.int .i64 (IntKind.wrap .i64 (n1283 + 1)))])))
 (CALL Pg W F_law07_alive []
 (fun v1297 => TYB v1297 fun b1299 =>
 R (.returned (.bool b1299)))
 (fun e1298 => R (.panicked e1298)))
theorem B_law07_ClockTurned_5_eq (W : World) (R : Ending → Hp → Prop) (za0 : Addr) (zp1 : Option Addr) (zl2 : Nat) (zl3 : Nat) (zn4 : Int) (b1282 : Bool) (n1283 : Int) (nx5 : List Value → Hp → Prop) (j : Tm) : vc Pg W 477 rs_7 an_7 false (sub (bodyOf Try.f7) [1, 1, 1, 1, 1, 1, 1, 1, 1, 1, 1, 1, 1, 1, 1, 1, 1, 1, 1, 1, 1, 1, 1, 1, 1, 0, 1, 0, 0]) 10 (KLoop [10, 462] [5, 21, 461, 477] [(.pointer (some za0)), (.slice zp1 zl2 zl3), (.int .i64 zn4), (.tuple #[])] nx5 (KBlk 10 (KS Pg W 477 rs_7 an_7 false (sub (bodyOf Try.f7) [1, 1, 1, 1, 1, 1, 1, 1, 1, 1, 1, 1, 1, 1, 1, 1, 1, 1, 1, 1, 1, 1, 1, 1, 1, 1]) 0 (fin Pg W 477 rv_7 R)))) (known [10, 462] [(.bool b1282), (.int .i64 n1283)] (known [5, 21, 461, 477] [(.pointer (some za0)), (.slice zp1 zl2 zl3), (.int .i64 zn4), (.tuple #[])] j)) = B_law07_ClockTurned_5 W R za0 zp1 zl2 zl3 zn4 b1282 n1283 nx5 := by kernel_rfl
def N_law07_ClockTurned_5 (I : Bool → Int → Hp → Prop) (μ : Bool → Int → Hp → Nat) (b12820 : Bool) (n12830 : Int) (s : Hp) (vs : List Value) : Hp → Prop := fun s' => ∃ b1282 n1283, vs = [(.bool b1282), (.int .i64 n1283)] ∧ I b1282 n1283 s' ∧ μ b1282 n1283 s' < μ b12820 n12830 s
theorem L_law07_ClockTurned_5_rule (W : World) (R : Ending → Hp → Prop) (za0 : Addr) (zp1 : Option Addr) (zl2 : Nat) (zl3 : Nat) (zn4 : Int) (I : Bool → Int → Hp → Prop) (μ : Bool → Int → Hp → Nat) (b12820 : Bool) (n12830 : Int) (s : Hp) (h0 : I b12820 n12830 s)
    (hr : ∀ (b1282 : Bool) (n1283 : Int) (s : Hp), I b1282 n1283 s → B_law07_ClockTurned_5 W R za0 zp1 zl2 zl3 zn4 b1282 n1283 (fun vs => N_law07_ClockTurned_5 I μ b1282 n1283 s vs) s) : L_law07_ClockTurned_5 W R za0 zp1 zl2 zl3 zn4 b12820 n12830 s := by
  refine ⟨fun vs s => ∃ b1282 n1283, vs = [(.bool b1282), (.int .i64 n1283)] ∧ I b1282 n1283 s, fun vs s => (match vs with | [.bool b1282, .int _ n1283] => μ b1282 n1283 s | _ => 0), ⟨⟨⟨_, rfl⟩, ⟨⟨_, rfl⟩, trivial⟩⟩, ⟨_, _, rfl, h0⟩⟩, ?_⟩
  intro b1282 n1283 s hI j
  obtain ⟨b1282', n1283', hy, hI⟩ := hI
  have hI' : I b1282 n1283 s := by cases hy; exact hI
  have hh := hr b1282 n1283 s hI'
  rw [← B_law07_ClockTurned_5_eq W R za0 zp1 zl2 zl3 zn4 b1282 n1283 _ j] at hh
  refine vc_mono ?_ _ _ hh
  exact KLoop_mono (fun vs s' h => by obtain ⟨b12821, n12831, rfl, h1, h2⟩ := h; exact ⟨⟨⟨_, rfl⟩, ⟨⟨_, rfl⟩, trivial⟩⟩, ⟨_, _, rfl, h1⟩, h2⟩)
def A_law07_ClockTurned_0 (W : World) (R : Ending → Hp → Prop) (zn0 : Int) (zn1 : Int) (za2 : Addr) (za3 : Addr) (za4 : Addr) (za5 : Addr) (x272 : Option Addr) (l273 : Nat) (c274 : Nat) (x275 : Option Addr) (l276 : Nat) (c277 : Nat) (x278 : Option Addr) (l279 : Nat) (c280 : Nat) : Hp → Prop :=
 RDL (Addr.add za2 0) fun x281 l282 c283 =>
 RDI .i64 (Addr.add za2 1) fun n284 =>
 RDL (Addr.add za2 2) fun x285 l286 c287 =>
 RDL (Addr.add za2 3) fun x288 l289 c290 =>
 CALL Pg W F_clock_Lasted [(.agg #[(.slice x281 l282 c283), (.int .i64 n284), (.slice x285 l286 c287), (.slice x288 l289 c290)]), (.int .i64 zn0), (.int .i64 zn1)]
 (fun v291 => TUP v291 fun q293 => HD q293 fun v294 r295 => AGG v294 fun q296 => HD q296 fun v297 r298 => TYI .i64 v297 fun n299 =>
 HD r298 fun v300 r301 => TYI .i64 v300 fun n302 =>
 NL r301 <|
 HD r295 fun v303 r304 => TYI .i64 v303 fun n305 =>
 NL r304 <|
 NEWZ Pg 34 fun B306 =>
 WR (Addr.add ⟨B306, 0, none⟩ 0) (.int .i64 n299) <|
 WR (Addr.add ⟨B306, 0, none⟩ 1) (.int .i64 n302) <|
 RDL (Addr.add za2 0) fun x307 l308 c309 =>
 RDI .i64 (Addr.add za2 1) fun n310 =>
 RDL (Addr.add za2 2) fun x311 l312 c313 =>
 RDL (Addr.add za2 3) fun x314 l315 c316 =>
 CALL Pg W F_clock_Lasted [(.agg #[(.slice x307 l308 c309), (.int .i64 n310), (.slice x311 l312 c313), (.slice x314 l315 c316)]), (.int .i64 zn1), (.int .i64 zn0)]
 (fun v317 => TUP v317 fun q319 => HD q319 fun v320 r321 => AGG v320 fun q322 => HD q322 fun v323 r324 => TYI .i64 v323 fun n325 =>
 HD r324 fun v326 r327 => TYI .i64 v326 fun n328 =>
 NL r327 <|
 HD r321 fun v329 r330 => TYI .i64 v329 fun n331 =>
 NL r330 <|
 NEWZ Pg 34 fun B332 =>
 WR (Addr.add ⟨B332, 0, none⟩ 0) (.int .i64 n325) <|
 WR (Addr.add ⟨B332, 0, none⟩ 1) (.int .i64 n328) <|
 RDL (Addr.add za5 0) fun x333 l334 c335 =>
 RDI .i64 (Addr.add za5 1) fun n336 =>
 RDL (Addr.add za5 2) fun x337 l338 c339 =>
 RDL (Addr.add za5 3) fun x340 l341 c342 =>
 CONJ [
 CALLV Pg W (.func (.func 32) #[] #[(.pointer (some za3)), (.pointer (some za2))]) [(.int .i64 zn0)]
 (fun v343 => TYI .i64 v343 fun n345 =>
 ANDS (RDL (Addr.add za5 0) fun x346 l347 c348 =>
 RDI .i64 (Addr.add za5 1) fun n349 =>
 RDL (Addr.add za5 2) fun x350 l351 c352 =>
 RDL (Addr.add za5 3) fun x353 l354 c355 =>
 fun _ => ((.agg #[(.slice x346 l347 c348), (.int .i64 n349), (.slice x350 l351 c352), (.slice x353 l354 c355)]) : Value) = (.agg #[(.slice x333 l334 c335), (.int .i64 n336), (.slice x337 l338 c339), (.slice x340 l341 c342)])) <|
 CONJ [
 CALLV Pg W (.func (.func 32) #[] #[(.pointer (some za3)), (.pointer (some za2))]) [(.int .i64 zn1)]
 (fun v356 => TYI .i64 v356 fun n358 =>
 ANDS (RDL (Addr.add za5 0) fun x359 l360 c361 =>
 RDI .i64 (Addr.add za5 1) fun n362 =>
 RDL (Addr.add za5 2) fun x363 l364 c365 =>
 RDL (Addr.add za5 3) fun x366 l367 c368 =>
 fun _ => ((.agg #[(.slice x359 l360 c361), (.int .i64 n362), (.slice x363 l364 c365), (.slice x366 l367 c368)]) : Value) = (.agg #[(.slice x333 l334 c335), (.int .i64 n336), (.slice x337 l338 c339), (.slice x340 l341 c342)])) <|
 CONJ [
 CALL Pg W F_clock_Lasted [(.agg #[(.slice x333 l334 c335), (.int .i64 n336), (.slice x337 l338 c339), (.slice x340 l341 c342)]), (.int .i64 n345), (.int .i64 n358)]
 (fun v369 => TUP v369 fun q371 => HD q371 fun v372 r373 => AGG v372 fun q374 => HD q374 fun v375 r376 => TYI .i64 v375 fun n377 =>
 HD r376 fun v378 r379 => TYI .i64 v378 fun n380 =>
 NL r379 <|
 HD r373 fun v381 r382 => TYI .i64 v381 fun n383 =>
 NL r382 <|
 NEWZ Pg 34 fun B384 =>
 ANDS (RDL (Addr.add za5 0) fun x385 l386 c387 =>
 RDI .i64 (Addr.add za5 1) fun n388 =>
 RDL (Addr.add za5 2) fun x389 l390 c391 =>
 RDL (Addr.add za5 3) fun x392 l393 c394 =>
 fun _ => ((.agg #[(.slice x385 l386 c387), (.int .i64 n388), (.slice x389 l390 c391), (.slice x392 l393 c394)]) : Value) = (.agg #[(.slice x333 l334 c335), (.int .i64 n336), (.slice x337 l338 c339), (.slice x340 l341 c342)])) <|
 WR (Addr.add ⟨B384, 0, none⟩ 0) (.int .i64 n377) <|
 WR (Addr.add ⟨B384, 0, none⟩ 1) (.int .i64 n380) <|
 J_law07_ClockTurned_17 W R za2 zn0 zn1 za5 za3 n305 n331 B332 B306 za4 x272 l273 c274 x275 l276 c277 x278 l279 c280 (some ⟨B384, 0, none⟩) n383)
 (fun e370 => R (.panicked e370)),
 NEWZ Pg 34 fun B729 =>
 ANDS (RDL (Addr.add za5 0) fun x730 l731 c732 =>
 RDI .i64 (Addr.add za5 1) fun n733 =>
 RDL (Addr.add za5 2) fun x734 l735 c736 =>
 RDL (Addr.add za5 3) fun x737 l738 c739 =>
 fun _ => ((.agg #[(.slice x730 l731 c732), (.int .i64 n733), (.slice x734 l735 c736), (.slice x737 l738 c739)]) : Value) = (.agg #[(.slice x333 l334 c335), (.int .i64 n336), (.slice x337 l338 c339), (.slice x340 l341 c342)])) <|
 CALL Pg W F_clock_Lasted [(.agg #[(.slice x333 l334 c335), (.int .i64 n336), (.slice x337 l338 c339), (.slice x340 l341 c342)]), (.int .i64 n345), (.int .i64 n358)]
 (fun v740 => TUP v740 fun q742 => HD q742 fun v743 r744 => AGG v743 fun q745 => HD q745 fun v746 r747 => TYI .i64 v746 fun n748 =>
 HD r747 fun v749 r750 => TYI .i64 v749 fun n751 =>
 NL r750 <|
 HD r744 fun v752 r753 => TYI .i64 v752 fun n754 =>
 NL r753 <|
 WR (Addr.add ⟨B729, 0, none⟩ 0) (.int .i64 n748) <|
 WR (Addr.add ⟨B729, 0, none⟩ 1) (.int .i64 n751) <|
 J_law07_ClockTurned_17 W R za2 zn0 zn1 za5 za3 n305 n331 B332 B306 za4 x272 l273 c274 x275 l276 c277 x278 l279 c280 (some ⟨B729, 0, none⟩) n754)
 (fun e741 => R (.panicked e741))])
 (fun e357 => R (.panicked e357)),
 NEWZ Pg 34 fun B755 =>
 ANDS (RDL (Addr.add za5 0) fun x756 l757 c758 =>
 RDI .i64 (Addr.add za5 1) fun n759 =>
 RDL (Addr.add za5 2) fun x760 l761 c762 =>
 RDL (Addr.add za5 3) fun x763 l764 c765 =>
 fun _ => ((.agg #[(.slice x756 l757 c758), (.int .i64 n759), (.slice x760 l761 c762), (.slice x763 l764 c765)]) : Value) = (.agg #[(.slice x333 l334 c335), (.int .i64 n336), (.slice x337 l338 c339), (.slice x340 l341 c342)])) <|
 CALLV Pg W (.func (.func 32) #[] #[(.pointer (some za3)), (.pointer (some za2))]) [(.int .i64 zn1)]
 (fun v766 => TYI .i64 v766 fun n768 =>
 ANDS (RDL (Addr.add za5 0) fun x769 l770 c771 =>
 RDI .i64 (Addr.add za5 1) fun n772 =>
 RDL (Addr.add za5 2) fun x773 l774 c775 =>
 RDL (Addr.add za5 3) fun x776 l777 c778 =>
 fun _ => ((.agg #[(.slice x769 l770 c771), (.int .i64 n772), (.slice x773 l774 c775), (.slice x776 l777 c778)]) : Value) = (.agg #[(.slice x333 l334 c335), (.int .i64 n336), (.slice x337 l338 c339), (.slice x340 l341 c342)])) <|
 CALL Pg W F_clock_Lasted [(.agg #[(.slice x333 l334 c335), (.int .i64 n336), (.slice x337 l338 c339), (.slice x340 l341 c342)]), (.int .i64 n345), (.int .i64 n768)]
 (fun v779 => TUP v779 fun q781 => HD q781 fun v782 r783 => AGG v782 fun q784 => HD q784 fun v785 r786 => TYI .i64 v785 fun n787 =>
 HD r786 fun v788 r789 => TYI .i64 v788 fun n790 =>
 NL r789 <|
 HD r783 fun v791 r792 => TYI .i64 v791 fun n793 =>
 NL r792 <|
 WR (Addr.add ⟨B755, 0, none⟩ 0) (.int .i64 n787) <|
 WR (Addr.add ⟨B755, 0, none⟩ 1) (.int .i64 n790) <|
 J_law07_ClockTurned_17 W R za2 zn0 zn1 za5 za3 n305 n331 B332 B306 za4 x272 l273 c274 x275 l276 c277 x278 l279 c280 (some ⟨B755, 0, none⟩) n793)
 (fun e780 => R (.panicked e780)))
 (fun e767 => R (.panicked e767))])
 (fun e344 => R (.panicked e344)),
 NEWZ Pg 34 fun B794 =>
 ANDS (RDL (Addr.add za5 0) fun x795 l796 c797 =>
 RDI .i64 (Addr.add za5 1) fun n798 =>
 RDL (Addr.add za5 2) fun x799 l800 c801 =>
 RDL (Addr.add za5 3) fun x802 l803 c804 =>
 fun _ => ((.agg #[(.slice x795 l796 c797), (.int .i64 n798), (.slice x799 l800 c801), (.slice x802 l803 c804)]) : Value) = (.agg #[(.slice x333 l334 c335), (.int .i64 n336), (.slice x337 l338 c339), (.slice x340 l341 c342)])) <|
 CALLV Pg W (.func (.func 32) #[] #[(.pointer (some za3)), (.pointer (some za2))]) [(.int .i64 zn0)]
 (fun v805 => TYI .i64 v805 fun n807 =>
 ANDS (RDL (Addr.add za5 0) fun x808 l809 c810 =>
 RDI .i64 (Addr.add za5 1) fun n811 =>
 RDL (Addr.add za5 2) fun x812 l813 c814 =>
 RDL (Addr.add za5 3) fun x815 l816 c817 =>
 fun _ => ((.agg #[(.slice x808 l809 c810), (.int .i64 n811), (.slice x812 l813 c814), (.slice x815 l816 c817)]) : Value) = (.agg #[(.slice x333 l334 c335), (.int .i64 n336), (.slice x337 l338 c339), (.slice x340 l341 c342)])) <|
 CALLV Pg W (.func (.func 32) #[] #[(.pointer (some za3)), (.pointer (some za2))]) [(.int .i64 zn1)]
 (fun v818 => TYI .i64 v818 fun n820 =>
 ANDS (RDL (Addr.add za5 0) fun x821 l822 c823 =>
 RDI .i64 (Addr.add za5 1) fun n824 =>
 RDL (Addr.add za5 2) fun x825 l826 c827 =>
 RDL (Addr.add za5 3) fun x828 l829 c830 =>
 fun _ => ((.agg #[(.slice x821 l822 c823), (.int .i64 n824), (.slice x825 l826 c827), (.slice x828 l829 c830)]) : Value) = (.agg #[(.slice x333 l334 c335), (.int .i64 n336), (.slice x337 l338 c339), (.slice x340 l341 c342)])) <|
 CALL Pg W F_clock_Lasted [(.agg #[(.slice x333 l334 c335), (.int .i64 n336), (.slice x337 l338 c339), (.slice x340 l341 c342)]), (.int .i64 n807), (.int .i64 n820)]
 (fun v831 => TUP v831 fun q833 => HD q833 fun v834 r835 => AGG v834 fun q836 => HD q836 fun v837 r838 => TYI .i64 v837 fun n839 =>
 HD r838 fun v840 r841 => TYI .i64 v840 fun n842 =>
 NL r841 <|
 HD r835 fun v843 r844 => TYI .i64 v843 fun n845 =>
 NL r844 <|
 WR (Addr.add ⟨B794, 0, none⟩ 0) (.int .i64 n839) <|
 WR (Addr.add ⟨B794, 0, none⟩ 1) (.int .i64 n842) <|
 J_law07_ClockTurned_17 W R za2 zn0 zn1 za5 za3 n305 n331 B332 B306 za4 x272 l273 c274 x275 l276 c277 x278 l279 c280 (some ⟨B794, 0, none⟩) n845)
 (fun e832 => R (.panicked e832)))
 (fun e819 => R (.panicked e819)))
 (fun e806 => R (.panicked e806))])
 (fun e318 => R (.panicked e318)))
 (fun e292 => R (.panicked e292))
theorem A_law07_ClockTurned_0_eq (W : World) (R : Ending → Hp → Prop) (zn0 : Int) (zn1 : Int) (za2 : Addr) (za3 : Addr) (za4 : Addr) (za5 : Addr) {x272 : Option Addr} {l273 : Nat} {c274 : Nat} {x275 : Option Addr} {l276 : Nat} {c277 : Nat} {x278 : Option Addr} {l279 : Nat} {c280 : Nat} {t : Tm} (h : KN [1, 2, 5, 10, 11, 12, 13, 20, 21, 22, 477] [(.int .i64 zn0), (.int .i64 zn1), (.pointer (some za2)), (.bool false), (.func (.func 32) #[] #[(.pointer (some za3)), (.pointer (some za2))]), (.func (.func 33) #[] #[(.pointer (some za4)), (.pointer (some za2))]), (.pointer (some za5)), (.slice x272 l273 c274), (.slice x275 l276 c277), (.slice x278 l279 c280), (.tuple #[])] t) : (KS Pg W 477 rs_7 an_7 false (sub (bodyOf Try.f7) [1, 1, 1, 1, 1, 1, 1, 1, 1, 1]) 0 (fin Pg W 477 rv_7 R)) .normal t = A_law07_ClockTurned_0 W R zn0 zn1 za2 za3 za4 za5 x272 l273 c274 x275 l276 c277 x278 l279 c280 :=
  (congrArg (fun u => (KS Pg W 477 rs_7 an_7 false (sub (bodyOf Try.f7) [1, 1, 1, 1, 1, 1, 1, 1, 1, 1]) 0 (fin Pg W 477 rv_7 R)) .normal u) (known_KN h).symm).trans (by kernel_rfl)
theorem O_law07_ClockTurned_0_0 {W : World} {t : Tm} {K : VK} {E : List PanicEntry → Hp → Prop} (h : KN [] [] t) : vop Pg W (opN (opsAt (sub (bodyOf Try.f7) [1, 1, 1, 1, 1, 1, 1, 1, 1, 0])) 0) t K E =
 (NEW 61 [] fun B221 =>
 K (.slice (some ⟨B221, 0, none⟩) 0 0)) :=
 (vop_at h).trans (by kernel_rfl)
theorem O_law07_ClockTurned_0_1 {W : World} {za2 : Addr} {t : Tm} {K : VK} {E : List PanicEntry → Hp → Prop} (h : KN [5] [(.pointer (some za2))] t) : vop Pg W (opN (opsAt (sub (bodyOf Try.f7) [1, 1, 1, 1, 1, 1, 1, 1, 1, 0])) 1) t K E =
 (K (.pointer (some (Addr.add za2 2)))) :=
 (vop_at h).trans (by kernel_rfl)
theorem O_law07_ClockTurned_0_2 {W : World} {a222 : Addr} {t : Tm} {K : VK} {E : List PanicEntry → Hp → Prop} (h : KN [178] [(.pointer (some a222))] t) : vop Pg W (opN (opsAt (sub (bodyOf Try.f7) [1, 1, 1, 1, 1, 1, 1, 1, 1, 0])) 2) t K E =
 (RDL a222 fun x223 l224 c225 =>
 K (.slice x223 l224 c225)) :=
 (vop_at h).trans (by kernel_rfl)
theorem O_law07_ClockTurned_0_3 {W : World} {x226 : Option Addr} {l227 : Nat} {c228 : Nat} {x229 : Option Addr} {l230 : Nat} {c231 : Nat} {t : Tm} {K : VK} {E : List PanicEntry → Hp → Prop} (h : KN [177, 179] [(.slice x226 l227 c228), (.slice x229 l230 c231)] t) : vop Pg W (opN (opsAt (sub (bodyOf Try.f7) [1, 1, 1, 1, 1, 1, 1, 1, 1, 0])) 3) t K E =
 (APP Pg 61 3 x226 l227 c228 x229 l230 fun x232 l233 c234 =>
 K (.slice x232 l233 c234)) :=
 (vop_at h).trans (by kernel_rfl)
theorem O_law07_ClockTurned_0_4 {W : World} {t : Tm} {K : VK} {E : List PanicEntry → Hp → Prop} (h : KN [] [] t) : vop Pg W (opN (opsAt (sub (bodyOf Try.f7) [1, 1, 1, 1, 1, 1, 1, 1, 1, 0])) 4) t K E =
 (NEW 63 [] fun B235 =>
 K (.slice (some ⟨B235, 0, none⟩) 0 0)) :=
 (vop_at h).trans (by kernel_rfl)
theorem O_law07_ClockTurned_0_5 {W : World} {za2 : Addr} {t : Tm} {K : VK} {E : List PanicEntry → Hp → Prop} (h : KN [5] [(.pointer (some za2))] t) : vop Pg W (opN (opsAt (sub (bodyOf Try.f7) [1, 1, 1, 1, 1, 1, 1, 1, 1, 0])) 5) t K E =
 (K (.pointer (some (Addr.add za2 3)))) :=
 (vop_at h).trans (by kernel_rfl)
theorem O_law07_ClockTurned_0_6 {W : World} {a236 : Addr} {t : Tm} {K : VK} {E : List PanicEntry → Hp → Prop} (h : KN [182] [(.pointer (some a236))] t) : vop Pg W (opN (opsAt (sub (bodyOf Try.f7) [1, 1, 1, 1, 1, 1, 1, 1, 1, 0])) 6) t K E =
 (RDL a236 fun x237 l238 c239 =>
 K (.slice x237 l238 c239)) :=
 (vop_at h).trans (by kernel_rfl)
theorem O_law07_ClockTurned_0_7 {W : World} {x240 : Option Addr} {l241 : Nat} {c242 : Nat} {x243 : Option Addr} {l244 : Nat} {c245 : Nat} {t : Tm} {K : VK} {E : List PanicEntry → Hp → Prop} (h : KN [181, 183] [(.slice x240 l241 c242), (.slice x243 l244 c245)] t) : vop Pg W (opN (opsAt (sub (bodyOf Try.f7) [1, 1, 1, 1, 1, 1, 1, 1, 1, 0])) 7) t K E =
 (APP Pg 63 4 x240 l241 c242 x243 l244 fun x246 l247 c248 =>
 K (.slice x246 l247 c248)) :=
 (vop_at h).trans (by kernel_rfl)
theorem O_law07_ClockTurned_0_8 {W : World} {t : Tm} {K : VK} {E : List PanicEntry → Hp → Prop} (h : KN [] [] t) : vop Pg W (opN (opsAt (sub (bodyOf Try.f7) [1, 1, 1, 1, 1, 1, 1, 1, 1, 0])) 8) t K E =
 (NEW 66 [] fun B249 =>
 K (.slice (some ⟨B249, 0, none⟩) 0 0)) :=
 (vop_at h).trans (by kernel_rfl)
theorem O_law07_ClockTurned_0_9 {W : World} {za2 : Addr} {t : Tm} {K : VK} {E : List PanicEntry → Hp → Prop} (h : KN [5] [(.pointer (some za2))] t) : vop Pg W (opN (opsAt (sub (bodyOf Try.f7) [1, 1, 1, 1, 1, 1, 1, 1, 1, 0])) 9) t K E =
 (K (.pointer (some (Addr.add za2 0)))) :=
 (vop_at h).trans (by kernel_rfl)
theorem O_law07_ClockTurned_0_10 {W : World} {a250 : Addr} {t : Tm} {K : VK} {E : List PanicEntry → Hp → Prop} (h : KN [186] [(.pointer (some a250))] t) : vop Pg W (opN (opsAt (sub (bodyOf Try.f7) [1, 1, 1, 1, 1, 1, 1, 1, 1, 0])) 10) t K E =
 (RDL a250 fun x251 l252 c253 =>
 K (.slice x251 l252 c253)) :=
 (vop_at h).trans (by kernel_rfl)
theorem O_law07_ClockTurned_0_11 {W : World} {x254 : Option Addr} {l255 : Nat} {c256 : Nat} {x257 : Option Addr} {l258 : Nat} {c259 : Nat} {t : Tm} {K : VK} {E : List PanicEntry → Hp → Prop} (h : KN [185, 187] [(.slice x254 l255 c256), (.slice x257 l258 c259)] t) : vop Pg W (opN (opsAt (sub (bodyOf Try.f7) [1, 1, 1, 1, 1, 1, 1, 1, 1, 0])) 11) t K E =
 (APP Pg 66 4 x254 l255 c256 x257 l258 fun x260 l261 c262 =>
 K (.slice x260 l261 c262)) :=
 (vop_at h).trans (by kernel_rfl)
theorem O_law07_ClockTurned_0_12 {W : World} {x263 : Option Addr} {l264 : Nat} {c265 : Nat} {t : Tm} {K : VK} {E : List PanicEntry → Hp → Prop} (h : KN [180] [(.slice x263 l264 c265)] t) : vop Pg W (opN (opsAt (sub (bodyOf Try.f7) [1, 1, 1, 1, 1, 1, 1, 1, 1, 0])) 12) t K E =
 (K (.slice x263 l264 c265)) :=
 (vop_at h).trans (by kernel_rfl)
theorem O_law07_ClockTurned_0_13 {W : World} {x266 : Option Addr} {l267 : Nat} {c268 : Nat} {t : Tm} {K : VK} {E : List PanicEntry → Hp → Prop} (h : KN [184] [(.slice x266 l267 c268)] t) : vop Pg W (opN (opsAt (sub (bodyOf Try.f7) [1, 1, 1, 1, 1, 1, 1, 1, 1, 0])) 13) t K E =
 (K (.slice x266 l267 c268)) :=
 (vop_at h).trans (by kernel_rfl)
theorem O_law07_ClockTurned_0_14 {W : World} {x269 : Option Addr} {l270 : Nat} {c271 : Nat} {t : Tm} {K : VK} {E : List PanicEntry → Hp → Prop} (h : KN [188] [(.slice x269 l270 c271)] t) : vop Pg W (opN (opsAt (sub (bodyOf Try.f7) [1, 1, 1, 1, 1, 1, 1, 1, 1, 0])) 14) t K E =
 (K (.slice x269 l270 c271)) :=
 (vop_at h).trans (by kernel_rfl)
theorem D_law07_ClockTurned_0_rule (W : World) (R : Ending → Hp → Prop) (zn0 : Int) (zn1 : Int) (za2 : Addr) (za3 : Addr) (za4 : Addr) (za5 : Addr) (Φ : List Nat → (Nat → Value) → Hp → Prop) {s : Hp} (hi : ∀ ρ, Φ [] ρ s)
 (h0 : ∀ L ρ s, Φ L ρ s → 0 ∉ L → (NEW 61 [] fun B221 =>
 Φ (0 :: L) (ru ρ 0 (.slice (some ⟨B221, 0, none⟩) 0 0))) s)
 (h1 : ∀ L ρ s, Φ L ρ s → 1 ∉ L → (Φ (1 :: L) (ru ρ 1 (.pointer (some (Addr.add za2 2))))) s)
 (h2 : ∀ L ρ s, Φ L ρ s → 2 ∉ L → 1 ∈ L → ∃ (a222 : Addr), ρ 1 = (.pointer (some a222)) ∧ (RDL a222 fun x223 l224 c225 =>
 Φ (2 :: L) (ru ρ 2 (.slice x223 l224 c225))) s)
 (h3 : ∀ L ρ s, Φ L ρ s → 3 ∉ L → 0 ∈ L → 2 ∈ L → ∃ (x226 : Option Addr) (l227 : Nat) (c228 : Nat) (x229 : Option Addr) (l230 : Nat) (c231 : Nat), ρ 0 = (.slice x226 l227 c228) ∧ ρ 2 = (.slice x229 l230 c231) ∧ (APP Pg 61 3 x226 l227 c228 x229 l230 fun x232 l233 c234 =>
 Φ (3 :: L) (ru ρ 3 (.slice x232 l233 c234))) s)
 (h4 : ∀ L ρ s, Φ L ρ s → 4 ∉ L → (NEW 63 [] fun B235 =>
 Φ (4 :: L) (ru ρ 4 (.slice (some ⟨B235, 0, none⟩) 0 0))) s)
 (h5 : ∀ L ρ s, Φ L ρ s → 5 ∉ L → (Φ (5 :: L) (ru ρ 5 (.pointer (some (Addr.add za2 3))))) s)
 (h6 : ∀ L ρ s, Φ L ρ s → 6 ∉ L → 5 ∈ L → ∃ (a236 : Addr), ρ 5 = (.pointer (some a236)) ∧ (RDL a236 fun x237 l238 c239 =>
 Φ (6 :: L) (ru ρ 6 (.slice x237 l238 c239))) s)
 (h7 : ∀ L ρ s, Φ L ρ s → 7 ∉ L → 3 ∈ L → 4 ∈ L → 6 ∈ L → ∃ (x240 : Option Addr) (l241 : Nat) (c242 : Nat) (x243 : Option Addr) (l244 : Nat) (c245 : Nat), ρ 4 = (.slice x240 l241 c242) ∧ ρ 6 = (.slice x243 l244 c245) ∧ (APP Pg 63 4 x240 l241 c242 x243 l244 fun x246 l247 c248 =>
 Φ (7 :: L) (ru ρ 7 (.slice x246 l247 c248))) s)
 (h8 : ∀ L ρ s, Φ L ρ s → 8 ∉ L → (NEW 66 [] fun B249 =>
 Φ (8 :: L) (ru ρ 8 (.slice (some ⟨B249, 0, none⟩) 0 0))) s)
 (h9 : ∀ L ρ s, Φ L ρ s → 9 ∉ L → (Φ (9 :: L) (ru ρ 9 (.pointer (some (Addr.add za2 0))))) s)
 (h10 : ∀ L ρ s, Φ L ρ s → 10 ∉ L → 9 ∈ L → ∃ (a250 : Addr), ρ 9 = (.pointer (some a250)) ∧ (RDL a250 fun x251 l252 c253 =>
 Φ (10 :: L) (ru ρ 10 (.slice x251 l252 c253))) s)
 (h11 : ∀ L ρ s, Φ L ρ s → 11 ∉ L → 7 ∈ L → 8 ∈ L → 10 ∈ L → ∃ (x254 : Option Addr) (l255 : Nat) (c256 : Nat) (x257 : Option Addr) (l258 : Nat) (c259 : Nat), ρ 8 = (.slice x254 l255 c256) ∧ ρ 10 = (.slice x257 l258 c259) ∧ (APP Pg 66 4 x254 l255 c256 x257 l258 fun x260 l261 c262 =>
 Φ (11 :: L) (ru ρ 11 (.slice x260 l261 c262))) s)
 (h12 : ∀ L ρ s, Φ L ρ s → 12 ∉ L → 0 ∈ L → 1 ∈ L → 2 ∈ L → 3 ∈ L → 11 ∈ L → ∃ (x263 : Option Addr) (l264 : Nat) (c265 : Nat), ρ 3 = (.slice x263 l264 c265) ∧ (Φ (12 :: L) (ru ρ 12 (.slice x263 l264 c265))) s)
 (h13 : ∀ L ρ s, Φ L ρ s → 13 ∉ L → 0 ∈ L → 1 ∈ L → 2 ∈ L → 3 ∈ L → 4 ∈ L → 5 ∈ L → 6 ∈ L → 7 ∈ L → 12 ∈ L → ∃ (x266 : Option Addr) (l267 : Nat) (c268 : Nat), ρ 7 = (.slice x266 l267 c268) ∧ (Φ (13 :: L) (ru ρ 13 (.slice x266 l267 c268))) s)
 (h14 : ∀ L ρ s, Φ L ρ s → 14 ∉ L → 0 ∈ L → 1 ∈ L → 2 ∈ L → 3 ∈ L → 4 ∈ L → 5 ∈ L → 6 ∈ L → 7 ∈ L → 8 ∈ L → 9 ∈ L → 10 ∈ L → 11 ∈ L → 12 ∈ L → 13 ∈ L → ∃ (x269 : Option Addr) (l270 : Nat) (c271 : Nat), ρ 11 = (.slice x269 l270 c271) ∧ (Φ (14 :: L) (ru ρ 14 (.slice x269 l270 c271))) s)
 (l2 : ∀ L ρ s, Φ L ρ s → 2 ∈ L → 1 ∈ L → 3 ∉ L → 7 ∉ L → 11 ∉ L → 12 ∉ L → 13 ∉ L → 14 ∉ L → ∃ (a222 : Addr), ρ 1 = (.pointer (some a222)) ∧ (RDL a222 fun x223 l224 c225 =>
 fun _ => ((.slice x223 l224 c225) : Value) = ρ 2) s)
 (l6 : ∀ L ρ s, Φ L ρ s → 6 ∈ L → 5 ∈ L → 7 ∉ L → 11 ∉ L → 12 ∉ L → 13 ∉ L → 14 ∉ L → ∃ (a236 : Addr), ρ 5 = (.pointer (some a236)) ∧ (RDL a236 fun x237 l238 c239 =>
 fun _ => ((.slice x237 l238 c239) : Value) = ρ 6) s)
 (l10 : ∀ L ρ s, Φ L ρ s → 10 ∈ L → 9 ∈ L → 11 ∉ L → 12 ∉ L → 13 ∉ L → 14 ∉ L → ∃ (a250 : Addr), ρ 9 = (.pointer (some a250)) ∧ (RDL a250 fun x251 l252 c253 =>
 fun _ => ((.slice x251 l252 c253) : Value) = ρ 10) s)
 (hf : ∀ L ρ s, Φ L ρ s → (∀ k, k < 15 → k ∈ L) → ∃ (x272 : Option Addr) (l273 : Nat) (c274 : Nat) (x275 : Option Addr) (l276 : Nat) (c277 : Nat) (x278 : Option Addr) (l279 : Nat) (c280 : Nat), ρ 12 = (.slice x272 l273 c274) ∧ ρ 13 = (.slice x275 l276 c277) ∧ ρ 14 = (.slice x278 l279 c280) ∧ A_law07_ClockTurned_0 W R zn0 zn1 za2 za3 za4 za5 x272 l273 c274 x275 l276 c277 x278 l279 c280 s) : D_law07_ClockTurned_0 W R zn0 zn1 za2 za3 za4 za5 s := by
  refine DRG_rho (by kernel_rfl) (by kernel_rfl) (by kernel_rfl) 15 (by kernel_rfl) Φ (by decide) hi ?_ ?_ ?_
  · intro k hk0 L t ρ s hr hΦ hc hk hp
    rcases (show k = 0 ∨ k = 1 ∨ k = 2 ∨ k = 3 ∨ k = 4 ∨ k = 5 ∨ k = 6 ∨ k = 7 ∨ k = 8 ∨ k = 9 ∨ k = 10 ∨ k = 11 ∨ k = 12 ∨ k = 13 ∨ k = 14 by omega) with rfl | rfl | rfl | rfl | rfl | rfl | rfl | rfl | rfl | rfl | rfl | rfl | rfl | rfl | rfl
    · have hx := h0 L ρ s hΦ hk
      have hh := hx
      unfold STEPR
      rw [O_law07_ClockTurned_0_0 trivial]
      exact hh
    · have hx := h1 L ρ s hΦ hk
      have hh := hx
      unfold STEPR
      rw [O_law07_ClockTurned_0_1 ⟨hr.base 2 rfl rfl (by kernel_rfl), trivial⟩]
      exact hh
    · have hx := h2 L ρ s hΦ hk (hp 1 (by rw [show preds (opN (opsAt (sub (bodyOf Try.f7) [1, 1, 1, 1, 1, 1, 1, 1, 1, 0])) 2) = [1] by kernel_rfl]; simp))
      obtain ⟨a222, e0, hh⟩ := hx
      unfold STEPR
      rw [O_law07_ClockTurned_0_2 ⟨hr.at (hp 1 (by rw [show preds (opN (opsAt (sub (bodyOf Try.f7) [1, 1, 1, 1, 1, 1, 1, 1, 1, 0])) 2) = [1] by kernel_rfl]; simp)) (by kernel_rfl) e0, trivial⟩]
      exact hh
    · have hx := h3 L ρ s hΦ hk (hp 0 (by rw [show preds (opN (opsAt (sub (bodyOf Try.f7) [1, 1, 1, 1, 1, 1, 1, 1, 1, 0])) 3) = [0, 2] by kernel_rfl]; simp)) (hp 2 (by rw [show preds (opN (opsAt (sub (bodyOf Try.f7) [1, 1, 1, 1, 1, 1, 1, 1, 1, 0])) 3) = [0, 2] by kernel_rfl]; simp))
      obtain ⟨x226, l227, c228, x229, l230, c231, e0, e1, hh⟩ := hx
      unfold STEPR
      rw [O_law07_ClockTurned_0_3 ⟨hr.at (hp 0 (by rw [show preds (opN (opsAt (sub (bodyOf Try.f7) [1, 1, 1, 1, 1, 1, 1, 1, 1, 0])) 3) = [0, 2] by kernel_rfl]; simp)) (by kernel_rfl) e0, hr.at (hp 2 (by rw [show preds (opN (opsAt (sub (bodyOf Try.f7) [1, 1, 1, 1, 1, 1, 1, 1, 1, 0])) 3) = [0, 2] by kernel_rfl]; simp)) (by kernel_rfl) e1, trivial⟩]
      exact hh
    · have hx := h4 L ρ s hΦ hk
      have hh := hx
      unfold STEPR
      rw [O_law07_ClockTurned_0_4 trivial]
      exact hh
    · have hx := h5 L ρ s hΦ hk
      have hh := hx
      unfold STEPR
      rw [O_law07_ClockTurned_0_5 ⟨hr.base 2 rfl rfl (by kernel_rfl), trivial⟩]
      exact hh
    · have hx := h6 L ρ s hΦ hk (hp 5 (by rw [show preds (opN (opsAt (sub (bodyOf Try.f7) [1, 1, 1, 1, 1, 1, 1, 1, 1, 0])) 6) = [5] by kernel_rfl]; simp))
      obtain ⟨a236, e0, hh⟩ := hx
      unfold STEPR
      rw [O_law07_ClockTurned_0_6 ⟨hr.at (hp 5 (by rw [show preds (opN (opsAt (sub (bodyOf Try.f7) [1, 1, 1, 1, 1, 1, 1, 1, 1, 0])) 6) = [5] by kernel_rfl]; simp)) (by kernel_rfl) e0, trivial⟩]
      exact hh
    · have hx := h7 L ρ s hΦ hk (hp 3 (by rw [show preds (opN (opsAt (sub (bodyOf Try.f7) [1, 1, 1, 1, 1, 1, 1, 1, 1, 0])) 7) = [4, 6, 3] by kernel_rfl]; simp)) (hp 4 (by rw [show preds (opN (opsAt (sub (bodyOf Try.f7) [1, 1, 1, 1, 1, 1, 1, 1, 1, 0])) 7) = [4, 6, 3] by kernel_rfl]; simp)) (hp 6 (by rw [show preds (opN (opsAt (sub (bodyOf Try.f7) [1, 1, 1, 1, 1, 1, 1, 1, 1, 0])) 7) = [4, 6, 3] by kernel_rfl]; simp))
      obtain ⟨x240, l241, c242, x243, l244, c245, e0, e1, hh⟩ := hx
      unfold STEPR
      rw [O_law07_ClockTurned_0_7 ⟨hr.at (hp 4 (by rw [show preds (opN (opsAt (sub (bodyOf Try.f7) [1, 1, 1, 1, 1, 1, 1, 1, 1, 0])) 7) = [4, 6, 3] by kernel_rfl]; simp)) (by kernel_rfl) e0, hr.at (hp 6 (by rw [show preds (opN (opsAt (sub (bodyOf Try.f7) [1, 1, 1, 1, 1, 1, 1, 1, 1, 0])) 7) = [4, 6, 3] by kernel_rfl]; simp)) (by kernel_rfl) e1, trivial⟩]
      exact hh
    · have hx := h8 L ρ s hΦ hk
      have hh := hx
      unfold STEPR
      rw [O_law07_ClockTurned_0_8 trivial]
      exact hh
    · have hx := h9 L ρ s hΦ hk
      have hh := hx
      unfold STEPR
      rw [O_law07_ClockTurned_0_9 ⟨hr.base 2 rfl rfl (by kernel_rfl), trivial⟩]
      exact hh
    · have hx := h10 L ρ s hΦ hk (hp 9 (by rw [show preds (opN (opsAt (sub (bodyOf Try.f7) [1, 1, 1, 1, 1, 1, 1, 1, 1, 0])) 10) = [9] by kernel_rfl]; simp))
      obtain ⟨a250, e0, hh⟩ := hx
      unfold STEPR
      rw [O_law07_ClockTurned_0_10 ⟨hr.at (hp 9 (by rw [show preds (opN (opsAt (sub (bodyOf Try.f7) [1, 1, 1, 1, 1, 1, 1, 1, 1, 0])) 10) = [9] by kernel_rfl]; simp)) (by kernel_rfl) e0, trivial⟩]
      exact hh
    · have hx := h11 L ρ s hΦ hk (hp 7 (by rw [show preds (opN (opsAt (sub (bodyOf Try.f7) [1, 1, 1, 1, 1, 1, 1, 1, 1, 0])) 11) = [8, 10, 7] by kernel_rfl]; simp)) (hp 8 (by rw [show preds (opN (opsAt (sub (bodyOf Try.f7) [1, 1, 1, 1, 1, 1, 1, 1, 1, 0])) 11) = [8, 10, 7] by kernel_rfl]; simp)) (hp 10 (by rw [show preds (opN (opsAt (sub (bodyOf Try.f7) [1, 1, 1, 1, 1, 1, 1, 1, 1, 0])) 11) = [8, 10, 7] by kernel_rfl]; simp))
      obtain ⟨x254, l255, c256, x257, l258, c259, e0, e1, hh⟩ := hx
      unfold STEPR
      rw [O_law07_ClockTurned_0_11 ⟨hr.at (hp 8 (by rw [show preds (opN (opsAt (sub (bodyOf Try.f7) [1, 1, 1, 1, 1, 1, 1, 1, 1, 0])) 11) = [8, 10, 7] by kernel_rfl]; simp)) (by kernel_rfl) e0, hr.at (hp 10 (by rw [show preds (opN (opsAt (sub (bodyOf Try.f7) [1, 1, 1, 1, 1, 1, 1, 1, 1, 0])) 11) = [8, 10, 7] by kernel_rfl]; simp)) (by kernel_rfl) e1, trivial⟩]
      exact hh
    · have hx := h12 L ρ s hΦ hk (hp 0 (by rw [show preds (opN (opsAt (sub (bodyOf Try.f7) [1, 1, 1, 1, 1, 1, 1, 1, 1, 0])) 12) = [3, 11, 0, 1, 2, 3] by kernel_rfl]; simp)) (hp 1 (by rw [show preds (opN (opsAt (sub (bodyOf Try.f7) [1, 1, 1, 1, 1, 1, 1, 1, 1, 0])) 12) = [3, 11, 0, 1, 2, 3] by kernel_rfl]; simp)) (hp 2 (by rw [show preds (opN (opsAt (sub (bodyOf Try.f7) [1, 1, 1, 1, 1, 1, 1, 1, 1, 0])) 12) = [3, 11, 0, 1, 2, 3] by kernel_rfl]; simp)) (hp 3 (by rw [show preds (opN (opsAt (sub (bodyOf Try.f7) [1, 1, 1, 1, 1, 1, 1, 1, 1, 0])) 12) = [3, 11, 0, 1, 2, 3] by kernel_rfl]; simp)) (hp 11 (by rw [show preds (opN (opsAt (sub (bodyOf Try.f7) [1, 1, 1, 1, 1, 1, 1, 1, 1, 0])) 12) = [3, 11, 0, 1, 2, 3] by kernel_rfl]; simp))
      obtain ⟨x263, l264, c265, e0, hh⟩ := hx
      unfold STEPR
      rw [O_law07_ClockTurned_0_12 ⟨hr.at (hp 3 (by rw [show preds (opN (opsAt (sub (bodyOf Try.f7) [1, 1, 1, 1, 1, 1, 1, 1, 1, 0])) 12) = [3, 11, 0, 1, 2, 3] by kernel_rfl]; simp)) (by kernel_rfl) e0, trivial⟩]
      exact hh
    · have hx := h13 L ρ s hΦ hk (hp 0 (by rw [show preds (opN (opsAt (sub (bodyOf Try.f7) [1, 1, 1, 1, 1, 1, 1, 1, 1, 0])) 13) = [7, 12, 0, 1, 2, 3, 4, 5, 6, 7, 12] by kernel_rfl]; simp)) (hp 1 (by rw [show preds (opN (opsAt (sub (bodyOf Try.f7) [1, 1, 1, 1, 1, 1, 1, 1, 1, 0])) 13) = [7, 12, 0, 1, 2, 3, 4, 5, 6, 7, 12] by kernel_rfl]; simp)) (hp 2 (by rw [show preds (opN (opsAt (sub (bodyOf Try.f7) [1, 1, 1, 1, 1, 1, 1, 1, 1, 0])) 13) = [7, 12, 0, 1, 2, 3, 4, 5, 6, 7, 12] by kernel_rfl]; simp)) (hp 3 (by rw [show preds (opN (opsAt (sub (bodyOf Try.f7) [1, 1, 1, 1, 1, 1, 1, 1, 1, 0])) 13) = [7, 12, 0, 1, 2, 3, 4, 5, 6, 7, 12] by kernel_rfl]; simp)) (hp 4 (by rw [show preds (opN (opsAt (sub (bodyOf Try.f7) [1, 1, 1, 1, 1, 1, 1, 1, 1, 0])) 13) = [7, 12, 0, 1, 2, 3, 4, 5, 6, 7, 12] by kernel_rfl]; simp)) (hp 5 (by rw [show preds (opN (opsAt (sub (bodyOf Try.f7) [1, 1, 1, 1, 1, 1, 1, 1, 1, 0])) 13) = [7, 12, 0, 1, 2, 3, 4, 5, 6, 7, 12] by kernel_rfl]; simp)) (hp 6 (by rw [show preds (opN (opsAt (sub (bodyOf Try.f7) [1, 1, 1, 1, 1, 1, 1, 1, 1, 0])) 13) = [7, 12, 0, 1, 2, 3, 4, 5, 6, 7, 12] by kernel_rfl]; simp)) (hp 7 (by rw [show preds (opN (opsAt (sub (bodyOf Try.f7) [1, 1, 1, 1, 1, 1, 1, 1, 1, 0])) 13) = [7, 12, 0, 1, 2, 3, 4, 5, 6, 7, 12] by kernel_rfl]; simp)) (hp 12 (by rw [show preds (opN (opsAt (sub (bodyOf Try.f7) [1, 1, 1, 1, 1, 1, 1, 1, 1, 0])) 13) = [7, 12, 0, 1, 2, 3, 4, 5, 6, 7, 12] by kernel_rfl]; simp))
      obtain ⟨x266, l267, c268, e0, hh⟩ := hx
      unfold STEPR
      rw [O_law07_ClockTurned_0_13 ⟨hr.at (hp 7 (by rw [show preds (opN (opsAt (sub (bodyOf Try.f7) [1, 1, 1, 1, 1, 1, 1, 1, 1, 0])) 13) = [7, 12, 0, 1, 2, 3, 4, 5, 6, 7, 12] by kernel_rfl]; simp)) (by kernel_rfl) e0, trivial⟩]
      exact hh
    · have hx := h14 L ρ s hΦ hk (hp 0 (by rw [show preds (opN (opsAt (sub (bodyOf Try.f7) [1, 1, 1, 1, 1, 1, 1, 1, 1, 0])) 14) = [11, 13, 0, 1, 2, 3, 4, 5, 6, 7, 8, 9, 10, 11, 12, 13] by kernel_rfl]; simp)) (hp 1 (by rw [show preds (opN (opsAt (sub (bodyOf Try.f7) [1, 1, 1, 1, 1, 1, 1, 1, 1, 0])) 14) = [11, 13, 0, 1, 2, 3, 4, 5, 6, 7, 8, 9, 10, 11, 12, 13] by kernel_rfl]; simp)) (hp 2 (by rw [show preds (opN (opsAt (sub (bodyOf Try.f7) [1, 1, 1, 1, 1, 1, 1, 1, 1, 0])) 14) = [11, 13, 0, 1, 2, 3, 4, 5, 6, 7, 8, 9, 10, 11, 12, 13] by kernel_rfl]; simp)) (hp 3 (by rw [show preds (opN (opsAt (sub (bodyOf Try.f7) [1, 1, 1, 1, 1, 1, 1, 1, 1, 0])) 14) = [11, 13, 0, 1, 2, 3, 4, 5, 6, 7, 8, 9, 10, 11, 12, 13] by kernel_rfl]; simp)) (hp 4 (by rw [show preds (opN (opsAt (sub (bodyOf Try.f7) [1, 1, 1, 1, 1, 1, 1, 1, 1, 0])) 14) = [11, 13, 0, 1, 2, 3, 4, 5, 6, 7, 8, 9, 10, 11, 12, 13] by kernel_rfl]; simp)) (hp 5 (by rw [show preds (opN (opsAt (sub (bodyOf Try.f7) [1, 1, 1, 1, 1, 1, 1, 1, 1, 0])) 14) = [11, 13, 0, 1, 2, 3, 4, 5, 6, 7, 8, 9, 10, 11, 12, 13] by kernel_rfl]; simp)) (hp 6 (by rw [show preds (opN (opsAt (sub (bodyOf Try.f7) [1, 1, 1, 1, 1, 1, 1, 1, 1, 0])) 14) = [11, 13, 0, 1, 2, 3, 4, 5, 6, 7, 8, 9, 10, 11, 12, 13] by kernel_rfl]; simp)) (hp 7 (by rw [show preds (opN (opsAt (sub (bodyOf Try.f7) [1, 1, 1, 1, 1, 1, 1, 1, 1, 0])) 14) = [11, 13, 0, 1, 2, 3, 4, 5, 6, 7, 8, 9, 10, 11, 12, 13] by kernel_rfl]; simp)) (hp 8 (by rw [show preds (opN (opsAt (sub (bodyOf Try.f7) [1, 1, 1, 1, 1, 1, 1, 1, 1, 0])) 14) = [11, 13, 0, 1, 2, 3, 4, 5, 6, 7, 8, 9, 10, 11, 12, 13] by kernel_rfl]; simp)) (hp 9 (by rw [show preds (opN (opsAt (sub (bodyOf Try.f7) [1, 1, 1, 1, 1, 1, 1, 1, 1, 0])) 14) = [11, 13, 0, 1, 2, 3, 4, 5, 6, 7, 8, 9, 10, 11, 12, 13] by kernel_rfl]; simp)) (hp 10 (by rw [show preds (opN (opsAt (sub (bodyOf Try.f7) [1, 1, 1, 1, 1, 1, 1, 1, 1, 0])) 14) = [11, 13, 0, 1, 2, 3, 4, 5, 6, 7, 8, 9, 10, 11, 12, 13] by kernel_rfl]; simp)) (hp 11 (by rw [show preds (opN (opsAt (sub (bodyOf Try.f7) [1, 1, 1, 1, 1, 1, 1, 1, 1, 0])) 14) = [11, 13, 0, 1, 2, 3, 4, 5, 6, 7, 8, 9, 10, 11, 12, 13] by kernel_rfl]; simp)) (hp 12 (by rw [show preds (opN (opsAt (sub (bodyOf Try.f7) [1, 1, 1, 1, 1, 1, 1, 1, 1, 0])) 14) = [11, 13, 0, 1, 2, 3, 4, 5, 6, 7, 8, 9, 10, 11, 12, 13] by kernel_rfl]; simp)) (hp 13 (by rw [show preds (opN (opsAt (sub (bodyOf Try.f7) [1, 1, 1, 1, 1, 1, 1, 1, 1, 0])) 14) = [11, 13, 0, 1, 2, 3, 4, 5, 6, 7, 8, 9, 10, 11, 12, 13] by kernel_rfl]; simp))
      obtain ⟨x269, l270, c271, e0, hh⟩ := hx
      unfold STEPR
      rw [O_law07_ClockTurned_0_14 ⟨hr.at (hp 11 (by rw [show preds (opN (opsAt (sub (bodyOf Try.f7) [1, 1, 1, 1, 1, 1, 1, 1, 1, 0])) 14) = [11, 13, 0, 1, 2, 3, 4, 5, 6, 7, 8, 9, 10, 11, 12, 13] by kernel_rfl]; simp)) (by kernel_rfl) e0, trivial⟩]
      exact hh
  · intro q hq0 hlo L t ρ s hr hΦ hc hq hno
    rcases (show q = 0 ∨ q = 1 ∨ q = 2 ∨ q = 3 ∨ q = 4 ∨ q = 5 ∨ q = 6 ∨ q = 7 ∨ q = 8 ∨ q = 9 ∨ q = 10 ∨ q = 11 ∨ q = 12 ∨ q = 13 ∨ q = 14 by omega) with rfl | rfl | rfl | rfl | rfl | rfl | rfl | rfl | rfl | rfl | rfl | rfl | rfl | rfl | rfl
    · exact absurd hlo (by rw [show isLoad (opN (opsAt (sub (bodyOf Try.f7) [1, 1, 1, 1, 1, 1, 1, 1, 1, 0])) 0) = false by kernel_rfl]; simp)
    · exact absurd hlo (by rw [show isLoad (opN (opsAt (sub (bodyOf Try.f7) [1, 1, 1, 1, 1, 1, 1, 1, 1, 0])) 1) = false by kernel_rfl]; simp)
    · have hx := l2 L ρ s hΦ hq (hc 2 hq 1 (by rw [show preds (opN (opsAt (sub (bodyOf Try.f7) [1, 1, 1, 1, 1, 1, 1, 1, 1, 0])) 2) = [1] by kernel_rfl]; simp)) (fun hm => absurd (hno 3 hm (by kernel_rfl)) (by rw [show bit ((masks (opsAt (sub (bodyOf Try.f7) [1, 1, 1, 1, 1, 1, 1, 1, 1, 0])) []).getD 3 0) 2 = true by kernel_rfl]; simp)) (fun hm => absurd (hno 7 hm (by kernel_rfl)) (by rw [show bit ((masks (opsAt (sub (bodyOf Try.f7) [1, 1, 1, 1, 1, 1, 1, 1, 1, 0])) []).getD 7 0) 2 = true by kernel_rfl]; simp)) (fun hm => absurd (hno 11 hm (by kernel_rfl)) (by rw [show bit ((masks (opsAt (sub (bodyOf Try.f7) [1, 1, 1, 1, 1, 1, 1, 1, 1, 0])) []).getD 11 0) 2 = true by kernel_rfl]; simp)) (fun hm => absurd (hno 12 hm (by kernel_rfl)) (by rw [show bit ((masks (opsAt (sub (bodyOf Try.f7) [1, 1, 1, 1, 1, 1, 1, 1, 1, 0])) []).getD 12 0) 2 = true by kernel_rfl]; simp)) (fun hm => absurd (hno 13 hm (by kernel_rfl)) (by rw [show bit ((masks (opsAt (sub (bodyOf Try.f7) [1, 1, 1, 1, 1, 1, 1, 1, 1, 0])) []).getD 13 0) 2 = true by kernel_rfl]; simp)) (fun hm => absurd (hno 14 hm (by kernel_rfl)) (by rw [show bit ((masks (opsAt (sub (bodyOf Try.f7) [1, 1, 1, 1, 1, 1, 1, 1, 1, 0])) []).getD 14 0) 2 = true by kernel_rfl]; simp))
      obtain ⟨a222, e0, hh⟩ := hx
      rw [O_law07_ClockTurned_0_2 ⟨hr.at (hc 2 hq 1 (by rw [show preds (opN (opsAt (sub (bodyOf Try.f7) [1, 1, 1, 1, 1, 1, 1, 1, 1, 0])) 2) = [1] by kernel_rfl]; simp)) (by kernel_rfl) e0, trivial⟩]
      exact hh
    · exact absurd hlo (by rw [show isLoad (opN (opsAt (sub (bodyOf Try.f7) [1, 1, 1, 1, 1, 1, 1, 1, 1, 0])) 3) = false by kernel_rfl]; simp)
    · exact absurd hlo (by rw [show isLoad (opN (opsAt (sub (bodyOf Try.f7) [1, 1, 1, 1, 1, 1, 1, 1, 1, 0])) 4) = false by kernel_rfl]; simp)
    · exact absurd hlo (by rw [show isLoad (opN (opsAt (sub (bodyOf Try.f7) [1, 1, 1, 1, 1, 1, 1, 1, 1, 0])) 5) = false by kernel_rfl]; simp)
    · have hx := l6 L ρ s hΦ hq (hc 6 hq 5 (by rw [show preds (opN (opsAt (sub (bodyOf Try.f7) [1, 1, 1, 1, 1, 1, 1, 1, 1, 0])) 6) = [5] by kernel_rfl]; simp)) (fun hm => absurd (hno 7 hm (by kernel_rfl)) (by rw [show bit ((masks (opsAt (sub (bodyOf Try.f7) [1, 1, 1, 1, 1, 1, 1, 1, 1, 0])) []).getD 7 0) 6 = true by kernel_rfl]; simp)) (fun hm => absurd (hno 11 hm (by kernel_rfl)) (by rw [show bit ((masks (opsAt (sub (bodyOf Try.f7) [1, 1, 1, 1, 1, 1, 1, 1, 1, 0])) []).getD 11 0) 6 = true by kernel_rfl]; simp)) (fun hm => absurd (hno 12 hm (by kernel_rfl)) (by rw [show bit ((masks (opsAt (sub (bodyOf Try.f7) [1, 1, 1, 1, 1, 1, 1, 1, 1, 0])) []).getD 12 0) 6 = true by kernel_rfl]; simp)) (fun hm => absurd (hno 13 hm (by kernel_rfl)) (by rw [show bit ((masks (opsAt (sub (bodyOf Try.f7) [1, 1, 1, 1, 1, 1, 1, 1, 1, 0])) []).getD 13 0) 6 = true by kernel_rfl]; simp)) (fun hm => absurd (hno 14 hm (by kernel_rfl)) (by rw [show bit ((masks (opsAt (sub (bodyOf Try.f7) [1, 1, 1, 1, 1, 1, 1, 1, 1, 0])) []).getD 14 0) 6 = true by kernel_rfl]; simp))
      obtain ⟨a236, e0, hh⟩ := hx
      rw [O_law07_ClockTurned_0_6 ⟨hr.at (hc 6 hq 5 (by rw [show preds (opN (opsAt (sub (bodyOf Try.f7) [1, 1, 1, 1, 1, 1, 1, 1, 1, 0])) 6) = [5] by kernel_rfl]; simp)) (by kernel_rfl) e0, trivial⟩]
      exact hh
    · exact absurd hlo (by rw [show isLoad (opN (opsAt (sub (bodyOf Try.f7) [1, 1, 1, 1, 1, 1, 1, 1, 1, 0])) 7) = false by kernel_rfl]; simp)
    · exact absurd hlo (by rw [show isLoad (opN (opsAt (sub (bodyOf Try.f7) [1, 1, 1, 1, 1, 1, 1, 1, 1, 0])) 8) = false by kernel_rfl]; simp)
    · exact absurd hlo (by rw [show isLoad (opN (opsAt (sub (bodyOf Try.f7) [1, 1, 1, 1, 1, 1, 1, 1, 1, 0])) 9) = false by kernel_rfl]; simp)
    · have hx := l10 L ρ s hΦ hq (hc 10 hq 9 (by rw [show preds (opN (opsAt (sub (bodyOf Try.f7) [1, 1, 1, 1, 1, 1, 1, 1, 1, 0])) 10) = [9] by kernel_rfl]; simp)) (fun hm => absurd (hno 11 hm (by kernel_rfl)) (by rw [show bit ((masks (opsAt (sub (bodyOf Try.f7) [1, 1, 1, 1, 1, 1, 1, 1, 1, 0])) []).getD 11 0) 10 = true by kernel_rfl]; simp)) (fun hm => absurd (hno 12 hm (by kernel_rfl)) (by rw [show bit ((masks (opsAt (sub (bodyOf Try.f7) [1, 1, 1, 1, 1, 1, 1, 1, 1, 0])) []).getD 12 0) 10 = true by kernel_rfl]; simp)) (fun hm => absurd (hno 13 hm (by kernel_rfl)) (by rw [show bit ((masks (opsAt (sub (bodyOf Try.f7) [1, 1, 1, 1, 1, 1, 1, 1, 1, 0])) []).getD 13 0) 10 = true by kernel_rfl]; simp)) (fun hm => absurd (hno 14 hm (by kernel_rfl)) (by rw [show bit ((masks (opsAt (sub (bodyOf Try.f7) [1, 1, 1, 1, 1, 1, 1, 1, 1, 0])) []).getD 14 0) 10 = true by kernel_rfl]; simp))
      obtain ⟨a250, e0, hh⟩ := hx
      rw [O_law07_ClockTurned_0_10 ⟨hr.at (hc 10 hq 9 (by rw [show preds (opN (opsAt (sub (bodyOf Try.f7) [1, 1, 1, 1, 1, 1, 1, 1, 1, 0])) 10) = [9] by kernel_rfl]; simp)) (by kernel_rfl) e0, trivial⟩]
      exact hh
    · exact absurd hlo (by rw [show isLoad (opN (opsAt (sub (bodyOf Try.f7) [1, 1, 1, 1, 1, 1, 1, 1, 1, 0])) 11) = false by kernel_rfl]; simp)
    · exact absurd hlo (by rw [show isLoad (opN (opsAt (sub (bodyOf Try.f7) [1, 1, 1, 1, 1, 1, 1, 1, 1, 0])) 12) = false by kernel_rfl]; simp)
    · exact absurd hlo (by rw [show isLoad (opN (opsAt (sub (bodyOf Try.f7) [1, 1, 1, 1, 1, 1, 1, 1, 1, 0])) 13) = false by kernel_rfl]; simp)
    · exact absurd hlo (by rw [show isLoad (opN (opsAt (sub (bodyOf Try.f7) [1, 1, 1, 1, 1, 1, 1, 1, 1, 0])) 14) = false by kernel_rfl]; simp)
  · intro L t ρ s hr hΦ hall
    have hx := hf L ρ s hΦ hall
    obtain ⟨x272, l273, c274, x275, l276, c277, x278, l279, c280, e0, e1, e2, hh⟩ := hx
    rw [A_law07_ClockTurned_0_eq W R zn0 zn1 za2 za3 za4 za5 ⟨hr.base 0 rfl rfl (by kernel_rfl), hr.base 1 rfl rfl (by kernel_rfl), hr.base 2 rfl rfl (by kernel_rfl), hr.base 3 rfl rfl (by kernel_rfl), hr.base 4 rfl rfl (by kernel_rfl), hr.base 5 rfl rfl (by kernel_rfl), hr.base 6 rfl rfl (by kernel_rfl), hr.at (hall 12 (by omega)) (by kernel_rfl) e0, hr.at (hall 13 (by omega)) (by kernel_rfl) e1, hr.at (hall 14 (by omega)) (by kernel_rfl) e2, hr.base 7 rfl rfl (by kernel_rfl), trivial⟩]
    exact hh
def A_law07_ClockTurned_1 (W : World) (R : Ending → Hp → Prop) (nx3 : List Value → Hp → Prop) (zn0 : Int) (za1 : Addr) (zb2 : Bool) (za3 : Addr) (za4 : Addr) (za5 : Addr) (zp6 : Option Addr) (zl7 : Nat) (zl8 : Nat) (zp9 : Option Addr) (zl10 : Nat) (zl11 : Nat) (zp12 : Option Addr) (zl13 : Nat) (zl14 : Nat) (zn15 : Int) (zn16 : Int) (zn17 : Int) (za18 : Addr) (za19 : Addr) (zn20 : Int) (zn21 : Int) (a964 : Addr) (a965 : Addr) (n966 : Int) : Hp → Prop :=
 RDL (Addr.add za1 0) fun x967 l968 c969 =>
 RDI .i64 (Addr.add za1 1) fun n970 =>
 RDL (Addr.add za1 2) fun x971 l972 c973 =>
 RDL (Addr.add za1 3) fun x974 l975 c976 =>
 CALL Pg W F_clock_Shows [(.agg #[(.slice x967 l968 c969), (.int .i64 n970), (.slice x971 l972 c973), (.slice x974 l975 c976)]), (.int .i64 zn17), (.int .i64 zn0)]
 (fun v977 => TUP v977 fun q979 => HD q979 fun v980 r981 => AGG v980 fun q982 => HD q982 fun v983 r984 => TYI .i64 v983 fun n985 =>
 HD r984 fun v986 r987 => TYI .i64 v986 fun n988 =>
 NL r987 <|
 HD r981 fun v989 r990 => TYI .i64 v989 fun n991 =>
 NL r990 <|
 NEWZ Pg 34 fun B992 =>
 WR (Addr.add ⟨B992, 0, none⟩ 0) (.int .i64 n985) <|
 WR (Addr.add ⟨B992, 0, none⟩ 1) (.int .i64 n988) <|
 RDL (Addr.add za5 0) fun x993 l994 c995 =>
 RDI .i64 (Addr.add za5 1) fun n996 =>
 RDL (Addr.add za5 2) fun x997 l998 c999 =>
 RDL (Addr.add za5 3) fun x1000 l1001 c1002 =>
 CONJ [
 CALLV Pg W (.func (.func 33) #[] #[(.pointer (some za4)), (.pointer (some za1))]) [(.int .i64 zn17)]
 (fun v1003 => TYI .i64 v1003 fun n1005 =>
 ANDS (RDL (Addr.add za5 0) fun x1006 l1007 c1008 =>
 RDI .i64 (Addr.add za5 1) fun n1009 =>
 RDL (Addr.add za5 2) fun x1010 l1011 c1012 =>
 RDL (Addr.add za5 3) fun x1013 l1014 c1015 =>
 fun _ => ((.agg #[(.slice x1006 l1007 c1008), (.int .i64 n1009), (.slice x1010 l1011 c1012), (.slice x1013 l1014 c1015)]) : Value) = (.agg #[(.slice x993 l994 c995), (.int .i64 n996), (.slice x997 l998 c999), (.slice x1000 l1001 c1002)])) <|
 CONJ [
 CALLV Pg W (.func (.func 32) #[] #[(.pointer (some za3)), (.pointer (some za1))]) [(.int .i64 zn0)]
 (fun v1016 => TYI .i64 v1016 fun n1018 =>
 ANDS (RDL (Addr.add za5 0) fun x1019 l1020 c1021 =>
 RDI .i64 (Addr.add za5 1) fun n1022 =>
 RDL (Addr.add za5 2) fun x1023 l1024 c1025 =>
 RDL (Addr.add za5 3) fun x1026 l1027 c1028 =>
 fun _ => ((.agg #[(.slice x1019 l1020 c1021), (.int .i64 n1022), (.slice x1023 l1024 c1025), (.slice x1026 l1027 c1028)]) : Value) = (.agg #[(.slice x993 l994 c995), (.int .i64 n996), (.slice x997 l998 c999), (.slice x1000 l1001 c1002)])) <|
 CONJ [
 CALL Pg W F_clock_Shows [(.agg #[(.slice x993 l994 c995), (.int .i64 n996), (.slice x997 l998 c999), (.slice x1000 l1001 c1002)]), (.int .i64 n1005), (.int .i64 n1018)]
 (fun v1029 => TUP v1029 fun q1031 => HD q1031 fun v1032 r1033 => AGG v1032 fun q1034 => HD q1034 fun v1035 r1036 => TYI .i64 v1035 fun n1037 =>
 HD r1036 fun v1038 r1039 => TYI .i64 v1038 fun n1040 =>
 NL r1039 <|
 HD r1033 fun v1041 r1042 => TYI .i64 v1041 fun n1043 =>
 NL r1042 <|
 NEWZ Pg 34 fun B1044 =>
 ANDS (RDL (Addr.add za5 0) fun x1045 l1046 c1047 =>
 RDI .i64 (Addr.add za5 1) fun n1048 =>
 RDL (Addr.add za5 2) fun x1049 l1050 c1051 =>
 RDL (Addr.add za5 3) fun x1052 l1053 c1054 =>
 fun _ => ((.agg #[(.slice x1045 l1046 c1047), (.int .i64 n1048), (.slice x1049 l1050 c1051), (.slice x1052 l1053 c1054)]) : Value) = (.agg #[(.slice x993 l994 c995), (.int .i64 n996), (.slice x997 l998 c999), (.slice x1000 l1001 c1002)])) <|
 WR (Addr.add ⟨B1044, 0, none⟩ 0) (.int .i64 n1037) <|
 WR (Addr.add ⟨B1044, 0, none⟩ 1) (.int .i64 n1040) <|
 J_law07_ClockTurned_24 W R za18 a964 zn0 za1 za3 za4 za5 zp6 zl7 zl8 zp9 zl10 zl11 zp12 zl13 zl14 zn15 zn16 zn21 nx3 zb2 zn17 n991 n1043 B992 (some ⟨B1044, 0, none⟩) zn20 n966 za19 a965)
 (fun e1030 => R (.panicked e1030)),
 NEWZ Pg 34 fun B1152 =>
 ANDS (RDL (Addr.add za5 0) fun x1153 l1154 c1155 =>
 RDI .i64 (Addr.add za5 1) fun n1156 =>
 RDL (Addr.add za5 2) fun x1157 l1158 c1159 =>
 RDL (Addr.add za5 3) fun x1160 l1161 c1162 =>
 fun _ => ((.agg #[(.slice x1153 l1154 c1155), (.int .i64 n1156), (.slice x1157 l1158 c1159), (.slice x1160 l1161 c1162)]) : Value) = (.agg #[(.slice x993 l994 c995), (.int .i64 n996), (.slice x997 l998 c999), (.slice x1000 l1001 c1002)])) <|
 CALL Pg W F_clock_Shows [(.agg #[(.slice x993 l994 c995), (.int .i64 n996), (.slice x997 l998 c999), (.slice x1000 l1001 c1002)]), (.int .i64 n1005), (.int .i64 n1018)]
 (fun v1163 => TUP v1163 fun q1165 => HD q1165 fun v1166 r1167 => AGG v1166 fun q1168 => HD q1168 fun v1169 r1170 => TYI .i64 v1169 fun n1171 =>
 HD r1170 fun v1172 r1173 => TYI .i64 v1172 fun n1174 =>
 NL r1173 <|
 HD r1167 fun v1175 r1176 => TYI .i64 v1175 fun n1177 =>
 NL r1176 <|
 WR (Addr.add ⟨B1152, 0, none⟩ 0) (.int .i64 n1171) <|
 WR (Addr.add ⟨B1152, 0, none⟩ 1) (.int .i64 n1174) <|
 J_law07_ClockTurned_24 W R za18 a964 zn0 za1 za3 za4 za5 zp6 zl7 zl8 zp9 zl10 zl11 zp12 zl13 zl14 zn15 zn16 zn21 nx3 zb2 zn17 n991 n1177 B992 (some ⟨B1152, 0, none⟩) zn20 n966 za19 a965)
 (fun e1164 => R (.panicked e1164))])
 (fun e1017 => R (.panicked e1017)),
 NEWZ Pg 34 fun B1178 =>
 ANDS (RDL (Addr.add za5 0) fun x1179 l1180 c1181 =>
 RDI .i64 (Addr.add za5 1) fun n1182 =>
 RDL (Addr.add za5 2) fun x1183 l1184 c1185 =>
 RDL (Addr.add za5 3) fun x1186 l1187 c1188 =>
 fun _ => ((.agg #[(.slice x1179 l1180 c1181), (.int .i64 n1182), (.slice x1183 l1184 c1185), (.slice x1186 l1187 c1188)]) : Value) = (.agg #[(.slice x993 l994 c995), (.int .i64 n996), (.slice x997 l998 c999), (.slice x1000 l1001 c1002)])) <|
 CALLV Pg W (.func (.func 32) #[] #[(.pointer (some za3)), (.pointer (some za1))]) [(.int .i64 zn0)]
 (fun v1189 => TYI .i64 v1189 fun n1191 =>
 ANDS (RDL (Addr.add za5 0) fun x1192 l1193 c1194 =>
 RDI .i64 (Addr.add za5 1) fun n1195 =>
 RDL (Addr.add za5 2) fun x1196 l1197 c1198 =>
 RDL (Addr.add za5 3) fun x1199 l1200 c1201 =>
 fun _ => ((.agg #[(.slice x1192 l1193 c1194), (.int .i64 n1195), (.slice x1196 l1197 c1198), (.slice x1199 l1200 c1201)]) : Value) = (.agg #[(.slice x993 l994 c995), (.int .i64 n996), (.slice x997 l998 c999), (.slice x1000 l1001 c1002)])) <|
 CALL Pg W F_clock_Shows [(.agg #[(.slice x993 l994 c995), (.int .i64 n996), (.slice x997 l998 c999), (.slice x1000 l1001 c1002)]), (.int .i64 n1005), (.int .i64 n1191)]
 (fun v1202 => TUP v1202 fun q1204 => HD q1204 fun v1205 r1206 => AGG v1205 fun q1207 => HD q1207 fun v1208 r1209 => TYI .i64 v1208 fun n1210 =>
 HD r1209 fun v1211 r1212 => TYI .i64 v1211 fun n1213 =>
 NL r1212 <|
 HD r1206 fun v1214 r1215 => TYI .i64 v1214 fun n1216 =>
 NL r1215 <|
 WR (Addr.add ⟨B1178, 0, none⟩ 0) (.int .i64 n1210) <|
 WR (Addr.add ⟨B1178, 0, none⟩ 1) (.int .i64 n1213) <|
 J_law07_ClockTurned_24 W R za18 a964 zn0 za1 za3 za4 za5 zp6 zl7 zl8 zp9 zl10 zl11 zp12 zl13 zl14 zn15 zn16 zn21 nx3 zb2 zn17 n991 n1216 B992 (some ⟨B1178, 0, none⟩) zn20 n966 za19 a965)
 (fun e1203 => R (.panicked e1203)))
 (fun e1190 => R (.panicked e1190))])
 (fun e1004 => R (.panicked e1004)),
 NEWZ Pg 34 fun B1217 =>
 ANDS (RDL (Addr.add za5 0) fun x1218 l1219 c1220 =>
 RDI .i64 (Addr.add za5 1) fun n1221 =>
 RDL (Addr.add za5 2) fun x1222 l1223 c1224 =>
 RDL (Addr.add za5 3) fun x1225 l1226 c1227 =>
 fun _ => ((.agg #[(.slice x1218 l1219 c1220), (.int .i64 n1221), (.slice x1222 l1223 c1224), (.slice x1225 l1226 c1227)]) : Value) = (.agg #[(.slice x993 l994 c995), (.int .i64 n996), (.slice x997 l998 c999), (.slice x1000 l1001 c1002)])) <|
 CALLV Pg W (.func (.func 33) #[] #[(.pointer (some za4)), (.pointer (some za1))]) [(.int .i64 zn17)]
 (fun v1228 => TYI .i64 v1228 fun n1230 =>
 ANDS (RDL (Addr.add za5 0) fun x1231 l1232 c1233 =>
 RDI .i64 (Addr.add za5 1) fun n1234 =>
 RDL (Addr.add za5 2) fun x1235 l1236 c1237 =>
 RDL (Addr.add za5 3) fun x1238 l1239 c1240 =>
 fun _ => ((.agg #[(.slice x1231 l1232 c1233), (.int .i64 n1234), (.slice x1235 l1236 c1237), (.slice x1238 l1239 c1240)]) : Value) = (.agg #[(.slice x993 l994 c995), (.int .i64 n996), (.slice x997 l998 c999), (.slice x1000 l1001 c1002)])) <|
 CALLV Pg W (.func (.func 32) #[] #[(.pointer (some za3)), (.pointer (some za1))]) [(.int .i64 zn0)]
 (fun v1241 => TYI .i64 v1241 fun n1243 =>
 ANDS (RDL (Addr.add za5 0) fun x1244 l1245 c1246 =>
 RDI .i64 (Addr.add za5 1) fun n1247 =>
 RDL (Addr.add za5 2) fun x1248 l1249 c1250 =>
 RDL (Addr.add za5 3) fun x1251 l1252 c1253 =>
 fun _ => ((.agg #[(.slice x1244 l1245 c1246), (.int .i64 n1247), (.slice x1248 l1249 c1250), (.slice x1251 l1252 c1253)]) : Value) = (.agg #[(.slice x993 l994 c995), (.int .i64 n996), (.slice x997 l998 c999), (.slice x1000 l1001 c1002)])) <|
 CALL Pg W F_clock_Shows [(.agg #[(.slice x993 l994 c995), (.int .i64 n996), (.slice x997 l998 c999), (.slice x1000 l1001 c1002)]), (.int .i64 n1230), (.int .i64 n1243)]
 (fun v1254 => TUP v1254 fun q1256 => HD q1256 fun v1257 r1258 => AGG v1257 fun q1259 => HD q1259 fun v1260 r1261 => TYI .i64 v1260 fun n1262 =>
 HD r1261 fun v1263 r1264 => TYI .i64 v1263 fun n1265 =>
 NL r1264 <|
 HD r1258 fun v1266 r1267 => TYI .i64 v1266 fun n1268 =>
 NL r1267 <|
 WR (Addr.add ⟨B1217, 0, none⟩ 0) (.int .i64 n1262) <|
 WR (Addr.add ⟨B1217, 0, none⟩ 1) (.int .i64 n1265) <|
 J_law07_ClockTurned_24 W R za18 a964 zn0 za1 za3 za4 za5 zp6 zl7 zl8 zp9 zl10 zl11 zp12 zl13 zl14 zn15 zn16 zn21 nx3 zb2 zn17 n991 n1268 B992 (some ⟨B1217, 0, none⟩) zn20 n966 za19 a965)
 (fun e1255 => R (.panicked e1255)))
 (fun e1242 => R (.panicked e1242)))
 (fun e1229 => R (.panicked e1229))])
 (fun e978 => R (.panicked e978))
theorem A_law07_ClockTurned_1_eq (W : World) (R : Ending → Hp → Prop) (nx3 : List Value → Hp → Prop) (zn0 : Int) (za1 : Addr) (zb2 : Bool) (za3 : Addr) (za4 : Addr) (za5 : Addr) (zp6 : Option Addr) (zl7 : Nat) (zl8 : Nat) (zp9 : Option Addr) (zl10 : Nat) (zl11 : Nat) (zp12 : Option Addr) (zl13 : Nat) (zl14 : Nat) (zn15 : Int) (zn16 : Int) (zn17 : Int) (za18 : Addr) (za19 : Addr) (zn20 : Int) (zn21 : Int) {a964 : Addr} {a965 : Addr} {n966 : Int} {t : Tm} (h : KN [1, 5, 10, 11, 12, 13, 20, 21, 22, 41, 43, 45, 46, 47, 48, 49, 50, 51, 357, 358, 477] [(.int .i64 zn0), (.pointer (some za1)), (.bool zb2), (.func (.func 32) #[] #[(.pointer (some za3)), (.pointer (some za1))]), (.func (.func 33) #[] #[(.pointer (some za4)), (.pointer (some za1))]), (.pointer (some za5)), (.slice zp6 zl7 zl8), (.slice zp9 zl10 zl11), (.slice zp12 zl13 zl14), (.int .i64 zn15), (.int .i64 zn16), (.int .i64 zn17), (.pointer (some za18)), (.pointer (some za19)), (.int .i64 zn20), (.pointer (some a964)), (.pointer (some a965)), (.int .i64 n966), (.int .i64 zn21), (.int .i64 zn17), (.tuple #[])] t) : (KS Pg W 477 rs_7 an_7 false (sub (bodyOf Try.f7) [1, 1, 1, 1, 1, 1, 1, 1, 1, 1, 1, 1, 1, 1, 1, 1, 1, 1, 1, 1, 1, 1, 1, 0, 1, 0, 0, 1, 1, 0, 0, 1, 1, 1]) 7 (KBlk 7 (KS Pg W 477 rs_7 an_7 false (sub (bodyOf Try.f7) [1, 1, 1, 1, 1, 1, 1, 1, 1, 1, 1, 1, 1, 1, 1, 1, 1, 1, 1, 1, 1, 1, 1, 0, 1, 0, 0, 1, 1, 1]) 6 (KLoop [10, 358] [1, 5, 11, 12, 13, 20, 21, 22, 41, 43, 357, 477] [(.int .i64 zn0), (.pointer (some za1)), (.func (.func 32) #[] #[(.pointer (some za3)), (.pointer (some za1))]), (.func (.func 33) #[] #[(.pointer (some za4)), (.pointer (some za1))]), (.pointer (some za5)), (.slice zp6 zl7 zl8), (.slice zp9 zl10 zl11), (.slice zp12 zl13 zl14), (.int .i64 zn15), (.int .i64 zn16), (.int .i64 zn21), (.tuple #[])] nx3 (KBlk 6 (KS Pg W 477 rs_7 an_7 false (sub (bodyOf Try.f7) [1, 1, 1, 1, 1, 1, 1, 1, 1, 1, 1, 1, 1, 1, 1, 1, 1, 1, 1, 1, 1, 1, 1, 1]) 0 (fin Pg W 477 rv_7 R))))))) .normal t = A_law07_ClockTurned_1 W R nx3 zn0 za1 zb2 za3 za4 za5 zp6 zl7 zl8 zp9 zl10 zl11 zp12 zl13 zl14 zn15 zn16 zn17 za18 za19 zn20 zn21 a964 a965 n966 :=
  (congrArg (fun u => (KS Pg W 477 rs_7 an_7 false (sub (bodyOf Try.f7) [1, 1, 1, 1, 1, 1, 1, 1, 1, 1, 1, 1, 1, 1, 1, 1, 1, 1, 1, 1, 1, 1, 1, 0, 1, 0, 0, 1, 1, 0, 0, 1, 1, 1]) 7 (KBlk 7 (KS Pg W 477 rs_7 an_7 false (sub (bodyOf Try.f7) [1, 1, 1, 1, 1, 1, 1, 1, 1, 1, 1, 1, 1, 1, 1, 1, 1, 1, 1, 1, 1, 1, 1, 0, 1, 0, 0, 1, 1, 1]) 6 (KLoop [10, 358] [1, 5, 11, 12, 13, 20, 21, 22, 41, 43, 357, 477] [(.int .i64 zn0), (.pointer (some za1)), (.func (.func 32) #[] #[(.pointer (some za3)), (.pointer (some za1))]), (.func (.func 33) #[] #[(.pointer (some za4)), (.pointer (some za1))]), (.pointer (some za5)), (.slice zp6 zl7 zl8), (.slice zp9 zl10 zl11), (.slice zp12 zl13 zl14), (.int .i64 zn15), (.int .i64 zn16), (.int .i64 zn21), (.tuple #[])] nx3 (KBlk 6 (KS Pg W 477 rs_7 an_7 false (sub (bodyOf Try.f7) [1, 1, 1, 1, 1, 1, 1, 1, 1, 1, 1, 1, 1, 1, 1, 1, 1, 1, 1, 1, 1, 1, 1, 1]) 0 (fin Pg W 477 rv_7 R))))))) .normal u) (known_KN h).symm).trans (by kernel_rfl)
theorem O_law07_ClockTurned_1_0 {W : World} {za5 : Addr} {t : Tm} {K : VK} {E : List PanicEntry → Hp → Prop} (h : KN [13] [(.pointer (some za5))] t) : vop Pg W (opN (opsAt (sub (bodyOf Try.f7) [1, 1, 1, 1, 1, 1, 1, 1, 1, 1, 1, 1, 1, 1, 1, 1, 1, 1, 1, 1, 1, 1, 1, 0, 1, 0, 0, 1, 1, 0, 0, 1, 1, 0])) 0) t K E =
 (RDL (Addr.add za5 0) fun x884 l885 c886 =>
 RDI .i64 (Addr.add za5 1) fun n887 =>
 RDL (Addr.add za5 2) fun x888 l889 c890 =>
 RDL (Addr.add za5 3) fun x891 l892 c893 =>
 K (.agg #[(.slice x884 l885 c886), (.int .i64 n887), (.slice x888 l889 c890), (.slice x891 l892 c893)])) :=
 (vop_at h).trans (by kernel_rfl)
theorem O_law07_ClockTurned_1_1 {W : World} {za1 : Addr} {za4 : Addr} {t : Tm} {K : VK} {E : List PanicEntry → Hp → Prop} (h : KN [12] [(.func (.func 33) #[] #[(.pointer (some za4)), (.pointer (some za1))])] t) : vop Pg W (opN (opsAt (sub (bodyOf Try.f7) [1, 1, 1, 1, 1, 1, 1, 1, 1, 1, 1, 1, 1, 1, 1, 1, 1, 1, 1, 1, 1, 1, 1, 0, 1, 0, 0, 1, 1, 0, 0, 1, 1, 0])) 1) t K E =
 (K (.func (.func 33) #[] #[(.pointer (some za4)), (.pointer (some za1))])) :=
 (vop_at h).trans (by kernel_rfl)
theorem O_law07_ClockTurned_1_2 {W : World} {zn17 : Int} {t : Tm} {K : VK} {E : List PanicEntry → Hp → Prop} (h : KN [45] [(.int .i64 zn17)] t) : vop Pg W (opN (opsAt (sub (bodyOf Try.f7) [1, 1, 1, 1, 1, 1, 1, 1, 1, 1, 1, 1, 1, 1, 1, 1, 1, 1, 1, 1, 1, 1, 1, 0, 1, 0, 0, 1, 1, 0, 0, 1, 1, 0])) 2) t K E =
 (K (.int .i64 zn17)) :=
 (vop_at h).trans (by kernel_rfl)
theorem O_law07_ClockTurned_1_3 {W : World} {a894 : Addr} {a895 : Addr} {n896 : Int} {t : Tm} {K : VK} {E : List PanicEntry → Hp → Prop} (h : KN [370, 371] [(.func (.func 33) #[] #[(.pointer (some a894)), (.pointer (some a895))]), (.int .i64 n896)] t) : vop Pg W (opN (opsAt (sub (bodyOf Try.f7) [1, 1, 1, 1, 1, 1, 1, 1, 1, 1, 1, 1, 1, 1, 1, 1, 1, 1, 1, 1, 1, 1, 1, 0, 1, 0, 0, 1, 1, 0, 0, 1, 1, 0])) 3) t K E =
 (CALLV Pg W (.func (.func 33) #[] #[(.pointer (some a894)), (.pointer (some a895))]) [(.int .i64 n896)]
 (fun v897 => TYI .i64 v897 fun n899 =>
 K (.int .i64 n899))
 (fun e898 => E e898)) :=
 (vop_at h).trans (by kernel_rfl)
theorem O_law07_ClockTurned_1_4 {W : World} {x900 : Option Addr} {l901 : Nat} {c902 : Nat} {n903 : Int} {x904 : Option Addr} {l905 : Nat} {c906 : Nat} {x907 : Option Addr} {l908 : Nat} {c909 : Nat} {n910 : Int} {t : Tm} {K : VK} {E : List PanicEntry → Hp → Prop} (h : KN [369, 372] [(.agg #[(.slice x900 l901 c902), (.int .i64 n903), (.slice x904 l905 c906), (.slice x907 l908 c909)]), (.int .i64 n910)] t) : vop Pg W (opN (opsAt (sub (bodyOf Try.f7) [1, 1, 1, 1, 1, 1, 1, 1, 1, 1, 1, 1, 1, 1, 1, 1, 1, 1, 1, 1, 1, 1, 1, 0, 1, 0, 0, 1, 1, 0, 0, 1, 1, 0])) 4) t K E =
 (CALL Pg W F_clock_Goes [(.agg #[(.slice x900 l901 c902), (.int .i64 n903), (.slice x904 l905 c906), (.slice x907 l908 c909)]), (.int .i64 n910)]
 (fun v911 => TUP v911 fun q913 => HD q913 fun v914 r915 => AGG v914 fun q916 => HD q916 fun v917 r918 => TYI .i64 v917 fun n919 =>
 HD r918 fun v920 r921 => TYI .i64 v920 fun n922 =>
 NL r921 <|
 HD r915 fun v923 r924 => AGG v923 fun q925 => HD q925 fun v926 r927 => TYI .i64 v926 fun n928 =>
 HD r927 fun v929 r930 => TYI .i64 v929 fun n931 =>
 NL r930 <|
 HD r924 fun v932 r933 => TYI .i64 v932 fun n934 =>
 NL r933 <|
 K (.tuple #[(.agg #[(.int .i64 n919), (.int .i64 n922)]), (.agg #[(.int .i64 n928), (.int .i64 n931)]), (.int .i64 n934)]))
 (fun e912 => E e912)) :=
 (vop_at h).trans (by kernel_rfl)
theorem O_law07_ClockTurned_1_5 {W : World} {n935 : Int} {n936 : Int} {n937 : Int} {n938 : Int} {n939 : Int} {t : Tm} {K : VK} {E : List PanicEntry → Hp → Prop} (h : KN [373] [(.tuple #[(.agg #[(.int .i64 n935), (.int .i64 n936)]), (.agg #[(.int .i64 n937), (.int .i64 n938)]), (.int .i64 n939)])] t) : vop Pg W (opN (opsAt (sub (bodyOf Try.f7) [1, 1, 1, 1, 1, 1, 1, 1, 1, 1, 1, 1, 1, 1, 1, 1, 1, 1, 1, 1, 1, 1, 1, 0, 1, 0, 0, 1, 1, 0, 0, 1, 1, 0])) 5) t K E =
 (K (.tuple #[(.agg #[(.int .i64 n935), (.int .i64 n936)]), (.agg #[(.int .i64 n937), (.int .i64 n938)]), (.int .i64 n939)])) :=
 (vop_at h).trans (by kernel_rfl)
theorem O_law07_ClockTurned_1_6 {W : World} {n940 : Int} {n941 : Int} {n942 : Int} {n943 : Int} {n944 : Int} {t : Tm} {K : VK} {E : List PanicEntry → Hp → Prop} (h : KN [368] [(.tuple #[(.agg #[(.int .i64 n940), (.int .i64 n941)]), (.agg #[(.int .i64 n942), (.int .i64 n943)]), (.int .i64 n944)])] t) : vop Pg W (opN (opsAt (sub (bodyOf Try.f7) [1, 1, 1, 1, 1, 1, 1, 1, 1, 1, 1, 1, 1, 1, 1, 1, 1, 1, 1, 1, 1, 1, 1, 0, 1, 0, 0, 1, 1, 0, 0, 1, 1, 0])) 6) t K E =
 (K (.agg #[(.int .i64 n940), (.int .i64 n941)])) :=
 (vop_at h).trans (by kernel_rfl)
theorem O_law07_ClockTurned_1_7 {W : World} {n945 : Int} {n946 : Int} {n947 : Int} {n948 : Int} {n949 : Int} {t : Tm} {K : VK} {E : List PanicEntry → Hp → Prop} (h : KN [368] [(.tuple #[(.agg #[(.int .i64 n945), (.int .i64 n946)]), (.agg #[(.int .i64 n947), (.int .i64 n948)]), (.int .i64 n949)])] t) : vop Pg W (opN (opsAt (sub (bodyOf Try.f7) [1, 1, 1, 1, 1, 1, 1, 1, 1, 1, 1, 1, 1, 1, 1, 1, 1, 1, 1, 1, 1, 1, 1, 0, 1, 0, 0, 1, 1, 0, 0, 1, 1, 0])) 7) t K E =
 (K (.agg #[(.int .i64 n947), (.int .i64 n948)])) :=
 (vop_at h).trans (by kernel_rfl)
theorem O_law07_ClockTurned_1_8 {W : World} {n950 : Int} {n951 : Int} {n952 : Int} {n953 : Int} {n954 : Int} {t : Tm} {K : VK} {E : List PanicEntry → Hp → Prop} (h : KN [368] [(.tuple #[(.agg #[(.int .i64 n950), (.int .i64 n951)]), (.agg #[(.int .i64 n952), (.int .i64 n953)]), (.int .i64 n954)])] t) : vop Pg W (opN (opsAt (sub (bodyOf Try.f7) [1, 1, 1, 1, 1, 1, 1, 1, 1, 1, 1, 1, 1, 1, 1, 1, 1, 1, 1, 1, 1, 1, 1, 0, 1, 0, 0, 1, 1, 0, 0, 1, 1, 0])) 8) t K E =
 (K (.int .i64 n954)) :=
 (vop_at h).trans (by kernel_rfl)
theorem O_law07_ClockTurned_1_9 {W : World} {t : Tm} {K : VK} {E : List PanicEntry → Hp → Prop} (h : KN [] [] t) : vop Pg W (opN (opsAt (sub (bodyOf Try.f7) [1, 1, 1, 1, 1, 1, 1, 1, 1, 1, 1, 1, 1, 1, 1, 1, 1, 1, 1, 1, 1, 1, 1, 0, 1, 0, 0, 1, 1, 0, 0, 1, 1, 0])) 9) t K E =
 (NEWZ Pg 34 fun B955 =>
 K (.pointer (some ⟨B955, 0, none⟩))) :=
 (vop_at h).trans (by kernel_rfl)
theorem O_law07_ClockTurned_1_10 {W : World} {t : Tm} {K : VK} {E : List PanicEntry → Hp → Prop} (h : KN [] [] t) : vop Pg W (opN (opsAt (sub (bodyOf Try.f7) [1, 1, 1, 1, 1, 1, 1, 1, 1, 1, 1, 1, 1, 1, 1, 1, 1, 1, 1, 1, 1, 1, 1, 0, 1, 0, 0, 1, 1, 0, 0, 1, 1, 0])) 10) t K E =
 (NEWZ Pg 34 fun B956 =>
 K (.pointer (some ⟨B956, 0, none⟩))) :=
 (vop_at h).trans (by kernel_rfl)
theorem O_law07_ClockTurned_1_11 {W : World} {a957 : Addr} {n958 : Int} {n959 : Int} {t : Tm} {K : VK} {E : List PanicEntry → Hp → Prop} (h : KN [49, 374] [(.pointer (some a957)), (.agg #[(.int .i64 n958), (.int .i64 n959)])] t) : vop Pg W (opN (opsAt (sub (bodyOf Try.f7) [1, 1, 1, 1, 1, 1, 1, 1, 1, 1, 1, 1, 1, 1, 1, 1, 1, 1, 1, 1, 1, 1, 1, 0, 1, 0, 0, 1, 1, 0, 0, 1, 1, 0])) 11) t K E =
 (WR (Addr.add a957 0) (.int .i64 n958) <|
 WR (Addr.add a957 1) (.int .i64 n959) <|
 K (.tuple #[])) :=
 (vop_at h).trans (by kernel_rfl)
theorem O_law07_ClockTurned_1_12 {W : World} {a960 : Addr} {n961 : Int} {n962 : Int} {t : Tm} {K : VK} {E : List PanicEntry → Hp → Prop} (h : KN [50, 375] [(.pointer (some a960)), (.agg #[(.int .i64 n961), (.int .i64 n962)])] t) : vop Pg W (opN (opsAt (sub (bodyOf Try.f7) [1, 1, 1, 1, 1, 1, 1, 1, 1, 1, 1, 1, 1, 1, 1, 1, 1, 1, 1, 1, 1, 1, 1, 0, 1, 0, 0, 1, 1, 0, 0, 1, 1, 0])) 12) t K E =
 (WR (Addr.add a960 0) (.int .i64 n961) <|
 WR (Addr.add a960 1) (.int .i64 n962) <|
 K (.tuple #[])) :=
 (vop_at h).trans (by kernel_rfl)
theorem O_law07_ClockTurned_1_13 {W : World} {n963 : Int} {t : Tm} {K : VK} {E : List PanicEntry → Hp → Prop} (h : KN [376] [(.int .i64 n963)] t) : vop Pg W (opN (opsAt (sub (bodyOf Try.f7) [1, 1, 1, 1, 1, 1, 1, 1, 1, 1, 1, 1, 1, 1, 1, 1, 1, 1, 1, 1, 1, 1, 1, 0, 1, 0, 0, 1, 1, 0, 0, 1, 1, 0])) 13) t K E =
 (K (.int .i64 n963)) :=
 (vop_at h).trans (by kernel_rfl)
theorem D_law07_ClockTurned_1_rule (W : World) (R : Ending → Hp → Prop) (nx3 : List Value → Hp → Prop) (zn0 : Int) (za1 : Addr) (zb2 : Bool) (za3 : Addr) (za4 : Addr) (za5 : Addr) (zp6 : Option Addr) (zl7 : Nat) (zl8 : Nat) (zp9 : Option Addr) (zl10 : Nat) (zl11 : Nat) (zp12 : Option Addr) (zl13 : Nat) (zl14 : Nat) (zn15 : Int) (zn16 : Int) (zn17 : Int) (za18 : Addr) (za19 : Addr) (zn20 : Int) (zn21 : Int) (Φ : List Nat → (Nat → Value) → Hp → Prop) {s : Hp} (hi : ∀ ρ, Φ [] ρ s)
 (h0 : ∀ L ρ s, Φ L ρ s → 0 ∉ L → (RDL (Addr.add za5 0) fun x884 l885 c886 =>
 RDI .i64 (Addr.add za5 1) fun n887 =>
 RDL (Addr.add za5 2) fun x888 l889 c890 =>
 RDL (Addr.add za5 3) fun x891 l892 c893 =>
 Φ (0 :: L) (ru ρ 0 (.agg #[(.slice x884 l885 c886), (.int .i64 n887), (.slice x888 l889 c890), (.slice x891 l892 c893)]))) s)
 (h1 : ∀ L ρ s, Φ L ρ s → 1 ∉ L → (Φ (1 :: L) (ru ρ 1 (.func (.func 33) #[] #[(.pointer (some za4)), (.pointer (some za1))]))) s)
 (h2 : ∀ L ρ s, Φ L ρ s → 2 ∉ L → (Φ (2 :: L) (ru ρ 2 (.int .i64 zn17))) s)
 (h3 : ∀ L ρ s, Φ L ρ s → 3 ∉ L → 1 ∈ L → 2 ∈ L → ∃ (a894 : Addr) (a895 : Addr) (n896 : Int), ρ 1 = (.func (.func 33) #[] #[(.pointer (some a894)), (.pointer (some a895))]) ∧ ρ 2 = (.int .i64 n896) ∧ (CALLV Pg W (.func (.func 33) #[] #[(.pointer (some a894)), (.pointer (some a895))]) [(.int .i64 n896)]
 (fun v897 => TYI .i64 v897 fun n899 =>
 Φ (3 :: L) (ru ρ 3 (.int .i64 n899)))
 (fun e898 => R (.panicked e898))) s)
 (h4 : ∀ L ρ s, Φ L ρ s → 4 ∉ L → 0 ∈ L → 3 ∈ L → ∃ (x900 : Option Addr) (l901 : Nat) (c902 : Nat) (n903 : Int) (x904 : Option Addr) (l905 : Nat) (c906 : Nat) (x907 : Option Addr) (l908 : Nat) (c909 : Nat) (n910 : Int), ρ 0 = (.agg #[(.slice x900 l901 c902), (.int .i64 n903), (.slice x904 l905 c906), (.slice x907 l908 c909)]) ∧ ρ 3 = (.int .i64 n910) ∧ (CALL Pg W F_clock_Goes [(.agg #[(.slice x900 l901 c902), (.int .i64 n903), (.slice x904 l905 c906), (.slice x907 l908 c909)]), (.int .i64 n910)]
 (fun v911 => TUP v911 fun q913 => HD q913 fun v914 r915 => AGG v914 fun q916 => HD q916 fun v917 r918 => TYI .i64 v917 fun n919 =>
 HD r918 fun v920 r921 => TYI .i64 v920 fun n922 =>
 NL r921 <|
 HD r915 fun v923 r924 => AGG v923 fun q925 => HD q925 fun v926 r927 => TYI .i64 v926 fun n928 =>
 HD r927 fun v929 r930 => TYI .i64 v929 fun n931 =>
 NL r930 <|
 HD r924 fun v932 r933 => TYI .i64 v932 fun n934 =>
 NL r933 <|
 Φ (4 :: L) (ru ρ 4 (.tuple #[(.agg #[(.int .i64 n919), (.int .i64 n922)]), (.agg #[(.int .i64 n928), (.int .i64 n931)]), (.int .i64 n934)])))
 (fun e912 => R (.panicked e912))) s)
 (h5 : ∀ L ρ s, Φ L ρ s → 5 ∉ L → 4 ∈ L → ∃ (n935 : Int) (n936 : Int) (n937 : Int) (n938 : Int) (n939 : Int), ρ 4 = (.tuple #[(.agg #[(.int .i64 n935), (.int .i64 n936)]), (.agg #[(.int .i64 n937), (.int .i64 n938)]), (.int .i64 n939)]) ∧ (Φ (5 :: L) (ru ρ 5 (.tuple #[(.agg #[(.int .i64 n935), (.int .i64 n936)]), (.agg #[(.int .i64 n937), (.int .i64 n938)]), (.int .i64 n939)]))) s)
 (h6 : ∀ L ρ s, Φ L ρ s → 6 ∉ L → 5 ∈ L → ∃ (n940 : Int) (n941 : Int) (n942 : Int) (n943 : Int) (n944 : Int), ρ 5 = (.tuple #[(.agg #[(.int .i64 n940), (.int .i64 n941)]), (.agg #[(.int .i64 n942), (.int .i64 n943)]), (.int .i64 n944)]) ∧ (Φ (6 :: L) (ru ρ 6 (.agg #[(.int .i64 n940), (.int .i64 n941)]))) s)
 (h7 : ∀ L ρ s, Φ L ρ s → 7 ∉ L → 5 ∈ L → ∃ (n945 : Int) (n946 : Int) (n947 : Int) (n948 : Int) (n949 : Int), ρ 5 = (.tuple #[(.agg #[(.int .i64 n945), (.int .i64 n946)]), (.agg #[(.int .i64 n947), (.int .i64 n948)]), (.int .i64 n949)]) ∧ (Φ (7 :: L) (ru ρ 7 (.agg #[(.int .i64 n947), (.int .i64 n948)]))) s)
 (h8 : ∀ L ρ s, Φ L ρ s → 8 ∉ L → 5 ∈ L → ∃ (n950 : Int) (n951 : Int) (n952 : Int) (n953 : Int) (n954 : Int), ρ 5 = (.tuple #[(.agg #[(.int .i64 n950), (.int .i64 n951)]), (.agg #[(.int .i64 n952), (.int .i64 n953)]), (.int .i64 n954)]) ∧ (Φ (8 :: L) (ru ρ 8 (.int .i64 n954))) s)
 (h9 : ∀ L ρ s, Φ L ρ s → 9 ∉ L → (NEWZ Pg 34 fun B955 =>
 Φ (9 :: L) (ru ρ 9 (.pointer (some ⟨B955, 0, none⟩)))) s)
 (h10 : ∀ L ρ s, Φ L ρ s → 10 ∉ L → (NEWZ Pg 34 fun B956 =>
 Φ (10 :: L) (ru ρ 10 (.pointer (some ⟨B956, 0, none⟩)))) s)
 (h11 : ∀ L ρ s, Φ L ρ s → 11 ∉ L → 0 ∈ L → 1 ∈ L → 2 ∈ L → 3 ∈ L → 4 ∈ L → 5 ∈ L → 6 ∈ L → 9 ∈ L → 10 ∈ L → ∃ (a957 : Addr) (n958 : Int) (n959 : Int), ρ 9 = (.pointer (some a957)) ∧ ρ 6 = (.agg #[(.int .i64 n958), (.int .i64 n959)]) ∧ (WR (Addr.add a957 0) (.int .i64 n958) <|
 WR (Addr.add a957 1) (.int .i64 n959) <|
 Φ (11 :: L) (ru ρ 11 (.tuple #[]))) s)
 (h12 : ∀ L ρ s, Φ L ρ s → 12 ∉ L → 0 ∈ L → 1 ∈ L → 2 ∈ L → 3 ∈ L → 4 ∈ L → 5 ∈ L → 6 ∈ L → 7 ∈ L → 9 ∈ L → 10 ∈ L → 11 ∈ L → ∃ (a960 : Addr) (n961 : Int) (n962 : Int), ρ 10 = (.pointer (some a960)) ∧ ρ 7 = (.agg #[(.int .i64 n961), (.int .i64 n962)]) ∧ (WR (Addr.add a960 0) (.int .i64 n961) <|
 WR (Addr.add a960 1) (.int .i64 n962) <|
 Φ (12 :: L) (ru ρ 12 (.tuple #[]))) s)
 (h13 : ∀ L ρ s, Φ L ρ s → 13 ∉ L → 0 ∈ L → 1 ∈ L → 2 ∈ L → 3 ∈ L → 4 ∈ L → 5 ∈ L → 6 ∈ L → 7 ∈ L → 8 ∈ L → 9 ∈ L → 10 ∈ L → 11 ∈ L → 12 ∈ L → ∃ (n963 : Int), ρ 8 = (.int .i64 n963) ∧ (Φ (13 :: L) (ru ρ 13 (.int .i64 n963))) s)
 (l0 : ∀ L ρ s, Φ L ρ s → 0 ∈ L → 4 ∉ L → 11 ∉ L → 12 ∉ L → 13 ∉ L → (RDL (Addr.add za5 0) fun x884 l885 c886 =>
 RDI .i64 (Addr.add za5 1) fun n887 =>
 RDL (Addr.add za5 2) fun x888 l889 c890 =>
 RDL (Addr.add za5 3) fun x891 l892 c893 =>
 fun _ => ((.agg #[(.slice x884 l885 c886), (.int .i64 n887), (.slice x888 l889 c890), (.slice x891 l892 c893)]) : Value) = ρ 0) s)
 (hf : ∀ L ρ s, Φ L ρ s → (∀ k, k < 14 → k ∈ L) → ∃ (a964 : Addr) (a965 : Addr) (n966 : Int), ρ 9 = (.pointer (some a964)) ∧ ρ 10 = (.pointer (some a965)) ∧ ρ 13 = (.int .i64 n966) ∧ A_law07_ClockTurned_1 W R nx3 zn0 za1 zb2 za3 za4 za5 zp6 zl7 zl8 zp9 zl10 zl11 zp12 zl13 zl14 zn15 zn16 zn17 za18 za19 zn20 zn21 a964 a965 n966 s) : D_law07_ClockTurned_1 W R nx3 zn0 za1 zb2 za3 za4 za5 zp6 zl7 zl8 zp9 zl10 zl11 zp12 zl13 zl14 zn15 zn16 zn17 za18 za19 zn20 zn21 s := by
  refine DRG_rho (by kernel_rfl) (by kernel_rfl) (by kernel_rfl) 14 (by kernel_rfl) Φ (by decide) hi ?_ ?_ ?_
  · intro k hk0 L t ρ s hr hΦ hc hk hp
    rcases (show k = 0 ∨ k = 1 ∨ k = 2 ∨ k = 3 ∨ k = 4 ∨ k = 5 ∨ k = 6 ∨ k = 7 ∨ k = 8 ∨ k = 9 ∨ k = 10 ∨ k = 11 ∨ k = 12 ∨ k = 13 by omega) with rfl | rfl | rfl | rfl | rfl | rfl | rfl | rfl | rfl | rfl | rfl | rfl | rfl | rfl
    · have hx := h0 L ρ s hΦ hk
      have hh := hx
      unfold STEPR
      rw [O_law07_ClockTurned_1_0 ⟨hr.base 5 rfl rfl (by kernel_rfl), trivial⟩]
      exact hh
    · have hx := h1 L ρ s hΦ hk
      have hh := hx
      unfold STEPR
      rw [O_law07_ClockTurned_1_1 ⟨hr.base 4 rfl rfl (by kernel_rfl), trivial⟩]
      exact hh
    · have hx := h2 L ρ s hΦ hk
      have hh := hx
      unfold STEPR
      rw [O_law07_ClockTurned_1_2 ⟨hr.base 11 rfl rfl (by kernel_rfl), trivial⟩]
      exact hh
    · have hx := h3 L ρ s hΦ hk (hp 1 (by rw [show preds (opN (opsAt (sub (bodyOf Try.f7) [1, 1, 1, 1, 1, 1, 1, 1, 1, 1, 1, 1, 1, 1, 1, 1, 1, 1, 1, 1, 1, 1, 1, 0, 1, 0, 0, 1, 1, 0, 0, 1, 1, 0])) 3) = [1, 2] by kernel_rfl]; simp)) (hp 2 (by rw [show preds (opN (opsAt (sub (bodyOf Try.f7) [1, 1, 1, 1, 1, 1, 1, 1, 1, 1, 1, 1, 1, 1, 1, 1, 1, 1, 1, 1, 1, 1, 1, 0, 1, 0, 0, 1, 1, 0, 0, 1, 1, 0])) 3) = [1, 2] by kernel_rfl]; simp))
      obtain ⟨a894, a895, n896, e0, e1, hh⟩ := hx
      unfold STEPR
      rw [show EPAN rs_7 (KS Pg W 477 rs_7 an_7 false (sub (bodyOf Try.f7) [1, 1, 1, 1, 1, 1, 1, 1, 1, 1, 1, 1, 1, 1, 1, 1, 1, 1, 1, 1, 1, 1, 1, 0, 1, 0, 0, 1, 1, 0, 0, 1, 1, 1]) 7 (KBlk 7 (KS Pg W 477 rs_7 an_7 false (sub (bodyOf Try.f7) [1, 1, 1, 1, 1, 1, 1, 1, 1, 1, 1, 1, 1, 1, 1, 1, 1, 1, 1, 1, 1, 1, 1, 0, 1, 0, 0, 1, 1, 1]) 6 (KLoop [10, 358] [1, 5, 11, 12, 13, 20, 21, 22, 41, 43, 357, 477] [(.int .i64 zn0), (.pointer (some za1)), (.func (.func 32) #[] #[(.pointer (some za3)), (.pointer (some za1))]), (.func (.func 33) #[] #[(.pointer (some za4)), (.pointer (some za1))]), (.pointer (some za5)), (.slice zp6 zl7 zl8), (.slice zp9 zl10 zl11), (.slice zp12 zl13 zl14), (.int .i64 zn15), (.int .i64 zn16), (.int .i64 zn21), (.tuple #[])] nx3 (KBlk 6 (KS Pg W 477 rs_7 an_7 false (sub (bodyOf Try.f7) [1, 1, 1, 1, 1, 1, 1, 1, 1, 1, 1, 1, 1, 1, 1, 1, 1, 1, 1, 1, 1, 1, 1, 1]) 0 (fin Pg W 477 rv_7 R))))))) (opN (opsAt (sub (bodyOf Try.f7) [1, 1, 1, 1, 1, 1, 1, 1, 1, 1, 1, 1, 1, 1, 1, 1, 1, 1, 1, 1, 1, 1, 1, 0, 1, 0, 0, 1, 1, 0, 0, 1, 1, 0])) 3) t = (fun c => R (.panicked c)) from (EPAN_eq (by kernel_rfl) (prj_KN (rs := rs_7) (vs := [(.tuple #[]), (.bool zb2)]) rfl ⟨hr.base 17 rfl rfl (by kernel_rfl), hr.base 2 rfl rfl (by kernel_rfl), trivial⟩)).trans (by kernel_rfl)]
      rw [O_law07_ClockTurned_1_3 ⟨hr.at (hp 1 (by rw [show preds (opN (opsAt (sub (bodyOf Try.f7) [1, 1, 1, 1, 1, 1, 1, 1, 1, 1, 1, 1, 1, 1, 1, 1, 1, 1, 1, 1, 1, 1, 1, 0, 1, 0, 0, 1, 1, 0, 0, 1, 1, 0])) 3) = [1, 2] by kernel_rfl]; simp)) (by kernel_rfl) e0, hr.at (hp 2 (by rw [show preds (opN (opsAt (sub (bodyOf Try.f7) [1, 1, 1, 1, 1, 1, 1, 1, 1, 1, 1, 1, 1, 1, 1, 1, 1, 1, 1, 1, 1, 1, 1, 0, 1, 0, 0, 1, 1, 0, 0, 1, 1, 0])) 3) = [1, 2] by kernel_rfl]; simp)) (by kernel_rfl) e1, trivial⟩]
      exact hh
    · have hx := h4 L ρ s hΦ hk (hp 0 (by rw [show preds (opN (opsAt (sub (bodyOf Try.f7) [1, 1, 1, 1, 1, 1, 1, 1, 1, 1, 1, 1, 1, 1, 1, 1, 1, 1, 1, 1, 1, 1, 1, 0, 1, 0, 0, 1, 1, 0, 0, 1, 1, 0])) 4) = [0, 3, 3] by kernel_rfl]; simp)) (hp 3 (by rw [show preds (opN (opsAt (sub (bodyOf Try.f7) [1, 1, 1, 1, 1, 1, 1, 1, 1, 1, 1, 1, 1, 1, 1, 1, 1, 1, 1, 1, 1, 1, 1, 0, 1, 0, 0, 1, 1, 0, 0, 1, 1, 0])) 4) = [0, 3, 3] by kernel_rfl]; simp))
      obtain ⟨x900, l901, c902, n903, x904, l905, c906, x907, l908, c909, n910, e0, e1, hh⟩ := hx
      unfold STEPR
      rw [show EPAN rs_7 (KS Pg W 477 rs_7 an_7 false (sub (bodyOf Try.f7) [1, 1, 1, 1, 1, 1, 1, 1, 1, 1, 1, 1, 1, 1, 1, 1, 1, 1, 1, 1, 1, 1, 1, 0, 1, 0, 0, 1, 1, 0, 0, 1, 1, 1]) 7 (KBlk 7 (KS Pg W 477 rs_7 an_7 false (sub (bodyOf Try.f7) [1, 1, 1, 1, 1, 1, 1, 1, 1, 1, 1, 1, 1, 1, 1, 1, 1, 1, 1, 1, 1, 1, 1, 0, 1, 0, 0, 1, 1, 1]) 6 (KLoop [10, 358] [1, 5, 11, 12, 13, 20, 21, 22, 41, 43, 357, 477] [(.int .i64 zn0), (.pointer (some za1)), (.func (.func 32) #[] #[(.pointer (some za3)), (.pointer (some za1))]), (.func (.func 33) #[] #[(.pointer (some za4)), (.pointer (some za1))]), (.pointer (some za5)), (.slice zp6 zl7 zl8), (.slice zp9 zl10 zl11), (.slice zp12 zl13 zl14), (.int .i64 zn15), (.int .i64 zn16), (.int .i64 zn21), (.tuple #[])] nx3 (KBlk 6 (KS Pg W 477 rs_7 an_7 false (sub (bodyOf Try.f7) [1, 1, 1, 1, 1, 1, 1, 1, 1, 1, 1, 1, 1, 1, 1, 1, 1, 1, 1, 1, 1, 1, 1, 1]) 0 (fin Pg W 477 rv_7 R))))))) (opN (opsAt (sub (bodyOf Try.f7) [1, 1, 1, 1, 1, 1, 1, 1, 1, 1, 1, 1, 1, 1, 1, 1, 1, 1, 1, 1, 1, 1, 1, 0, 1, 0, 0, 1, 1, 0, 0, 1, 1, 0])) 4) t = (fun c => R (.panicked c)) from (EPAN_eq (by kernel_rfl) (prj_KN (rs := rs_7) (vs := [(.tuple #[]), (.bool zb2)]) rfl ⟨hr.base 17 rfl rfl (by kernel_rfl), hr.base 2 rfl rfl (by kernel_rfl), trivial⟩)).trans (by kernel_rfl)]
      rw [O_law07_ClockTurned_1_4 ⟨hr.at (hp 0 (by rw [show preds (opN (opsAt (sub (bodyOf Try.f7) [1, 1, 1, 1, 1, 1, 1, 1, 1, 1, 1, 1, 1, 1, 1, 1, 1, 1, 1, 1, 1, 1, 1, 0, 1, 0, 0, 1, 1, 0, 0, 1, 1, 0])) 4) = [0, 3, 3] by kernel_rfl]; simp)) (by kernel_rfl) e0, hr.at (hp 3 (by rw [show preds (opN (opsAt (sub (bodyOf Try.f7) [1, 1, 1, 1, 1, 1, 1, 1, 1, 1, 1, 1, 1, 1, 1, 1, 1, 1, 1, 1, 1, 1, 1, 0, 1, 0, 0, 1, 1, 0, 0, 1, 1, 0])) 4) = [0, 3, 3] by kernel_rfl]; simp)) (by kernel_rfl) e1, trivial⟩]
      exact hh
    · have hx := h5 L ρ s hΦ hk (hp 4 (by rw [show preds (opN (opsAt (sub (bodyOf Try.f7) [1, 1, 1, 1, 1, 1, 1, 1, 1, 1, 1, 1, 1, 1, 1, 1, 1, 1, 1, 1, 1, 1, 1, 0, 1, 0, 0, 1, 1, 0, 0, 1, 1, 0])) 5) = [4] by kernel_rfl]; simp))
      obtain ⟨n935, n936, n937, n938, n939, e0, hh⟩ := hx
      unfold STEPR
      rw [O_law07_ClockTurned_1_5 ⟨hr.at (hp 4 (by rw [show preds (opN (opsAt (sub (bodyOf Try.f7) [1, 1, 1, 1, 1, 1, 1, 1, 1, 1, 1, 1, 1, 1, 1, 1, 1, 1, 1, 1, 1, 1, 1, 0, 1, 0, 0, 1, 1, 0, 0, 1, 1, 0])) 5) = [4] by kernel_rfl]; simp)) (by kernel_rfl) e0, trivial⟩]
      exact hh
    · have hx := h6 L ρ s hΦ hk (hp 5 (by rw [show preds (opN (opsAt (sub (bodyOf Try.f7) [1, 1, 1, 1, 1, 1, 1, 1, 1, 1, 1, 1, 1, 1, 1, 1, 1, 1, 1, 1, 1, 1, 1, 0, 1, 0, 0, 1, 1, 0, 0, 1, 1, 0])) 6) = [5] by kernel_rfl]; simp))
      obtain ⟨n940, n941, n942, n943, n944, e0, hh⟩ := hx
      unfold STEPR
      rw [O_law07_ClockTurned_1_6 ⟨hr.at (hp 5 (by rw [show preds (opN (opsAt (sub (bodyOf Try.f7) [1, 1, 1, 1, 1, 1, 1, 1, 1, 1, 1, 1, 1, 1, 1, 1, 1, 1, 1, 1, 1, 1, 1, 0, 1, 0, 0, 1, 1, 0, 0, 1, 1, 0])) 6) = [5] by kernel_rfl]; simp)) (by kernel_rfl) e0, trivial⟩]
      exact hh
    · have hx := h7 L ρ s hΦ hk (hp 5 (by rw [show preds (opN (opsAt (sub (bodyOf Try.f7) [1, 1, 1, 1, 1, 1, 1, 1, 1, 1, 1, 1, 1, 1, 1, 1, 1, 1, 1, 1, 1, 1, 1, 0, 1, 0, 0, 1, 1, 0, 0, 1, 1, 0])) 7) = [5] by kernel_rfl]; simp))
      obtain ⟨n945, n946, n947, n948, n949, e0, hh⟩ := hx
      unfold STEPR
      rw [O_law07_ClockTurned_1_7 ⟨hr.at (hp 5 (by rw [show preds (opN (opsAt (sub (bodyOf Try.f7) [1, 1, 1, 1, 1, 1, 1, 1, 1, 1, 1, 1, 1, 1, 1, 1, 1, 1, 1, 1, 1, 1, 1, 0, 1, 0, 0, 1, 1, 0, 0, 1, 1, 0])) 7) = [5] by kernel_rfl]; simp)) (by kernel_rfl) e0, trivial⟩]
      exact hh
    · have hx := h8 L ρ s hΦ hk (hp 5 (by rw [show preds (opN (opsAt (sub (bodyOf Try.f7) [1, 1, 1, 1, 1, 1, 1, 1, 1, 1, 1, 1, 1, 1, 1, 1, 1, 1, 1, 1, 1, 1, 1, 0, 1, 0, 0, 1, 1, 0, 0, 1, 1, 0])) 8) = [5] by kernel_rfl]; simp))
      obtain ⟨n950, n951, n952, n953, n954, e0, hh⟩ := hx
      unfold STEPR
      rw [O_law07_ClockTurned_1_8 ⟨hr.at (hp 5 (by rw [show preds (opN (opsAt (sub (bodyOf Try.f7) [1, 1, 1, 1, 1, 1, 1, 1, 1, 1, 1, 1, 1, 1, 1, 1, 1, 1, 1, 1, 1, 1, 1, 0, 1, 0, 0, 1, 1, 0, 0, 1, 1, 0])) 8) = [5] by kernel_rfl]; simp)) (by kernel_rfl) e0, trivial⟩]
      exact hh
    · have hx := h9 L ρ s hΦ hk
      have hh := hx
      unfold STEPR
      rw [O_law07_ClockTurned_1_9 trivial]
      exact hh
    · have hx := h10 L ρ s hΦ hk
      have hh := hx
      unfold STEPR
      rw [O_law07_ClockTurned_1_10 trivial]
      exact hh
    · have hx := h11 L ρ s hΦ hk (hp 0 (by rw [show preds (opN (opsAt (sub (bodyOf Try.f7) [1, 1, 1, 1, 1, 1, 1, 1, 1, 1, 1, 1, 1, 1, 1, 1, 1, 1, 1, 1, 1, 1, 1, 0, 1, 0, 0, 1, 1, 0, 0, 1, 1, 0])) 11) = [9, 6, 4, 0, 1, 2, 3, 4, 5, 6, 9, 10] by kernel_rfl]; simp)) (hp 1 (by rw [show preds (opN (opsAt (sub (bodyOf Try.f7) [1, 1, 1, 1, 1, 1, 1, 1, 1, 1, 1, 1, 1, 1, 1, 1, 1, 1, 1, 1, 1, 1, 1, 0, 1, 0, 0, 1, 1, 0, 0, 1, 1, 0])) 11) = [9, 6, 4, 0, 1, 2, 3, 4, 5, 6, 9, 10] by kernel_rfl]; simp)) (hp 2 (by rw [show preds (opN (opsAt (sub (bodyOf Try.f7) [1, 1, 1, 1, 1, 1, 1, 1, 1, 1, 1, 1, 1, 1, 1, 1, 1, 1, 1, 1, 1, 1, 1, 0, 1, 0, 0, 1, 1, 0, 0, 1, 1, 0])) 11) = [9, 6, 4, 0, 1, 2, 3, 4, 5, 6, 9, 10] by kernel_rfl]; simp)) (hp 3 (by rw [show preds (opN (opsAt (sub (bodyOf Try.f7) [1, 1, 1, 1, 1, 1, 1, 1, 1, 1, 1, 1, 1, 1, 1, 1, 1, 1, 1, 1, 1, 1, 1, 0, 1, 0, 0, 1, 1, 0, 0, 1, 1, 0])) 11) = [9, 6, 4, 0, 1, 2, 3, 4, 5, 6, 9, 10] by kernel_rfl]; simp)) (hp 4 (by rw [show preds (opN (opsAt (sub (bodyOf Try.f7) [1, 1, 1, 1, 1, 1, 1, 1, 1, 1, 1, 1, 1, 1, 1, 1, 1, 1, 1, 1, 1, 1, 1, 0, 1, 0, 0, 1, 1, 0, 0, 1, 1, 0])) 11) = [9, 6, 4, 0, 1, 2, 3, 4, 5, 6, 9, 10] by kernel_rfl]; simp)) (hp 5 (by rw [show preds (opN (opsAt (sub (bodyOf Try.f7) [1, 1, 1, 1, 1, 1, 1, 1, 1, 1, 1, 1, 1, 1, 1, 1, 1, 1, 1, 1, 1, 1, 1, 0, 1, 0, 0, 1, 1, 0, 0, 1, 1, 0])) 11) = [9, 6, 4, 0, 1, 2, 3, 4, 5, 6, 9, 10] by kernel_rfl]; simp)) (hp 6 (by rw [show preds (opN (opsAt (sub (bodyOf Try.f7) [1, 1, 1, 1, 1, 1, 1, 1, 1, 1, 1, 1, 1, 1, 1, 1, 1, 1, 1, 1, 1, 1, 1, 0, 1, 0, 0, 1, 1, 0, 0, 1, 1, 0])) 11) = [9, 6, 4, 0, 1, 2, 3, 4, 5, 6, 9, 10] by kernel_rfl]; simp)) (hp 9 (by rw [show preds (opN (opsAt (sub (bodyOf Try.f7) [1, 1, 1, 1, 1, 1, 1, 1, 1, 1, 1, 1, 1, 1, 1, 1, 1, 1, 1, 1, 1, 1, 1, 0, 1, 0, 0, 1, 1, 0, 0, 1, 1, 0])) 11) = [9, 6, 4, 0, 1, 2, 3, 4, 5, 6, 9, 10] by kernel_rfl]; simp)) (hp 10 (by rw [show preds (opN (opsAt (sub (bodyOf Try.f7) [1, 1, 1, 1, 1, 1, 1, 1, 1, 1, 1, 1, 1, 1, 1, 1, 1, 1, 1, 1, 1, 1, 1, 0, 1, 0, 0, 1, 1, 0, 0, 1, 1, 0])) 11) = [9, 6, 4, 0, 1, 2, 3, 4, 5, 6, 9, 10] by kernel_rfl]; simp))
      obtain ⟨a957, n958, n959, e0, e1, hh⟩ := hx
      unfold STEPR
      rw [O_law07_ClockTurned_1_11 ⟨hr.at (hp 9 (by rw [show preds (opN (opsAt (sub (bodyOf Try.f7) [1, 1, 1, 1, 1, 1, 1, 1, 1, 1, 1, 1, 1, 1, 1, 1, 1, 1, 1, 1, 1, 1, 1, 0, 1, 0, 0, 1, 1, 0, 0, 1, 1, 0])) 11) = [9, 6, 4, 0, 1, 2, 3, 4, 5, 6, 9, 10] by kernel_rfl]; simp)) (by kernel_rfl) e0, hr.at (hp 6 (by rw [show preds (opN (opsAt (sub (bodyOf Try.f7) [1, 1, 1, 1, 1, 1, 1, 1, 1, 1, 1, 1, 1, 1, 1, 1, 1, 1, 1, 1, 1, 1, 1, 0, 1, 0, 0, 1, 1, 0, 0, 1, 1, 0])) 11) = [9, 6, 4, 0, 1, 2, 3, 4, 5, 6, 9, 10] by kernel_rfl]; simp)) (by kernel_rfl) e1, trivial⟩]
      exact hh
    · have hx := h12 L ρ s hΦ hk (hp 0 (by rw [show preds (opN (opsAt (sub (bodyOf Try.f7) [1, 1, 1, 1, 1, 1, 1, 1, 1, 1, 1, 1, 1, 1, 1, 1, 1, 1, 1, 1, 1, 1, 1, 0, 1, 0, 0, 1, 1, 0, 0, 1, 1, 0])) 12) = [10, 7, 11, 0, 1, 2, 3, 4, 5, 6, 7, 9, 10, 11] by kernel_rfl]; simp)) (hp 1 (by rw [show preds (opN (opsAt (sub (bodyOf Try.f7) [1, 1, 1, 1, 1, 1, 1, 1, 1, 1, 1, 1, 1, 1, 1, 1, 1, 1, 1, 1, 1, 1, 1, 0, 1, 0, 0, 1, 1, 0, 0, 1, 1, 0])) 12) = [10, 7, 11, 0, 1, 2, 3, 4, 5, 6, 7, 9, 10, 11] by kernel_rfl]; simp)) (hp 2 (by rw [show preds (opN (opsAt (sub (bodyOf Try.f7) [1, 1, 1, 1, 1, 1, 1, 1, 1, 1, 1, 1, 1, 1, 1, 1, 1, 1, 1, 1, 1, 1, 1, 0, 1, 0, 0, 1, 1, 0, 0, 1, 1, 0])) 12) = [10, 7, 11, 0, 1, 2, 3, 4, 5, 6, 7, 9, 10, 11] by kernel_rfl]; simp)) (hp 3 (by rw [show preds (opN (opsAt (sub (bodyOf Try.f7) [1, 1, 1, 1, 1, 1, 1, 1, 1, 1, 1, 1, 1, 1, 1, 1, 1, 1, 1, 1, 1, 1, 1, 0, 1, 0, 0, 1, 1, 0, 0, 1, 1, 0])) 12) = [10, 7, 11, 0, 1, 2, 3, 4, 5, 6, 7, 9, 10, 11] by kernel_rfl]; simp)) (hp 4 (by rw [show preds (opN (opsAt (sub (bodyOf Try.f7) [1, 1, 1, 1, 1, 1, 1, 1, 1, 1, 1, 1, 1, 1, 1, 1, 1, 1, 1, 1, 1, 1, 1, 0, 1, 0, 0, 1, 1, 0, 0, 1, 1, 0])) 12) = [10, 7, 11, 0, 1, 2, 3, 4, 5, 6, 7, 9, 10, 11] by kernel_rfl]; simp)) (hp 5 (by rw [show preds (opN (opsAt (sub (bodyOf Try.f7) [1, 1, 1, 1, 1, 1, 1, 1, 1, 1, 1, 1, 1, 1, 1, 1, 1, 1, 1, 1, 1, 1, 1, 0, 1, 0, 0, 1, 1, 0, 0, 1, 1, 0])) 12) = [10, 7, 11, 0, 1, 2, 3, 4, 5, 6, 7, 9, 10, 11] by kernel_rfl]; simp)) (hp 6 (by rw [show preds (opN (opsAt (sub (bodyOf Try.f7) [1, 1, 1, 1, 1, 1, 1, 1, 1, 1, 1, 1, 1, 1, 1, 1, 1, 1, 1, 1, 1, 1, 1, 0, 1, 0, 0, 1, 1, 0, 0, 1, 1, 0])) 12) = [10, 7, 11, 0, 1, 2, 3, 4, 5, 6, 7, 9, 10, 11] by kernel_rfl]; simp)) (hp 7 (by rw [show preds (opN (opsAt (sub (bodyOf Try.f7) [1, 1, 1, 1, 1, 1, 1, 1, 1, 1, 1, 1, 1, 1, 1, 1, 1, 1, 1, 1, 1, 1, 1, 0, 1, 0, 0, 1, 1, 0, 0, 1, 1, 0])) 12) = [10, 7, 11, 0, 1, 2, 3, 4, 5, 6, 7, 9, 10, 11] by kernel_rfl]; simp)) (hp 9 (by rw [show preds (opN (opsAt (sub (bodyOf Try.f7) [1, 1, 1, 1, 1, 1, 1, 1, 1, 1, 1, 1, 1, 1, 1, 1, 1, 1, 1, 1, 1, 1, 1, 0, 1, 0, 0, 1, 1, 0, 0, 1, 1, 0])) 12) = [10, 7, 11, 0, 1, 2, 3, 4, 5, 6, 7, 9, 10, 11] by kernel_rfl]; simp)) (hp 10 (by rw [show preds (opN (opsAt (sub (bodyOf Try.f7) [1, 1, 1, 1, 1, 1, 1, 1, 1, 1, 1, 1, 1, 1, 1, 1, 1, 1, 1, 1, 1, 1, 1, 0, 1, 0, 0, 1, 1, 0, 0, 1, 1, 0])) 12) = [10, 7, 11, 0, 1, 2, 3, 4, 5, 6, 7, 9, 10, 11] by kernel_rfl]; simp)) (hp 11 (by rw [show preds (opN (opsAt (sub (bodyOf Try.f7) [1, 1, 1, 1, 1, 1, 1, 1, 1, 1, 1, 1, 1, 1, 1, 1, 1, 1, 1, 1, 1, 1, 1, 0, 1, 0, 0, 1, 1, 0, 0, 1, 1, 0])) 12) = [10, 7, 11, 0, 1, 2, 3, 4, 5, 6, 7, 9, 10, 11] by kernel_rfl]; simp))
      obtain ⟨a960, n961, n962, e0, e1, hh⟩ := hx
      unfold STEPR
      rw [O_law07_ClockTurned_1_12 ⟨hr.at (hp 10 (by rw [show preds (opN (opsAt (sub (bodyOf Try.f7) [1, 1, 1, 1, 1, 1, 1, 1, 1, 1, 1, 1, 1, 1, 1, 1, 1, 1, 1, 1, 1, 1, 1, 0, 1, 0, 0, 1, 1, 0, 0, 1, 1, 0])) 12) = [10, 7, 11, 0, 1, 2, 3, 4, 5, 6, 7, 9, 10, 11] by kernel_rfl]; simp)) (by kernel_rfl) e0, hr.at (hp 7 (by rw [show preds (opN (opsAt (sub (bodyOf Try.f7) [1, 1, 1, 1, 1, 1, 1, 1, 1, 1, 1, 1, 1, 1, 1, 1, 1, 1, 1, 1, 1, 1, 1, 0, 1, 0, 0, 1, 1, 0, 0, 1, 1, 0])) 12) = [10, 7, 11, 0, 1, 2, 3, 4, 5, 6, 7, 9, 10, 11] by kernel_rfl]; simp)) (by kernel_rfl) e1, trivial⟩]
      exact hh
    · have hx := h13 L ρ s hΦ hk (hp 0 (by rw [show preds (opN (opsAt (sub (bodyOf Try.f7) [1, 1, 1, 1, 1, 1, 1, 1, 1, 1, 1, 1, 1, 1, 1, 1, 1, 1, 1, 1, 1, 1, 1, 0, 1, 0, 0, 1, 1, 0, 0, 1, 1, 0])) 13) = [8, 12, 0, 1, 2, 3, 4, 5, 6, 7, 8, 9, 10, 11, 12] by kernel_rfl]; simp)) (hp 1 (by rw [show preds (opN (opsAt (sub (bodyOf Try.f7) [1, 1, 1, 1, 1, 1, 1, 1, 1, 1, 1, 1, 1, 1, 1, 1, 1, 1, 1, 1, 1, 1, 1, 0, 1, 0, 0, 1, 1, 0, 0, 1, 1, 0])) 13) = [8, 12, 0, 1, 2, 3, 4, 5, 6, 7, 8, 9, 10, 11, 12] by kernel_rfl]; simp)) (hp 2 (by rw [show preds (opN (opsAt (sub (bodyOf Try.f7) [1, 1, 1, 1, 1, 1, 1, 1, 1, 1, 1, 1, 1, 1, 1, 1, 1, 1, 1, 1, 1, 1, 1, 0, 1, 0, 0, 1, 1, 0, 0, 1, 1, 0])) 13) = [8, 12, 0, 1, 2, 3, 4, 5, 6, 7, 8, 9, 10, 11, 12] by kernel_rfl]; simp)) (hp 3 (by rw [show preds (opN (opsAt (sub (bodyOf Try.f7) [1, 1, 1, 1, 1, 1, 1, 1, 1, 1, 1, 1, 1, 1, 1, 1, 1, 1, 1, 1, 1, 1, 1, 0, 1, 0, 0, 1, 1, 0, 0, 1, 1, 0])) 13) = [8, 12, 0, 1, 2, 3, 4, 5, 6, 7, 8, 9, 10, 11, 12] by kernel_rfl]; simp)) (hp 4 (by rw [show preds (opN (opsAt (sub (bodyOf Try.f7) [1, 1, 1, 1, 1, 1, 1, 1, 1, 1, 1, 1, 1, 1, 1, 1, 1, 1, 1, 1, 1, 1, 1, 0, 1, 0, 0, 1, 1, 0, 0, 1, 1, 0])) 13) = [8, 12, 0, 1, 2, 3, 4, 5, 6, 7, 8, 9, 10, 11, 12] by kernel_rfl]; simp)) (hp 5 (by rw [show preds (opN (opsAt (sub (bodyOf Try.f7) [1, 1, 1, 1, 1, 1, 1, 1, 1, 1, 1, 1, 1, 1, 1, 1, 1, 1, 1, 1, 1, 1, 1, 0, 1, 0, 0, 1, 1, 0, 0, 1, 1, 0])) 13) = [8, 12, 0, 1, 2, 3, 4, 5, 6, 7, 8, 9, 10, 11, 12] by kernel_rfl]; simp)) (hp 6 (by rw [show preds (opN (opsAt (sub (bodyOf Try.f7) [1, 1, 1, 1, 1, 1, 1, 1, 1, 1, 1, 1, 1, 1, 1, 1, 1, 1, 1, 1, 1, 1, 1, 0, 1, 0, 0, 1, 1, 0, 0, 1, 1, 0])) 13) = [8, 12, 0, 1, 2, 3, 4, 5, 6, 7, 8, 9, 10, 11, 12] by kernel_rfl]; simp)) (hp 7 (by rw [show preds (opN (opsAt (sub (bodyOf Try.f7) [1, 1, 1, 1, 1, 1, 1, 1, 1, 1, 1, 1, 1, 1, 1, 1, 1, 1, 1, 1, 1, 1, 1, 0, 1, 0, 0, 1, 1, 0, 0, 1, 1, 0])) 13) = [8, 12, 0, 1, 2, 3, 4, 5, 6, 7, 8, 9, 10, 11, 12] by kernel_rfl]; simp)) (hp 8 (by rw [show preds (opN (opsAt (sub (bodyOf Try.f7) [1, 1, 1, 1, 1, 1, 1, 1, 1, 1, 1, 1, 1, 1, 1, 1, 1, 1, 1, 1, 1, 1, 1, 0, 1, 0, 0, 1, 1, 0, 0, 1, 1, 0])) 13) = [8, 12, 0, 1, 2, 3, 4, 5, 6, 7, 8, 9, 10, 11, 12] by kernel_rfl]; simp)) (hp 9 (by rw [show preds (opN (opsAt (sub (bodyOf Try.f7) [1, 1, 1, 1, 1, 1, 1, 1, 1, 1, 1, 1, 1, 1, 1, 1, 1, 1, 1, 1, 1, 1, 1, 0, 1, 0, 0, 1, 1, 0, 0, 1, 1, 0])) 13) = [8, 12, 0, 1, 2, 3, 4, 5, 6, 7, 8, 9, 10, 11, 12] by kernel_rfl]; simp)) (hp 10 (by rw [show preds (opN (opsAt (sub (bodyOf Try.f7) [1, 1, 1, 1, 1, 1, 1, 1, 1, 1, 1, 1, 1, 1, 1, 1, 1, 1, 1, 1, 1, 1, 1, 0, 1, 0, 0, 1, 1, 0, 0, 1, 1, 0])) 13) = [8, 12, 0, 1, 2, 3, 4, 5, 6, 7, 8, 9, 10, 11, 12] by kernel_rfl]; simp)) (hp 11 (by rw [show preds (opN (opsAt (sub (bodyOf Try.f7) [1, 1, 1, 1, 1, 1, 1, 1, 1, 1, 1, 1, 1, 1, 1, 1, 1, 1, 1, 1, 1, 1, 1, 0, 1, 0, 0, 1, 1, 0, 0, 1, 1, 0])) 13) = [8, 12, 0, 1, 2, 3, 4, 5, 6, 7, 8, 9, 10, 11, 12] by kernel_rfl]; simp)) (hp 12 (by rw [show preds (opN (opsAt (sub (bodyOf Try.f7) [1, 1, 1, 1, 1, 1, 1, 1, 1, 1, 1, 1, 1, 1, 1, 1, 1, 1, 1, 1, 1, 1, 1, 0, 1, 0, 0, 1, 1, 0, 0, 1, 1, 0])) 13) = [8, 12, 0, 1, 2, 3, 4, 5, 6, 7, 8, 9, 10, 11, 12] by kernel_rfl]; simp))
      obtain ⟨n963, e0, hh⟩ := hx
      unfold STEPR
      rw [O_law07_ClockTurned_1_13 ⟨hr.at (hp 8 (by rw [show preds (opN (opsAt (sub (bodyOf Try.f7) [1, 1, 1, 1, 1, 1, 1, 1, 1, 1, 1, 1, 1, 1, 1, 1, 1, 1, 1, 1, 1, 1, 1, 0, 1, 0, 0, 1, 1, 0, 0, 1, 1, 0])) 13) = [8, 12, 0, 1, 2, 3, 4, 5, 6, 7, 8, 9, 10, 11, 12] by kernel_rfl]; simp)) (by kernel_rfl) e0, trivial⟩]
      exact hh
  · intro q hq0 hlo L t ρ s hr hΦ hc hq hno
    rcases (show q = 0 ∨ q = 1 ∨ q = 2 ∨ q = 3 ∨ q = 4 ∨ q = 5 ∨ q = 6 ∨ q = 7 ∨ q = 8 ∨ q = 9 ∨ q = 10 ∨ q = 11 ∨ q = 12 ∨ q = 13 by omega) with rfl | rfl | rfl | rfl | rfl | rfl | rfl | rfl | rfl | rfl | rfl | rfl | rfl | rfl
    · have hx := l0 L ρ s hΦ hq (fun hm => absurd (hno 4 hm (by kernel_rfl)) (by rw [show bit ((masks (opsAt (sub (bodyOf Try.f7) [1, 1, 1, 1, 1, 1, 1, 1, 1, 1, 1, 1, 1, 1, 1, 1, 1, 1, 1, 1, 1, 1, 1, 0, 1, 0, 0, 1, 1, 0, 0, 1, 1, 0])) []).getD 4 0) 0 = true by kernel_rfl]; simp)) (fun hm => absurd (hno 11 hm (by kernel_rfl)) (by rw [show bit ((masks (opsAt (sub (bodyOf Try.f7) [1, 1, 1, 1, 1, 1, 1, 1, 1, 1, 1, 1, 1, 1, 1, 1, 1, 1, 1, 1, 1, 1, 1, 0, 1, 0, 0, 1, 1, 0, 0, 1, 1, 0])) []).getD 11 0) 0 = true by kernel_rfl]; simp)) (fun hm => absurd (hno 12 hm (by kernel_rfl)) (by rw [show bit ((masks (opsAt (sub (bodyOf Try.f7) [1, 1, 1, 1, 1, 1, 1, 1, 1, 1, 1, 1, 1, 1, 1, 1, 1, 1, 1, 1, 1, 1, 1, 0, 1, 0, 0, 1, 1, 0, 0, 1, 1, 0])) []).getD 12 0) 0 = true by kernel_rfl]; simp)) (fun hm => absurd (hno 13 hm (by kernel_rfl)) (by rw [show bit ((masks (opsAt (sub (bodyOf Try.f7) [1, 1, 1, 1, 1, 1, 1, 1, 1, 1, 1, 1, 1, 1, 1, 1, 1, 1, 1, 1, 1, 1, 1, 0, 1, 0, 0, 1, 1, 0, 0, 1, 1, 0])) []).getD 13 0) 0 = true by kernel_rfl]; simp))
      have hh := hx
      rw [O_law07_ClockTurned_1_0 ⟨hr.base 5 rfl rfl (by kernel_rfl), trivial⟩]
      exact hh
    · exact absurd hlo (by rw [show isLoad (opN (opsAt (sub (bodyOf Try.f7) [1, 1, 1, 1, 1, 1, 1, 1, 1, 1, 1, 1, 1, 1, 1, 1, 1, 1, 1, 1, 1, 1, 1, 0, 1, 0, 0, 1, 1, 0, 0, 1, 1, 0])) 1) = false by kernel_rfl]; simp)
    · exact absurd hlo (by rw [show isLoad (opN (opsAt (sub (bodyOf Try.f7) [1, 1, 1, 1, 1, 1, 1, 1, 1, 1, 1, 1, 1, 1, 1, 1, 1, 1, 1, 1, 1, 1, 1, 0, 1, 0, 0, 1, 1, 0, 0, 1, 1, 0])) 2) = false by kernel_rfl]; simp)
    · exact absurd hlo (by rw [show isLoad (opN (opsAt (sub (bodyOf Try.f7) [1, 1, 1, 1, 1, 1, 1, 1, 1, 1, 1, 1, 1, 1, 1, 1, 1, 1, 1, 1, 1, 1, 1, 0, 1, 0, 0, 1, 1, 0, 0, 1, 1, 0])) 3) = false by kernel_rfl]; simp)
    · exact absurd hlo (by rw [show isLoad (opN (opsAt (sub (bodyOf Try.f7) [1, 1, 1, 1, 1, 1, 1, 1, 1, 1, 1, 1, 1, 1, 1, 1, 1, 1, 1, 1, 1, 1, 1, 0, 1, 0, 0, 1, 1, 0, 0, 1, 1, 0])) 4) = false by kernel_rfl]; simp)
    · exact absurd hlo (by rw [show isLoad (opN (opsAt (sub (bodyOf Try.f7) [1, 1, 1, 1, 1, 1, 1, 1, 1, 1, 1, 1, 1, 1, 1, 1, 1, 1, 1, 1, 1, 1, 1, 0, 1, 0, 0, 1, 1, 0, 0, 1, 1, 0])) 5) = false by kernel_rfl]; simp)
    · exact absurd hlo (by rw [show isLoad (opN (opsAt (sub (bodyOf Try.f7) [1, 1, 1, 1, 1, 1, 1, 1, 1, 1, 1, 1, 1, 1, 1, 1, 1, 1, 1, 1, 1, 1, 1, 0, 1, 0, 0, 1, 1, 0, 0, 1, 1, 0])) 6) = false by kernel_rfl]; simp)
    · exact absurd hlo (by rw [show isLoad (opN (opsAt (sub (bodyOf Try.f7) [1, 1, 1, 1, 1, 1, 1, 1, 1, 1, 1, 1, 1, 1, 1, 1, 1, 1, 1, 1, 1, 1, 1, 0, 1, 0, 0, 1, 1, 0, 0, 1, 1, 0])) 7) = false by kernel_rfl]; simp)
    · exact absurd hlo (by rw [show isLoad (opN (opsAt (sub (bodyOf Try.f7) [1, 1, 1, 1, 1, 1, 1, 1, 1, 1, 1, 1, 1, 1, 1, 1, 1, 1, 1, 1, 1, 1, 1, 0, 1, 0, 0, 1, 1, 0, 0, 1, 1, 0])) 8) = false by kernel_rfl]; simp)
    · exact absurd hlo (by rw [show isLoad (opN (opsAt (sub (bodyOf Try.f7) [1, 1, 1, 1, 1, 1, 1, 1, 1, 1, 1, 1, 1, 1, 1, 1, 1, 1, 1, 1, 1, 1, 1, 0, 1, 0, 0, 1, 1, 0, 0, 1, 1, 0])) 9) = false by kernel_rfl]; simp)
    · exact absurd hlo (by rw [show isLoad (opN (opsAt (sub (bodyOf Try.f7) [1, 1, 1, 1, 1, 1, 1, 1, 1, 1, 1, 1, 1, 1, 1, 1, 1, 1, 1, 1, 1, 1, 1, 0, 1, 0, 0, 1, 1, 0, 0, 1, 1, 0])) 10) = false by kernel_rfl]; simp)
    · exact absurd hlo (by rw [show isLoad (opN (opsAt (sub (bodyOf Try.f7) [1, 1, 1, 1, 1, 1, 1, 1, 1, 1, 1, 1, 1, 1, 1, 1, 1, 1, 1, 1, 1, 1, 1, 0, 1, 0, 0, 1, 1, 0, 0, 1, 1, 0])) 11) = false by kernel_rfl]; simp)
    · exact absurd hlo (by rw [show isLoad (opN (opsAt (sub (bodyOf Try.f7) [1, 1, 1, 1, 1, 1, 1, 1, 1, 1, 1, 1, 1, 1, 1, 1, 1, 1, 1, 1, 1, 1, 1, 0, 1, 0, 0, 1, 1, 0, 0, 1, 1, 0])) 12) = false by kernel_rfl]; simp)
    · exact absurd hlo (by rw [show isLoad (opN (opsAt (sub (bodyOf Try.f7) [1, 1, 1, 1, 1, 1, 1, 1, 1, 1, 1, 1, 1, 1, 1, 1, 1, 1, 1, 1, 1, 1, 1, 0, 1, 0, 0, 1, 1, 0, 0, 1, 1, 0])) 13) = false by kernel_rfl]; simp)
  · intro L t ρ s hr hΦ hall
    have hx := hf L ρ s hΦ hall
    obtain ⟨a964, a965, n966, e0, e1, e2, hh⟩ := hx
    rw [A_law07_ClockTurned_1_eq W R nx3 zn0 za1 zb2 za3 za4 za5 zp6 zl7 zl8 zp9 zl10 zl11 zp12 zl13 zl14 zn15 zn16 zn17 za18 za19 zn20 zn21 ⟨hr.base 0 rfl rfl (by kernel_rfl), hr.base 1 rfl rfl (by kernel_rfl), hr.base 2 rfl rfl (by kernel_rfl), hr.base 3 rfl rfl (by kernel_rfl), hr.base 4 rfl rfl (by kernel_rfl), hr.base 5 rfl rfl (by kernel_rfl), hr.base 6 rfl rfl (by kernel_rfl), hr.base 7 rfl rfl (by kernel_rfl), hr.base 8 rfl rfl (by kernel_rfl), hr.base 9 rfl rfl (by kernel_rfl), hr.base 10 rfl rfl (by kernel_rfl), hr.base 11 rfl rfl (by kernel_rfl), hr.base 12 rfl rfl (by kernel_rfl), hr.base 13 rfl rfl (by kernel_rfl), hr.base 14 rfl rfl (by kernel_rfl), hr.at (hall 9 (by omega)) (by kernel_rfl) e0, hr.at (hall 10 (by omega)) (by kernel_rfl) e1, hr.at (hall 13 (by omega)) (by kernel_rfl) e2, hr.base 15 rfl rfl (by kernel_rfl), hr.base 16 rfl rfl (by kernel_rfl), hr.base 17 rfl rfl (by kernel_rfl), trivial⟩]
    exact hh
def T_law07_ClockTurned (W : World) (x1 : Option Addr) (l2 : Nat) (c3 : Nat) (n4 : Int) (x5 : Option Addr) (l6 : Nat) (c7 : Nat) (x8 : Option Addr) (l9 : Nat) (c10 : Nat) (n11 : Int) (n12 : Int) (n13 : Int) (n14 : Int) (R : Ending → Hp → Prop) : Hp → Prop :=
 NEW 26 [(.slice x1 l2 c3), (.int .i64 n4), (.slice x5 l6 c7), (.slice x8 l9 c10)] fun B15 =>
 NEW 5 [(.int .u8 n13)] fun B16 =>
 NEW 5 [(.int .u8 n14)] fun B17 =>
 RDL (Addr.add ⟨B15, 0, none⟩ 0) fun x18 l19 c20 =>
 RDI .i64 (Addr.add ⟨B15, 0, none⟩ 1) fun n21 =>
 RDL (Addr.add ⟨B15, 0, none⟩ 2) fun x22 l23 c24 =>
 RDL (Addr.add ⟨B15, 0, none⟩ 3) fun x25 l26 c27 =>
 CALL Pg W F_law07_heavy [(.agg #[(.slice x18 l19 c20), (.int .i64 n21), (.slice x22 l23 c24), (.slice x25 l26 c27)]), (.int .i64 60), (.int .i64 6)]
 (fun v28 => TYB v28 fun b30 =>
 BR b30
 (J_law07_ClockTurned_2 W R true B15 n11 n12 B16 B17)
 (RDL (Addr.add ⟨B15, 0, none⟩ 0) fun x81 l82 c83 =>
 RDI .i64 (Addr.add ⟨B15, 0, none⟩ 1) fun n84 =>
 RDL (Addr.add ⟨B15, 0, none⟩ 2) fun x85 l86 c87 =>
 RDL (Addr.add ⟨B15, 0, none⟩ 3) fun x88 l89 c90 =>
 CALL Pg W F_ref07_Clock [(.agg #[(.slice x81 l82 c83), (.int .i64 n84), (.slice x85 l86 c87), (.slice x88 l89 c90)])]
 (fun v91 => TYB v91 fun b93 =>
 J_law07_ClockTurned_2 W R (!b93) B15 n11 n12 B16 B17)
 (fun e92 => R (.panicked e92))))
 (fun e29 => R (.panicked e29))
theorem T_law07_ClockTurned_eq (W : World) (x1 : Option Addr) (l2 : Nat) (c3 : Nat) (n4 : Int) (x5 : Option Addr) (l6 : Nat) (c7 : Nat) (x8 : Option Addr) (l9 : Nat) (c10 : Nat) (n11 : Int) (n12 : Int) (n13 : Int) (n14 : Int) (R : Ending → Hp → Prop) : vfun Pg W an_7 Try.f7 [(.agg #[(.slice x1 l2 c3), (.int .i64 n4), (.slice x5 l6 c7), (.slice x8 l9 c10)]), (.int .i64 n11), (.int .i64 n12), (.int .u8 n13), (.int .u8 n14)] R = T_law07_ClockTurned W x1 l2 c3 n4 x5 l6 c7 x8 l9 c10 n11 n12 n13 n14 R := by kernel_rfl
theorem does_law07_ClockTurned (W : World) (x1 : Option Addr) (l2 : Nat) (c3 : Nat) (n4 : Int) (x5 : Option Addr) (l6 : Nat) (c7 : Nat) (x8 : Option Addr) (l9 : Nat) (c10 : Nat) (n11 : Int) (n12 : Int) (n13 : Int) (n14 : Int) (R : Ending → Hp → Prop) (s : Hp) (h : T_law07_ClockTurned W x1 l2 c3 n4 x5 l6 c7 x8 l9 c10 n11 n12 n13 n14 R s) : Does Pg W F_law07_ClockTurned #[(.agg #[(.slice x1 l2 c3), (.int .i64 n4), (.slice x5 l6 c7), (.slice x8 l9 c10)]), (.int .i64 n11), (.int .i64 n12), (.int .u8 n13), (.int .u8 n14)] s R :=
  does_of_vfun Pg W an_7 Try.func7 rfl (by kernel_rfl) (by rw [T_law07_ClockTurned_eq]; exact h)
def an_32 : Nat → Ann := fun b => match b with
 | _ => {}
abbrev rv_32 : List ResultVar := [.tmp 4]
abbrev rs_32 : List Nat := [12, 4]
def T_law07_ClockTurned_c1 (W : World) (n1 : Int) (a2 : Addr) (a3 : Addr) (R : Ending → Hp → Prop) : Hp → Prop :=
 RDI .u8 a2 fun n4 =>
 RDI .i64 (Addr.add a3 1) fun n5 =>
 NZI n5 <|
 R (.returned (.int .i64 (Int.tmod (IntKind.wrap .i64 (n1 + (IntKind.wrap .i64 n4))) n5)))
theorem T_law07_ClockTurned_c1_eq (W : World) (n1 : Int) (a2 : Addr) (a3 : Addr) (R : Ending → Hp → Prop) : vfun Pg W an_32 Try.f32 [(.int .i64 n1), (.pointer (some a2)), (.pointer (some a3))] R = T_law07_ClockTurned_c1 W n1 a2 a3 R := by kernel_rfl
theorem does_law07_ClockTurned_c1 (W : World) (n1 : Int) (a2 : Addr) (a3 : Addr) (R : Ending → Hp → Prop) (s : Hp) (h : T_law07_ClockTurned_c1 W n1 a2 a3 R s) : Does Pg W F_law07_ClockTurned_c1 #[(.int .i64 n1), (.pointer (some a2)), (.pointer (some a3))] s R :=
  does_of_vfun Pg W an_32 Try.func32 rfl (by kernel_rfl) (by rw [T_law07_ClockTurned_c1_eq]; exact h)
def an_33 : Nat → Ann := fun b => match b with
 | _ => {}
abbrev rv_33 : List ResultVar := [.tmp 4]
abbrev rs_33 : List Nat := [13, 4]
def T_law07_ClockTurned_c2 (W : World) (n1 : Int) (a2 : Addr) (a3 : Addr) (R : Ending → Hp → Prop) : Hp → Prop :=
 RDI .u8 a2 fun n4 =>
 RDL (Addr.add a3 0) fun x5 l6 c7 =>
 NZI (↑l6 : Int) <|
 R (.returned (.int .i64 (Int.tmod (IntKind.wrap .i64 (n1 + (IntKind.wrap .i64 n4))) (↑l6 : Int))))
theorem T_law07_ClockTurned_c2_eq (W : World) (n1 : Int) (a2 : Addr) (a3 : Addr) (R : Ending → Hp → Prop) : vfun Pg W an_33 Try.f33 [(.int .i64 n1), (.pointer (some a2)), (.pointer (some a3))] R = T_law07_ClockTurned_c2 W n1 a2 a3 R := by kernel_rfl
theorem does_law07_ClockTurned_c2 (W : World) (n1 : Int) (a2 : Addr) (a3 : Addr) (R : Ending → Hp → Prop) (s : Hp) (h : T_law07_ClockTurned_c2 W n1 a2 a3 R s) : Does Pg W F_law07_ClockTurned_c2 #[(.int .i64 n1), (.pointer (some a2)), (.pointer (some a3))] s R :=
  does_of_vfun Pg W an_33 Try.func33 rfl (by kernel_rfl) (by rw [T_law07_ClockTurned_c2_eq]; exact h)
end Go.Proofs.Ytknpmijgdfeliaa.G

/- Clock: a clock that is numbered otherwise: how it is made. -/
set_option linter.unusedSimpArgs false
set_option linter.unusedVariables false
set_option maxRecDepth 20000
namespace Go.Proofs.Ytknpmijgdfeliaa.G
open Go.V
/-- Numbers that are turned, and back. -/
def tr (p : Nat) (n e : Int) : Int := (e + p) % n
def tb (p : Nat) (n e : Int) : Int := (e - p) % n
theorem tr_spec {p : Nat} {n e : Int} (h0 : 0 ≤ e) (h1 : e < n) : (0 ≤ tr p n e ∧ tr p n e < n) ∧ tb p n (tr p n e) = e := by
  unfold tr tb
  refine ⟨⟨Int.emod_nonneg _ (by omega), Int.emod_lt_of_pos _ (by omega)⟩, ?_⟩
  rw [Int.sub_emod, Int.emod_emod, ← Int.sub_emod, Int.add_sub_cancel, Int.emod_eq_of_lt h0 h1]
theorem tb_spec {p : Nat} {n e : Int} (h0 : 0 ≤ e) (h1 : e < n) : (0 ≤ tb p n e ∧ tb p n e < n) ∧ tr p n (tb p n e) = e := by
  unfold tr tb
  refine ⟨⟨Int.emod_nonneg _ (by omega), Int.emod_lt_of_pos _ (by omega)⟩, ?_⟩
  rw [Int.add_emod, Int.emod_emod, ← Int.add_emod, Int.sub_add_cancel, Int.emod_eq_of_lt h0 h1]
section
variable {W : World} {K : VK} {E : List PanicEntry → Hp → Prop} {s : Hp}
theorem c_event {a b : Addr} {p : Nat} {n e : Int} (hp : p < 256) (ha : cellAt s a = some (.int .u8 (p : Int))) (hb : cellAt s (b.add 1) = some (.int .i64 n)) (hn : 0 < n ∧ n ≤ 1000000) (he : 0 ≤ e ∧ e ≤ 1000000) (h : K (.int .i64 (tr p n e)) s) : CALLV Pg W (.func (.func 32) #[] #[.pointer (some a), .pointer (some b)]) [.int .i64 e] K E s := by
  refine CALLV_func ?_
  refine does_law07_ClockTurned_c1 W e a b _ s ?_
  unfold T_law07_ClockTurned_c1
  refine ⟨_, ha, ⟨_, hb, NZI_pos (by omega) ?_⟩⟩
  have : Int.tmod (IntKind.i64.wrap (e + IntKind.i64.wrap (p : Int))) n = tr p n e := by
    unfold tr
    rw [wrap_i64 (n := (p : Int)) (by omega) (by omega), wrap_i64 (by omega) (by omega), Int.tmod_eq_emod_of_nonneg (by omega)]
  rw [this]
  exact h
theorem c_watch {a b : Addr} {p : Nat} {x : Option Addr} {l c : Nat} {e : Int} (hp : p < 256) (ha : cellAt s a = some (.int .u8 (p : Int))) (hb : cellAt s (b.add 0) = some (.slice x l c)) (hn : 0 < l ∧ l ≤ 1000000) (he : 0 ≤ e ∧ e ≤ 1000000) (h : K (.int .i64 (tr p (l : Int) e)) s) : CALLV Pg W (.func (.func 33) #[] #[.pointer (some a), .pointer (some b)]) [.int .i64 e] K E s := by
  refine CALLV_func ?_
  refine does_law07_ClockTurned_c2 W e a b _ s ?_
  unfold T_law07_ClockTurned_c2
  refine ⟨_, ha, ⟨_, _, _, hb, NZI_pos (by omega) ?_⟩⟩
  have : Int.tmod (IntKind.i64.wrap (e + IntKind.i64.wrap (p : Int))) (l : Int) = tr p (l : Int) e := by
    unfold tr
    rw [wrap_i64 (n := (p : Int)) (by omega) (by omega), wrap_i64 (by omega) (by omega), Int.tmod_eq_emod_of_nonneg (by omega)]
  rw [this]
  exact h
/-- What stands from the begin on: the clock, and the numbers by which it is turned. -/
structure TF (s : Hp) (c : Clk) (x y z : Option Addr) (c1 c2 c3 p q cb xb : Nat) (t : Hp) : Prop where
  ext : Ext s t
  lt : s.size ≤ cb ∧ cb + 2 < xb ∧ xb < t.size
  o0 : Own t ⟨cb, 0, none⟩ (.slice x c.ws.length c1)
  o1 : Own t ⟨cb, 1, none⟩ (.int .i64 c.n)
  o2 : Own t ⟨cb, 2, none⟩ (.slice y c.rs.length c2)
  o3 : Own t ⟨cb, 3, none⟩ (.slice z c.ls.length c3)
  op : Own t ⟨cb + 1, 0, none⟩ (.int .u8 (p : Int))
  oq : Own t ⟨cb + 2, 0, none⟩ (.int .u8 (q : Int))
variable {c : Clk} {x y z : Option Addr} {c1 c2 c3 p q cb xb : Nat}
theorem TF.keep {D : Nat → Prop} {t t' : Hp} (h : TF s c x y z c1 c2 c3 p q cb xb t) (k : Kp D t t') (hd : ∀ d, D d → xb ≤ d) : TF s c x y z c1 c2 c3 p q cb xb t' := by
  obtain ⟨l1, l2, l3⟩ := h.lt
  have hn : ∀ b, b < xb → ¬ D b := fun b hb hD => by have := hd b hD; omega
  exact ⟨kp_nil h.ext (fun b hb => by have := hd b hb; omega) k, ⟨l1, l2, Nat.lt_of_lt_of_le l3 k.1⟩, k.own (hn _ (by show cb < xb; omega)) h.o0, k.own (hn _ (by show cb < xb; omega)) h.o1, k.own (hn _ (by show cb < xb; omega)) h.o2, k.own (hn _ (by show cb < xb; omega)) h.o3, k.own (hn _ (by show cb + 1 < xb; omega)) h.op, k.own (hn _ (by show cb + 2 < xb; omega)) h.oq⟩
theorem TF.extk {t t' : Hp} (h : TF s c x y z c1 c2 c3 p q cb xb t) (e : Ext t t') : TF s c x y z c1 c2 c3 p q cb xb t' := h.keep (D := fun _ => False) e.kp fun _ h => h.elim
/-- The turned clock as it stands. -/
structure TX (s : Hp) (xb : Nat) (t : Hp) (c' : Clk) (x' y' z' : Option Addr) (d1 d2 d3 : Nat) : Prop where
  o0 : Own t ⟨xb, 0, none⟩ (.slice x' c'.ws.length d1)
  o1 : Own t ⟨xb, 1, none⟩ (.int .i64 c'.n)
  o2 : Own t ⟨xb, 2, none⟩ (.slice y' c'.rs.length d2)
  o3 : Own t ⟨xb, 3, none⟩ (.slice z' c'.ls.length d3)
  w : RowAt t x' (wtV c'.ws)
  r : RowAt t y' (rdV c'.rs)
  l : RowAt t z' (lkV c'.ls)
  wb : ∀ a, x' = some a → xb < a.block
  rb : ∀ a, y' = some a → xb < a.block
  lb : ∀ a, z' = some a → xb < a.block
theorem TX.ext {t t' : Hp} {c' : Clk} {x' y' z' : Option Addr} {d1 d2 d3 : Nat} (h : TX s xb t c' x' y' z' d1 d2 d3) (e : Ext t t') : TX s xb t' c' x' y' z' d1 d2 d3 :=
  ⟨e.own h.o0, e.own h.o1, e.own h.o2, e.own h.o3, h.w.ext e, h.r.ext e, h.l.ext e, h.wb, h.rb, h.lb⟩
theorem TX.cl {t : Hp} {c' : Clk} {x' y' z' : Option Addr} {d1 d2 d3 : Nat} (h : TX s xb t c' x' y' z' d1 d2 d3) : ClV t c' x' y' z' := ⟨row_wt h.w, row_rd h.r, row_lk h.l⟩
abbrev tRd (p q : Nat) (c : Clk) (r : Rd) : Rd := ⟨tr p c.n r.ev, tr q (c.ws.length : Int) r.wa, r.sh⟩
abbrev tLk (p : Nat) (c : Clk) (l : Lk) : Lk := ⟨tr p c.n l.b, tr p c.n l.a, -l.hi, -l.lo⟩
def turnW (q : Nat) (c : Clk) : List Wt := (List.range c.ws.length).map fun (j : Nat) => c.ws.getD (tb q (c.ws.length : Int) (j : Int)).toNat ⟨0, 0, 0, 0⟩
def turnC (p q : Nat) (c : Clk) : Clk := ⟨turnW q c, c.n, c.rs.reverse.map (tRd p q c), c.ls.reverse.map (tLk p c)⟩
theorem turn_Tn {p q : Nat} {c : Clk} : Tn c (turnC p q c) (tr p c.n) (tb p c.n) (tr q (c.ws.length : Int)) (tb q (c.ws.length : Int)) where
  n := rfl
  wl := by show (turnW q c).length = _; unfold turnW; simp
  fe0 := fun e h0 h1 => tr_spec h0 h1
  fi0 := fun e h0 h1 => tb_spec h0 h1
  fw0 := fun e h0 h1 => tr_spec h0 h1
  wi0 := fun e h0 h1 => tb_spec h0 h1
  w := fun i j hi hj he => by
    rw [List.getElem_eq_iff]
    show (turnW q c)[j]? = some c.ws[i]
    have hjl : j < c.ws.length := by have : (turnC p q c).ws.length = c.ws.length := by { show (turnW q c).length = _; unfold turnW; simp }
                                     omega
    have h1 := tr_spec (p := q) (n := (c.ws.length : Int)) (e := (i : Int)) (by omega) (by omega)
    have h2 : tb q (c.ws.length : Int) (j : Int) = (i : Int) := by rw [← he]; exact h1.2
    unfold turnW
    rw [List.getElem?_map, List.getElem?_range hjl, Option.map_some, h2, Int.toNat_natCast]
    simp [List.getD, hi]
  rl := by show (c.rs.reverse.map _).length = _; simp
  r := fun i j hi hj he => by
    rw [List.getElem_eq_iff]
    show (c.rs.reverse.map (tRd p q c))[j]? = _
    rw [List.getElem?_map, List.getElem?_reverse (by omega), show c.rs.length - 1 - j = i by omega, List.getElem?_eq_getElem hi]
    rfl
  ll := by show (c.ls.reverse.map _).length = _; simp
  l := fun i j hi hj he => by
    rw [List.getElem_eq_iff]
    show (c.ls.reverse.map (tLk p c))[j]? = _
    rw [List.getElem?_map, List.getElem?_reverse (by omega), show c.ls.length - 1 - j = i by omega, List.getElem?_eq_getElem hi]
    rfl
theorem rev_take {α β : Type} {f : α → β} {l : List α} {k : Nat} (hk : k < l.length) : (l.reverse.take (k + 1)).map f = (l.reverse.take k).map f ++ [f (l[l.length - 1 - k]'(by omega))] := by
  have hk' : k < l.reverse.length := by simpa using hk
  have e : l.reverse.take (k + 1) = l.reverse.take k ++ [l.reverse[k]] := by
    rw [List.take_append_getElem]
  rw [e, List.map_append, List.map_cons, List.map_nil, List.getElem_reverse]
end
end Go.Proofs.Ytknpmijgdfeliaa.G

/- Clock: a clock that is numbered otherwise: how it is made: the walk. -/
set_option linter.unusedSimpArgs false
set_option linter.unusedVariables false
set_option maxRecDepth 20000
namespace Go.Proofs.Ytknpmijgdfeliaa.G
open Go.V
section
variable {W : World} {K : VK} {E : List PanicEntry → Hp → Prop} {s : Hp} {c : Clk} {x y z : Option Addr} {c1 c2 c3 p q cb xb : Nat} {a0 b0 : Int}
theorem rev_idx {N j : Nat} (hj : j < N) (hN : N ≤ 1000000) : IntKind.i64.wrap (IntKind.i64.wrap ((N : Int) - 1) - (j : Int)) = ((N - 1 - j : Nat) : Int) := by
  rw [wrap_i64 (n := (N : Int) - 1) (by omega) (by omega), wrap_i64 (by omega) (by omega)]
  omega
theorem turn_l2 {t0 : Hp} {ws' : List Wt} {rs' : List Rd} {wx rx : Option Addr} {d1 d2 : Nat} (hc : ClV s c x y z) (hv : VdC c) (hn : 0 < c.n) (hp : p < 256) (h : TF s c x y z c1 c2 c3 p q cb xb t0) (hx : TX s xb t0 ⟨ws', c.n, rs', []⟩ wx rx none d1 d2 0)
    (hk : ∀ t lx d3, TF s c x y z c1 c2 c3 p q cb xb t → TX s xb t ⟨ws', c.n, rs', c.ls.reverse.map (tLk p c)⟩ wx rx lx d1 d2 d3 → D_law07_ClockTurned_0 W (endK K E) a0 b0 ⟨cb, 0, none⟩ ⟨cb + 1, 0, none⟩ ⟨cb + 2, 0, none⟩ ⟨xb, 0, none⟩ t) :
    L_law07_ClockTurned_2 W (endK K E) a0 b0 ⟨cb, 0, none⟩ ⟨cb + 1, 0, none⟩ ⟨cb + 2, 0, none⟩ ⟨xb, 0, none⟩ (c.ls.length : Int) 0 t0 := by
  obtain ⟨l1, l2, l3⟩ := h.lt
  have hl5 := hv.l5
  have hn5 := hv.n5
  refine L_law07_ClockTurned_2_rule W _ _ _ _ _ _ _ _ (fun i t => ∃ (j : Nat) (x : Option Addr) (cc : Nat), i = j ∧ j ≤ c.ls.length ∧ Kp (· = xb) t0 t ∧ Own t ⟨xb, 0, none⟩ (.slice wx ws'.length d1) ∧ Own t ⟨xb, 1, none⟩ (.int .i64 c.n) ∧ Own t ⟨xb, 2, none⟩ (.slice rx rs'.length d2) ∧ Own t ⟨xb, 3, none⟩ (.slice x ((c.ls.reverse.take j).map (tLk p c)).length cc) ∧ Fr t0.size t x ((c.ls.reverse.take j).map (tLk p c)).length cc 4 (lkV ((c.ls.reverse.take j).map (tLk p c)))) (fun i _ => ((c.ls.length : Int) - i).toNat) 0 t0
    ⟨0, none, 0, rfl, Nat.zero_le _, Kp.refl _, hx.o0, hx.o1, hx.o2, hx.o3, Fr.nil _ _ _⟩ ?_
  rintro i t ⟨j, lx, cc, rfl, hj, kt, x0, x1, x2, x3, fr⟩
  have ht := h.keep kt (fun d hd => by have : d = xb := hd; omega)
  unfold B_law07_ClockTurned_2
  refine BR_dec (fun hlt => ?_) (fun hge => ?_)
  · have hjl : j < c.ls.length := by omega
    refine ⟨_, _, _, ht.o3.cell, ⟨_, _, _, ht.o3.cell, ?_⟩⟩
    dsimp only
    rw [rev_idx hjl (by omega)]
    have hi : c.ls.length - 1 - j < c.ls.length := by omega
    obtain ⟨az, hz0, g1, g2, g3, g4⟩ := (hc.ext ht.ext).ls _ hi
    have hl := hv.lk _ (List.getElem_mem hi)
    have hlen : ((c.ls.reverse.take j).map (tLk p c)).length = j := by simp; omega
    have htk := rev_take (f := tLk p c) hjl
    subst hz0
    refine IXS_nat hi ⟨_, g1, ⟨_, g2, ⟨_, g3, ⟨_, g4, ?_⟩⟩⟩⟩
    generalize c.ls[c.ls.length - 1 - j] = l at *
    refine nw4 zc_63 rfl rfl rfl rfl fun u f zu p0 p1 p2 p3 => ?_
    have hu := ht.extk f
    have y3 := f.own x3
    refine ⟨_, _, _, y3.cell, ⟨_, p1.cell, ⟨_, p0.cell, ⟨_, p3.cell, ⟨_, p2.cell, ?_⟩⟩⟩⟩⟩
    refine c_event hp hu.op.cell hu.o1.cell (by omega) (by omega) ?_
    try simp only [TUP_mk, AGG_mk, HD_mk, NL_mk, TYI_mk, TYB_mk, TYP_mk, TYL_mk, TYS_mk, TYM_mk, SO_mk, NX_mk, endK_mk, endK_mk', add_0]
    refine ANDS_i ⟨_, p2.cell, rfl⟩ (ANDS_i ⟨_, p3.cell, rfl⟩ (ANDS_i ⟨_, p0.cell, rfl⟩ (ANDS_i ⟨_, _, _, y3.cell, rfl⟩ ?_)))
    refine c_event hp hu.op.cell hu.o1.cell (by omega) (by omega) ?_
    try simp only [TUP_mk, AGG_mk, HD_mk, NL_mk, TYI_mk, TYB_mk, TYP_mk, TYL_mk, TYS_mk, TYM_mk, SO_mk, NX_mk, endK_mk, endK_mk', add_0]
    refine ANDS_i ⟨_, p2.cell, rfl⟩ (ANDS_i ⟨_, p3.cell, rfl⟩ (ANDS_i ⟨_, _, _, y3.cell, rfl⟩ ?_))
    have e1 : IntKind.i64.wrap (0 - l.hi) = -l.hi := by rw [wrap_i64 (by omega) (by omega)]; omega
    have e2 : IntKind.i64.wrap (0 - l.lo) = -l.lo := by rw [wrap_i64 (by omega) (by omega)]; omega
    rw [e1, e2]
    refine made_link (t0 := t0) (cb := xb) (ls := (c.ls.reverse.take j).map (tLk p c)) (by omega) (by have := kt.1; have := f.1; omega) y3 (fr.ext f) (by omega) fun t' x' c' k' w3 wk fr' => ?_
    refine ⟨_, rfl, ⟨j + 1, x', c', wrap_succ (by omega), hjl, ?_, wk 0 _ (by omega) (f.own x0), wk 1 _ (by omega) (f.own x1), wk 2 _ (by omega) (f.own x2), ?_, ?_⟩, ms_succ hjl (by omega)⟩
    · exact kp_step (kt.ext f) k' fun d hd => hd.elim .inl .inr
    · rw [htk, List.length_append]; exact w3
    · rw [htk, List.length_append]; exact fr'
  · have : j = c.ls.length := by omega
    subst this
    have e : c.ls.reverse.take c.ls.length = c.ls.reverse := List.take_of_length_le (by simp)
    rw [e] at x3 fr
    have hd : ∀ {x : Option Addr}, (∀ q, x = some q → xb < q.block) → ∀ q, x = some q → ¬ q.block = xb := fun hx q hq => by have := hx q hq; omega
    exact hk t lx cc ht ⟨x0, x1, x2, x3, hx.w.keep kt (hd hx.wb), hx.r.keep kt (hd hx.rb), fr.row, hx.wb, hx.rb, fun a ha => by have := fr.fr a ha; omega⟩
theorem turn_l1 {t0 : Hp} {ws' : List Wt} {wx : Option Addr} {d1 : Nat} (hc : ClV s c x y z) (hv : VdC c) (hn : 0 < c.n) (hp : p < 256) (hq : q < 256) (h : TF s c x y z c1 c2 c3 p q cb xb t0) (hx : TX s xb t0 ⟨ws', c.n, [], []⟩ wx none none d1 0 0)
    (hk : ∀ t rx lx d2 d3, TF s c x y z c1 c2 c3 p q cb xb t → TX s xb t ⟨ws', c.n, c.rs.reverse.map (tRd p q c), c.ls.reverse.map (tLk p c)⟩ wx rx lx d1 d2 d3 → D_law07_ClockTurned_0 W (endK K E) a0 b0 ⟨cb, 0, none⟩ ⟨cb + 1, 0, none⟩ ⟨cb + 2, 0, none⟩ ⟨xb, 0, none⟩ t) :
    L_law07_ClockTurned_1 W (endK K E) a0 b0 ⟨cb, 0, none⟩ ⟨cb + 1, 0, none⟩ ⟨cb + 2, 0, none⟩ ⟨xb, 0, none⟩ (c.rs.length : Int) 0 t0 := by
  obtain ⟨l1, l2, l3⟩ := h.lt
  have hr8 := hv.r8
  have hn5 := hv.n5
  have hw2 := hv.w2
  refine L_law07_ClockTurned_1_rule W _ _ _ _ _ _ _ _ (fun i t => ∃ (j : Nat) (x : Option Addr) (cc : Nat), i = j ∧ j ≤ c.rs.length ∧ Kp (· = xb) t0 t ∧ Own t ⟨xb, 0, none⟩ (.slice wx ws'.length d1) ∧ Own t ⟨xb, 1, none⟩ (.int .i64 c.n) ∧ Own t ⟨xb, 2, none⟩ (.slice x j cc) ∧ Own t ⟨xb, 3, none⟩ (.slice none 0 0) ∧ Fr t0.size t x j cc 3 (rdV ((c.rs.reverse.take j).map (tRd p q c)))) (fun i _ => ((c.rs.length : Int) - i).toNat) 0 t0
    ⟨0, none, 0, rfl, Nat.zero_le _, Kp.refl _, hx.o0, hx.o1, hx.o2, hx.o3, Fr.nil _ _ _⟩ ?_
  rintro i t ⟨j, lx, cc, rfl, hj, kt, x0, x1, x2, x3, fr⟩
  have ht := h.keep kt (fun d hd => by have : d = xb := hd; omega)
  unfold B_law07_ClockTurned_1
  refine BR_dec (fun hlt => ?_) (fun hge => ?_)
  · have hjl : j < c.rs.length := by omega
    refine ⟨_, _, _, ht.o2.cell, ⟨_, _, _, ht.o2.cell, ?_⟩⟩
    dsimp only
    rw [rev_idx hjl (by omega)]
    have hi : c.rs.length - 1 - j < c.rs.length := by omega
    obtain ⟨az, hz0, g1, g2, g3⟩ := (hc.ext ht.ext).rs _ hi
    have hl := hv.rd _ (List.getElem_mem hi)
    have htk := rev_take (f := tRd p q c) hjl
    subst hz0
    refine IXS_nat hi ⟨_, g1, ⟨_, g2, ⟨_, g3, ?_⟩⟩⟩
    generalize c.rs[c.rs.length - 1 - j] = l at *
    refine nw3 zc_61 rfl rfl rfl fun u f zu p0 p1 p2 => ?_
    have hu := ht.extk f
    have y2 := f.own x2
    refine ⟨_, _, _, y2.cell, ⟨_, p0.cell, ⟨_, p1.cell, ⟨_, p2.cell, ?_⟩⟩⟩⟩
    refine c_event hp hu.op.cell hu.o1.cell (by omega) (by omega) ?_
    try simp only [TUP_mk, AGG_mk, HD_mk, NL_mk, TYI_mk, TYB_mk, TYP_mk, TYL_mk, TYS_mk, TYM_mk, SO_mk, NX_mk, endK_mk, endK_mk', add_0]
    refine ANDS_i ⟨_, p2.cell, rfl⟩ (ANDS_i ⟨_, p1.cell, rfl⟩ (ANDS_i ⟨_, _, _, y2.cell, rfl⟩ ?_))
    refine c_watch hq hu.oq.cell hu.o0.cell (by omega) (by omega) ?_
    try simp only [TUP_mk, AGG_mk, HD_mk, NL_mk, TYI_mk, TYB_mk, TYP_mk, TYL_mk, TYS_mk, TYM_mk, SO_mk, NX_mk, endK_mk, endK_mk', add_0]
    refine ANDS_i ⟨_, p2.cell, rfl⟩ (ANDS_i ⟨_, _, _, y2.cell, rfl⟩ ?_)
    refine NEW_rule fun t2 e2 z2 n2' _ => ?_
    have e02 := f.trans e2
    refine ANDS_i ⟨_, _, _, (e2.own y2).cell, rfl⟩ ?_
    have hs0 := kt.1
    have hs2 := e02.1
    refine APP_fr (lo := t0.size) (fr.ext e02) (by omega) (ws := rd3 (tRd p q c l)) (fun i hi => ⟨⟨u.size, 0, none⟩, rfl, ?_⟩) rfl zc_61 rfl (by omega) (by simp [rd3, oneCell]) (by omega) fun t3 x3' c3' k3 hx3 fr3 => ?_
    · have hi3 : i < 3 := hi
      match i, hi3 with
      | 0, _ => exact (n2' 0 _ rfl).cell
      | 1, _ => exact (n2' 1 _ rfl).cell
      | 2, _ => exact (n2' 2 _ rfl).cell
    · have hnD : ¬ (∃ a', lx = some a' ∧ a'.block = xb) := by
        rintro ⟨a', ha', hb'⟩
        have := fr.fr a' ha'
        omega
      have f2o : ∀ {j v}, Own t ⟨xb, j, none⟩ v → Own t3 ⟨xb, j, none⟩ v := fun o => k3.own hnD (e02.own o)
      refine wrOne (i := 2) (f2o x2) rfl fun t4 k4 z4 w3 wk => ?_
      refine ⟨_, rfl, ⟨j + 1, x3', c3', wrap_succ (by omega), hjl, ?_, wk 0 _ (by omega) (f2o x0), wk 1 _ (by omega) (f2o x1), w3, wk 3 _ (by omega) (f2o x3), ?_⟩, ms_succ hjl (by omega)⟩
      · refine kp_step (kp_step (kt.ext e02) k3 fun d hd => ?_) k4 fun d hd => .inl hd
        obtain ⟨a', ha', rfl⟩ := hd
        exact .inr (fr.fr a' ha')
      · rw [htk]
        have e : rdV ((c.rs.reverse.take j).map (tRd p q c) ++ [tRd p q c l]) = rdV ((c.rs.reverse.take j).map (tRd p q c)) ++ rd3 (tRd p q c l) := by rw [rdV_app]; simp [rdV]
        rw [e]
        exact fr3.kp k4 fun a' ha' hb' => by have := fr3.fr a' ha'; have : a'.block = xb := hb'; omega
  · have : j = c.rs.length := by omega
    subst this
    have e : c.rs.reverse.take c.rs.length = c.rs.reverse := List.take_of_length_le (by simp)
    rw [e] at fr
    have hlen : (c.rs.reverse.map (tRd p q c)).length = c.rs.length := by simp
    have hd : ∀ {x : Option Addr}, (∀ q, x = some q → xb < q.block) → ∀ q, x = some q → ¬ q.block = xb := fun hx q hq => by have := hx q hq; omega
    refine ⟨_, _, _, ht.o3.cell, ?_⟩
    refine turn_l2 (rs' := c.rs.reverse.map (tRd p q c)) hc hv hn hp ht ⟨x0, x1, by rw [hlen]; exact x2, x3, hx.w.keep kt (hd hx.wb), fr.row, hx.l.keep kt (hd hx.lb), hx.wb, fun a ha => by have := fr.fr a ha; omega, hx.lb⟩ fun t' lx' d3 g1 g2 => hk t' _ _ _ _ g1 g2
theorem turn_l0 {t0 : Hp} {b51 : Nat} (hc : ClV s c x y z) (hv : VdC c) (hn : 0 < c.n) (hp : p < 256) (hq : q < 256) (h : TF s c x y z c1 c2 c3 p q cb xb t0) (hb : xb < b51) (hbs : b51 < t0.size)
    (x0 : Own t0 ⟨xb, 0, none⟩ (.slice (some ⟨b51, 0, none⟩) c.ws.length c.ws.length)) (x1 : Own t0 ⟨xb, 1, none⟩ (.int .i64 c.n)) (x2 : Own t0 ⟨xb, 2, none⟩ (.slice none 0 0)) (x3 : Own t0 ⟨xb, 3, none⟩ (.slice none 0 0)) (hb51 : ∀ i, i < c.ws.length * 4 → ∃ v, Own t0 ⟨b51, i, none⟩ v)
    (hk : ∀ t wx rx lx d1 d2 d3, TF s c x y z c1 c2 c3 p q cb xb t → TX s xb t (turnC p q c) wx rx lx d1 d2 d3 → D_law07_ClockTurned_0 W (endK K E) a0 b0 ⟨cb, 0, none⟩ ⟨cb + 1, 0, none⟩ ⟨cb + 2, 0, none⟩ ⟨xb, 0, none⟩ t) :
    L_law07_ClockTurned_0 W (endK K E) a0 b0 ⟨cb, 0, none⟩ ⟨cb + 1, 0, none⟩ ⟨cb + 2, 0, none⟩ ⟨xb, 0, none⟩ x c.ws.length c1 (c.ws.length : Int) 0 t0 := by
  obtain ⟨l1, l2, l3⟩ := h.lt
  have hw2 := hv.w2
  refine L_law07_ClockTurned_0_rule W _ _ _ _ _ _ _ _ _ _ _ (fun i t => ∃ (j : Nat), i = j ∧ j ≤ c.ws.length ∧ Kp (· = b51) t0 t ∧ (∀ i, i < c.ws.length * 4 → ∃ v, Own t ⟨b51, i, none⟩ v) ∧ ∀ i (hi : i < c.ws.length), i < j → ∀ k : Nat, tr q (c.ws.length : Int) (i : Int) = (k : Int) → ∀ e (he : e < 4), Own t ⟨b51, k * 4 + e, none⟩ ((wt4 c.ws[i])[e]'he)) (fun i _ => ((c.ws.length : Int) - i).toNat) 0 t0
    ⟨0, rfl, Nat.zero_le _, Kp.refl _, hb51, fun i hi h => by omega⟩ ?_
  rintro i t ⟨j, rfl, hj, kt, hbo, hrow⟩
  have ht := h.keep kt (fun d hd => by have : d = b51 := hd; omega)
  have hnx : ¬ xb = b51 := by omega
  unfold B_law07_ClockTurned_0
  refine BR_dec (fun hlt => ?_) (fun hge => ?_)
  · have hjl : j < c.ws.length := by omega
    obtain ⟨az, hz0, g1, g2, g3, g4⟩ := (hc.ext ht.ext).ws j hjl
    subst hz0
    refine IXS_nat hjl ⟨_, g1, ⟨_, g2, ⟨_, g3, ⟨_, g4, ?_⟩⟩⟩⟩
    refine nw4 zc_66 rfl rfl rfl rfl fun u f zu p0 p1 p2 p3 => ?_
    have hu := ht.extk f
    have y0 := f.own (kt.own hnx x0)
    refine ⟨_, _, _, y0.cell, ⟨_, p0.cell, ⟨_, p1.cell, ⟨_, p2.cell, ⟨_, p3.cell, ?_⟩⟩⟩⟩⟩
    refine c_watch hq hu.oq.cell hu.o0.cell (by omega) (by omega) ?_
    try simp only [TUP_mk, AGG_mk, HD_mk, NL_mk, TYI_mk, TYB_mk, TYP_mk, TYL_mk, TYS_mk, TYM_mk, SO_mk, NX_mk, endK_mk, endK_mk', add_0]
    refine ANDS_i ⟨_, p0.cell, ⟨_, p1.cell, ⟨_, p2.cell, ⟨_, p3.cell, rfl⟩⟩⟩⟩ (ANDS_i ⟨_, _, _, y0.cell, rfl⟩ ?_)
    obtain ⟨⟨r1, r2⟩, r3⟩ := tr_spec (p := q) (n := (c.ws.length : Int)) (e := (j : Int)) (by omega) (by omega)
    generalize hk' : tr q (c.ws.length : Int) (j : Int) = kk at *
    obtain ⟨k, rfl⟩ := Int.eq_ofNat_of_zero_le r1
    have hkl : k < c.ws.length := by omega
    refine IXS_nat hkl ?_
    have eaddr : (⟨b51, 0, none⟩ : Addr).add (k * 4) = ⟨b51, k * 4, none⟩ := by rw [add_nil, Nat.zero_add]
    rw [eaddr]
    show wrN [_, _, _, _] ⟨b51, k * 4, none⟩ 0 _ u
    have hown : ∀ i, i < c.ws.length * 4 → ∃ v, Own u ⟨b51, i, none⟩ v := fun i hi => by obtain ⟨v, hv⟩ := hbo i hi; exact ⟨v, f.own hv⟩
    refine wrN_rule [.int .i64 c.ws[j].zlo, .int .i64 c.ws[j].zhi, .int .i64 c.ws[j].rlo, .int .i64 c.ws[j].rhi] _ 0 _ u (fun i hi => ?_) ?_ ?_
    · have hi4 : i < 4 := hi
      rw [Nat.zero_add, add_nil]
      exact hown _ (by omega)
    · intro w hw
      simp at hw
      rcases hw with rfl | rfl | rfl | rfl <;> rfl
    · intro v kv zv ho hoth
      have kt' : Kp (· = b51) t0 v := kt.ext f |>.trans kv
      have hnew : ∀ e (he : e < 4), Own v ⟨b51, k * 4 + e, none⟩ ((wt4 c.ws[j])[e]'he) := fun e he => by
        have := ho e he
        rw [Nat.zero_add, add_nil] at this
        exact this
      have hold : ∀ o w, (o < k * 4 ∨ k * 4 + 4 ≤ o) → Own u ⟨b51, o, none⟩ w → Own v ⟨b51, o, none⟩ w := fun o w ho' hw => hoth ⟨b51, o, none⟩ w (by show o < k * 4 + 0 ∨ k * 4 + 0 + 4 ≤ o; omega) hw
      refine ⟨_, rfl, ⟨j + 1, wrap_succ (by omega), hjl, kt', fun i hi => ?_, fun i hi hij k2 hk2 e he => ?_⟩, ms_succ hjl (by omega)⟩
      · by_cases hin : i < k * 4 ∨ k * 4 + 4 ≤ i
        · obtain ⟨w, hw⟩ := hown i hi
          exact ⟨w, hold i w hin hw⟩
        · have := hnew (i - k * 4) (by omega)
          rw [show k * 4 + (i - k * 4) = i by omega] at this
          exact ⟨_, this⟩
      · by_cases hjj : i = j
        · subst hjj
          have : k2 = k := by omega
          subst this
          exact hnew e he
        · have hne : k2 ≠ k := fun e => by
            subst e
            have h2 := tr_spec (p := q) (n := (c.ws.length : Int)) (e := (i : Int)) (by omega) (by omega)
            rw [hk2, r3] at h2
            omega
          exact hold _ _ (by omega) (f.own (hrow i hi (by omega) k2 hk2 e he))
  · have : j = c.ws.length := by omega
    subst this
    have htn := turn_Tn (p := p) (q := q) (c := c)
    have hwl : (turnW q c).length = c.ws.length := htn.wl
    refine ⟨_, _, _, ht.o2.cell, ?_⟩
    refine turn_l1 (ws' := turnW q c) hc hv hn hp hq ht ⟨by rw [hwl]; exact kt.own hnx x0, kt.own hnx x1, kt.own hnx x2, kt.own hnx x3, ?_, fun i hi => by simp [rdV] at hi, fun i hi => by simp [lkV] at hi, fun a ha => by cases ha; exact hb, fun a ha => (by cases ha), fun a ha => (by cases ha)⟩ fun t' rx lx d2 d3 g1 g2 => hk t' _ _ _ _ _ _ g1 g2
    intro i hi
    have hlen : (wtV (turnW q c)).length = c.ws.length * 4 := by unfold wtV; rw [flat_len (M := 4) (f := wt4) _ (fun _ _ => rfl), hwl]
    have hi' : i < (wtV (turnW q c)).length := hi
    rw [hlen] at hi'
    have hk4 : i / 4 < (turnW q c).length := by rw [hwl]; omega
    have hg := flat_get (M := 4) (f := wt4) (turnW q c) (fun x _ => rfl) (i / 4) hk4 (i % 4) (Nat.mod_lt _ (by omega))
    have e4 : i / 4 * 4 + i % 4 = i := by omega
    rw [e4] at hg
    obtain ⟨⟨w1, w2⟩, w3⟩ := tb_spec (p := q) (n := (c.ws.length : Int)) (e := ((i / 4 : Nat) : Int)) (by omega) (by omega)
    obtain ⟨i0, hi0⟩ := Int.eq_ofNat_of_zero_le w1
    have hi0l : i0 < c.ws.length := by omega
    have h5 := hrow i0 hi0l hi0l (i / 4) (by rw [← hi0]; exact w3) (i % 4) (Nat.mod_lt _ (by omega))
    rw [e4] at h5
    refine ⟨_, rfl, ?_⟩
    rw [Nat.mul_one, add_nil, Nat.zero_add, h5.cell]
    have h6 := htn.w i0 (i / 4) hi0l hk4 (by rw [← hi0]; exact w3)
    have h7 : (turnW q c)[i / 4] = c.ws[i0] := h6
    rw [h7] at hg
    have h8 : (wtV (turnW q c))[i]? = some (wtV (turnW q c))[i] := List.getElem?_eq_getElem hi
    have hg' : (wtV (turnW q c))[i]? = (wt4 c.ws[i0])[i % 4]? := hg
    rw [hg', List.getElem?_eq_getElem (show i % 4 < (wt4 c.ws[i0]).length from Nat.mod_lt _ (by omega))] at h8
    exact h8
end
end Go.Proofs.Ytknpmijgdfeliaa.G

/- Clock: a clock that is numbered otherwise: copies of all lists. -/
set_option linter.unusedSimpArgs false
set_option linter.unusedVariables false
set_option maxRecDepth 20000
namespace Go.Proofs.Ytknpmijgdfeliaa.G
open Go.V
/-- 'append([]T{}, x...)', behind the empty list. -/
theorem APP_empty {P : Program} {t : TypeId} {es m : Nat} {a : Addr} {y : Option Addr} {ws zs : List Value} {s : Hp} {K : Option Addr → Nat → Nat → Hp → Prop} (hy : RowAt s y ws) (hm : ws.length = m * es) (hz : zc P t = zs) (hzl : zs.length = es) (hes : 0 < es) (hlen : m ≤ 1000000)
    (h : ∀ s' x' c', Ext s s' → RowAt s' x' ws → K x' m c' s') : APP P t es (some a) 0 0 y m K s := by
  have hyc := hy.cells
  rw [hm] at hyc
  refine ⟨⟨by omega, by omega⟩, ws, hyc, ?_⟩
  rw [Nat.zero_add]
  split
  · rename_i hle
    have hm0 : m = 0 := by omega
    subst hm0
    have hws : ws = [] := List.eq_nil_of_length_eq_zero (by rw [hm]; simp)
    subst hws
    exact h s (some a) 0 (Ext.refl _) (fun i hi => by simp at hi)
  · refine ⟨[], by rw [Nat.zero_mul]; rfl, fun c' g1 g2 => ?_⟩
    rw [hz]
    refine h _ _ c' (Ext.push (Ext.refl s)) ?_
    have hlen' : ([] ++ ws ++ repL (c' - m) zs).length = c' * es := by
      rw [List.length_append, List.length_append, repL_lenN, hzl, hm, List.length_nil, Nat.zero_add, ← Nat.add_mul]
      congr 1; omega
    exact (buf_new (by simp) (fun i hi => by rw [List.nil_append, List.getElem?_append_left hi, List.getElem?_eq_getElem hi])).row
theorem wt_row {s : Hp} {x : Option Addr} {l : List Wt} (h : WtAt s x l) : RowAt s x (wtV l) := fun i hi => by
  have hl : (wtV l).length = l.length * 4 := flat_len (M := 4) (f := wt4) l fun x _ => rfl
  have hk : i / 4 < l.length := by rw [hl] at hi; omega
  have hm : i % 4 < 4 := Nat.mod_lt _ (by omega)
  obtain ⟨a, h0, h1, h2, h3, h4⟩ := h (i / 4) hk
  have hg : (wtV l)[i / 4 * 4 + i % 4]? = (wt4 l[i / 4])[i % 4]? := flat_get (M := 4) (f := wt4) l (fun x _ => rfl) (i / 4) hk (i % 4) hm
  have e : i / 4 * 4 + i % 4 = i := by omega
  rw [e, List.getElem?_eq_getElem hi, List.getElem?_eq_getElem (show i % 4 < (wt4 l[i / 4]).length from hm)] at hg
  refine ⟨a, h0, ?_⟩
  rw [Nat.mul_one, Option.some.inj hg]
  rw [addr_add] at h1 h2 h3 h4
  have h0123 : i % 4 = 0 ∨ i % 4 = 1 ∨ i % 4 = 2 ∨ i % 4 = 3 := by omega
  rcases h0123 with e0 | e0 | e0 | e0
  · have : i / 4 * 4 + 0 = i := by omega
    rw [this] at h1
    simp only [e0]; exact h1
  · have : i / 4 * 4 + 1 = i := by omega
    rw [this] at h2
    simp only [e0]; exact h2
  · have : i / 4 * 4 + 2 = i := by omega
    rw [this] at h3
    simp only [e0]; exact h3
  · have : i / 4 * 4 + 3 = i := by omega
    rw [this] at h4
    simp only [e0]; exact h4
theorem lk_row {s : Hp} {x : Option Addr} {l : List Lk} (h : LkAt s x l) : RowAt s x (lkV l) := fun i hi => by
  have hl : (lkV l).length = l.length * 4 := flat_len (M := 4) (f := lk4) l fun x _ => rfl
  have hk : i / 4 < l.length := by rw [hl] at hi; omega
  have hm : i % 4 < 4 := Nat.mod_lt _ (by omega)
  obtain ⟨a, h0, h1, h2, h3, h4⟩ := h (i / 4) hk
  have hg : (lkV l)[i / 4 * 4 + i % 4]? = (lk4 l[i / 4])[i % 4]? := flat_get (M := 4) (f := lk4) l (fun x _ => rfl) (i / 4) hk (i % 4) hm
  have e : i / 4 * 4 + i % 4 = i := by omega
  rw [e, List.getElem?_eq_getElem hi, List.getElem?_eq_getElem (show i % 4 < (lk4 l[i / 4]).length from hm)] at hg
  refine ⟨a, h0, ?_⟩
  rw [Nat.mul_one, Option.some.inj hg]
  rw [addr_add] at h1 h2 h3 h4
  have h0123 : i % 4 = 0 ∨ i % 4 = 1 ∨ i % 4 = 2 ∨ i % 4 = 3 := by omega
  rcases h0123 with e0 | e0 | e0 | e0
  · have : i / 4 * 4 + 0 = i := by omega
    rw [this] at h1
    simp only [e0]; exact h1
  · have : i / 4 * 4 + 1 = i := by omega
    rw [this] at h2
    simp only [e0]; exact h2
  · have : i / 4 * 4 + 2 = i := by omega
    rw [this] at h3
    simp only [e0]; exact h3
  · have : i / 4 * 4 + 3 = i := by omega
    rw [this] at h4
    simp only [e0]; exact h4
section
variable {W : World} {K : VK} {E : List PanicEntry → Hp → Prop} {s : Hp} {c : Clk} {x y z : Option Addr} {c1 c2 c3 p q cb xb : Nat} {a0 b0 : Int}
/-- What is so of the results of the copies' statement. -/
def FTc (c : Clk) (x y z : Option Addr) (c1 c2 c3 cb : Nat) (k : Nat) (v : Value) (s : Hp) : Prop :=
  match k with
  | 0 | 4 | 8 => ∃ b, v = .slice (some ⟨b, 0, none⟩) 0 0
  | 1 => v = .pointer (some (Addr.add ⟨cb, 0, none⟩ 2))
  | 5 => v = .pointer (some (Addr.add ⟨cb, 0, none⟩ 3))
  | 9 => v = .pointer (some (Addr.add ⟨cb, 0, none⟩ 0))
  | 2 => v = .slice y c.rs.length c2
  | 6 => v = .slice z c.ls.length c3
  | 10 => v = .slice x c.ws.length c1
  | 3 | 12 => ∃ x' c', v = .slice x' c.rs.length c' ∧ RowAt s x' (rdV c.rs)
  | 7 | 13 => ∃ x' c', v = .slice x' c.ls.length c' ∧ RowAt s x' (lkV c.ls)
  | _ => ∃ x' c', v = .slice x' c.ws.length c' ∧ RowAt s x' (wtV c.ws)
theorem FTc.ext {k : Nat} {v : Value} {s s' : Hp} (h : FTc c x y z c1 c2 c3 cb k v s) (e : Ext s s') : FTc c x y z c1 c2 c3 cb k v s' := by
  unfold FTc at *
  repeat' split at h
  all_goals first
    | exact h
    | (obtain ⟨x', c', h1, h2⟩ := h; exact ⟨x', c', h1, h2.ext e⟩)
theorem turn_copies {s1 : Hp} (hc : ClV s c x y z) (hv : VdC c) (h : TF s c x y z c1 c2 c3 p q cb xb s1)
    (hk : ∀ t xr rc xl lc xw wc, Ext s1 t → RowAt t xr (rdV c.rs) → RowAt t xl (lkV c.ls) → RowAt t xw (wtV c.ws) → A_law07_ClockTurned_0 W (endK K E) a0 b0 ⟨cb, 0, none⟩ ⟨cb + 1, 0, none⟩ ⟨cb + 2, 0, none⟩ ⟨xb, 0, none⟩ xr c.rs.length rc xl c.ls.length lc xw c.ws.length wc t) :
    D_law07_ClockTurned_0 W (endK K E) a0 b0 ⟨cb, 0, none⟩ ⟨cb + 1, 0, none⟩ ⟨cb + 2, 0, none⟩ ⟨xb, 0, none⟩ s1 := by
  have hr8 := hv.r8
  have hl5 := hv.l5
  have hw2 := hv.w2
  have hm : ∀ k v s s', FTc c x y z c1 c2 c3 cb k v s → Ext s s' → FTc c x y z c1 c2 c3 cb k v s' := fun k v s s' h e => h.ext e
  have hX : ∀ t, Ext s1 t → TF s c x y z c1 c2 c3 p q cb xb t := fun t e => h.extk e
  have hC : ∀ t, Ext s1 t → ClV t c x y z := fun t e => hc.ext (h.ext.trans e)
  refine D_law07_ClockTurned_0_rule W _ a0 b0 _ _ _ _ (PH s1 (FTc c x y z c1 c2 c3 cb)) (fun ρ => ⟨Ext.refl _, fun k hk => by cases hk⟩) ?_ ?_ ?_ ?_ ?_ ?_ ?_ ?_ ?_ ?_ ?_ ?_ ?_ ?_ ?_ ?_ ?_ ?_ ?_
  · intro L ρ t hp h0
    exact NEW_rule fun t' e _ _ _ => hp.next hm h0 e ⟨_, rfl⟩
  · intro L ρ t hp h0
    exact hp.next0 h0 rfl
  · intro L ρ t hp h0 h1
    exact ⟨_, hp.2 1 h1, _, _, _, (hX t hp.1).o2.cell, hp.next0 h0 rfl⟩
  · intro L ρ t hp h0 h1 h2
    obtain ⟨b, e0⟩ := hp.2 0 h1
    refine ⟨_, _, _, _, _, _, e0, hp.2 2 h2, APP_empty (rd_row (hC t hp.1).rs) (rdV_len _) zc_61 rfl (by omega) (by omega) fun t' x' c' e hr => hp.next hm h0 e ⟨x', c', rfl, hr⟩⟩
  · intro L ρ t hp h0
    exact NEW_rule fun t' e _ _ _ => hp.next hm h0 e ⟨_, rfl⟩
  · intro L ρ t hp h0
    exact hp.next0 h0 rfl
  · intro L ρ t hp h0 h1
    exact ⟨_, hp.2 5 h1, _, _, _, (hX t hp.1).o3.cell, hp.next0 h0 rfl⟩
  · intro L ρ t hp h0 h3 h1 h2
    obtain ⟨b, e0⟩ := hp.2 4 h1
    refine ⟨_, _, _, _, _, _, e0, hp.2 6 h2, APP_empty (lk_row (hC t hp.1).ls) (flat_len (M := 4) (f := lk4) _ fun x _ => rfl) zc_63 rfl (by omega) (by omega) fun t' x' c' e hr => hp.next hm h0 e ⟨x', c', rfl, hr⟩⟩
  · intro L ρ t hp h0
    exact NEW_rule fun t' e _ _ _ => hp.next hm h0 e ⟨_, rfl⟩
  · intro L ρ t hp h0
    exact hp.next0 h0 rfl
  · intro L ρ t hp h0 h1
    exact ⟨_, hp.2 9 h1, _, _, _, (hX t hp.1).o0.cell, hp.next0 h0 rfl⟩
  · intro L ρ t hp h0 h3 h1 h2
    obtain ⟨b, e0⟩ := hp.2 8 h1
    refine ⟨_, _, _, _, _, _, e0, hp.2 10 h2, APP_empty (wt_row (hC t hp.1).ws) (flat_len (M := 4) (f := wt4) _ fun x _ => rfl) zc_66 rfl (by omega) (by omega) fun t' x' c' e hr => hp.next hm h0 e ⟨x', c', rfl, hr⟩⟩
  · intro L ρ t hp h0 _ _ _ h3 _
    obtain ⟨x', c', e0, hr⟩ := hp.2 3 h3
    exact ⟨_, _, _, e0, hp.next0 h0 ⟨x', c', rfl, hr⟩⟩
  · intro L ρ t hp h0 _ _ _ _ _ _ _ h7 _
    obtain ⟨x', c', e0, hr⟩ := hp.2 7 h7
    exact ⟨_, _, _, e0, hp.next0 h0 ⟨x', c', rfl, hr⟩⟩
  · intro L ρ t hp h0 _ _ _ _ _ _ _ _ _ _ _ h11 _ _
    obtain ⟨x', c', e0, hr⟩ := hp.2 11 h11
    exact ⟨_, _, _, e0, hp.next0 h0 ⟨x', c', rfl, hr⟩⟩
  · intro L ρ t hp h2 h1 _ _ _ _ _ _
    have e2 : ρ 2 = .slice y c.rs.length c2 := hp.2 2 h2
    exact ⟨_, hp.2 1 h1, _, _, _, (hX t hp.1).o2.cell, e2.symm⟩
  · intro L ρ t hp h2 h1 _ _ _ _ _
    have e2 : ρ 6 = .slice z c.ls.length c3 := hp.2 6 h2
    exact ⟨_, hp.2 5 h1, _, _, _, (hX t hp.1).o3.cell, e2.symm⟩
  · intro L ρ t hp h2 h1 _ _ _ _
    have e2 : ρ 10 = .slice x c.ws.length c1 := hp.2 10 h2
    exact ⟨_, hp.2 9 h1, _, _, _, (hX t hp.1).o0.cell, e2.symm⟩
  · intro L ρ t hp hall
    obtain ⟨x1, d1, e1, r1⟩ := hp.2 12 (hall 12 (by omega))
    obtain ⟨x2, d2, e2, r2⟩ := hp.2 13 (hall 13 (by omega))
    obtain ⟨x3, d3, e3, r3⟩ := hp.2 14 (hall 14 (by omega))
    exact ⟨_, _, _, _, _, _, _, _, _, e1, e2, e3, hk t _ _ _ _ _ _ hp.1 r1 r2 r3⟩
end
end Go.Proofs.Ytknpmijgdfeliaa.G

/- Clock: ClockTurned: no argument is changed; each watch. -/
set_option linter.unusedSimpArgs false
set_option linter.unusedVariables false
set_option maxRecDepth 20000
namespace Go.Proofs.Ytknpmijgdfeliaa.G
open Go.V
section
variable {W : World} {K : VK} {E : List PanicEntry → Hp → Prop} {s : Hp} {c : Clk} {x y z : Option Addr} {c1 c2 c3 p q cb xb : Nat} {a0 b0 : Int}
theorem turn_l5 {t0 : Hp} {xl : Option Addr} {lc : Nat} {bb : Bool} (hc : ClV s c x y z) (hv : VdC c) (h : TF s c x y z c1 c2 c3 p q cb xb t0) (hl : RowAt t0 xl (lkV c.ls)) (hk : ∀ t, Ext s t → K (.bool true) t) :
    L_law07_ClockTurned_5 W (endK K E) ⟨cb, 0, none⟩ xl c.ls.length lc (c.ls.length : Int) bb 0 t0 := by
  have hl5 := hv.l5
  refine L_law07_ClockTurned_5_rule W _ _ _ _ _ _ (fun _ n u => Ext t0 u ∧ ∃ j : Nat, n = j ∧ j ≤ c.ls.length) (fun _ n _ => ((c.ls.length : Int) - n).toNat) bb 0 t0 ⟨Ext.refl _, 0, rfl, Nat.zero_le _⟩ ?_
  rintro bb n u ⟨eu, j, rfl, hj⟩
  have hu := h.extk eu
  unfold B_law07_ClockTurned_5
  refine BR_dec (fun hlt => ?_) (fun hge => ?_)
  · have hjl : j < c.ls.length := by omega
    obtain ⟨a, hx0, g1, g2, g3, g4⟩ := row_lk (hl.ext eu) j hjl
    obtain ⟨a', hx0', k1, k2, k3, k4⟩ := (hc.ext hu.ext).ls j hjl
    rw [hx0]
    refine IXS_nat hjl ⟨_, g1, ⟨_, g2, ⟨_, g3, ⟨_, g4, ⟨_, _, _, hu.o3.cell, ?_⟩⟩⟩⟩⟩
    rw [hx0']
    refine IXS_nat hjl ⟨_, k1, ⟨_, k2, ⟨_, k3, ⟨_, k4, ?_⟩⟩⟩⟩
    refine BR_ff (by simp) ?_
    try simp only [TUP_mk, AGG_mk, HD_mk, NL_mk, TYI_mk, TYB_mk, TYP_mk, TYL_mk, TYS_mk, TYM_mk, SO_mk, NX_mk, endK_mk, endK_mk', add_0]
    exact ⟨_, _, rfl, ⟨eu, j + 1, wrap_succ (by omega), hjl⟩, ms_succ hjl (by omega)⟩
  · exact c_alive fun t e => hk t (hu.ext.trans e)
theorem turn_l4 {t0 : Hp} {xl xr : Option Addr} {lc rc : Nat} {bb : Bool} (hc : ClV s c x y z) (hv : VdC c) (h : TF s c x y z c1 c2 c3 p q cb xb t0) (hr : RowAt t0 xr (rdV c.rs)) (hl : RowAt t0 xl (lkV c.ls)) (hk : ∀ t, Ext s t → K (.bool true) t) :
    L_law07_ClockTurned_4 W (endK K E) ⟨cb, 0, none⟩ xr c.rs.length rc xl c.ls.length lc (c.rs.length : Int) bb 0 t0 := by
  have hr8 := hv.r8
  refine L_law07_ClockTurned_4_rule W _ _ _ _ _ _ _ _ _ (fun _ n u => Ext t0 u ∧ ∃ j : Nat, n = j ∧ j ≤ c.rs.length) (fun _ n _ => ((c.rs.length : Int) - n).toNat) bb 0 t0 ⟨Ext.refl _, 0, rfl, Nat.zero_le _⟩ ?_
  rintro bb n u ⟨eu, j, rfl, hj⟩
  have hu := h.extk eu
  unfold B_law07_ClockTurned_4
  refine BR_dec (fun hlt => ?_) (fun hge => turn_l5 hc hv hu (hl.ext eu) hk)
  have hjl : j < c.rs.length := by omega
  obtain ⟨a, hx0, g1, g2, g3⟩ := row_rd (hr.ext eu) j hjl
  obtain ⟨a', hx0', k1, k2, k3⟩ := (hc.ext hu.ext).rs j hjl
  rw [hx0]
  refine IXS_nat hjl ⟨_, g1, ⟨_, g2, ⟨_, g3, ⟨_, _, _, hu.o2.cell, ?_⟩⟩⟩⟩
  rw [hx0']
  refine IXS_nat hjl ⟨_, k1, ⟨_, k2, ⟨_, k3, ?_⟩⟩⟩
  refine BR_ff (by simp) ?_
  try simp only [TUP_mk, AGG_mk, HD_mk, NL_mk, TYI_mk, TYB_mk, TYP_mk, TYL_mk, TYS_mk, TYM_mk, SO_mk, NX_mk, endK_mk, endK_mk', add_0]
  exact ⟨_, _, rfl, ⟨eu, j + 1, wrap_succ (by omega), hjl⟩, ms_succ hjl (by omega)⟩
/-! ### How a watch goes in the turned clock: a statement with two variables that are made in any order -/
def QZ (c' : Clk) (w lo hi er : Int) : Prop := QR c' (decide (0 ≤ w ∧ w < c'.ws.length)) (zeroV w) lo hi er
def QT (c' : Clk) (w lo hi er : Int) : Prop := QR c' (decide (0 ≤ w ∧ w < c'.ws.length)) (rateV w) lo hi er
def FU (c' : Clk) (xv : Value) (cb i : Nat) (w : Int) (k : Nat) (v : Value) : Prop :=
  match k with
  | 0 => v = xv
  | 1 => v = .func (.func 33) #[] #[.pointer (some ⟨cb + 2, 0, none⟩), .pointer (some ⟨cb, 0, none⟩)]
  | 2 => v = .int .i64 (i : Int)
  | 3 => v = .int .i64 w
  | 4 | 5 => ∃ zl zh rl rh er, v = .tuple #[.agg #[.int .i64 zl, .int .i64 zh], .agg #[.int .i64 rl, .int .i64 rh], .int .i64 er] ∧ QZ c' w zl zh er ∧ QT c' w rl rh er
  | 6 => ∃ zl zh er, v = .agg #[.int .i64 zl, .int .i64 zh] ∧ QZ c' w zl zh er
  | 7 => ∃ rl rh er, v = .agg #[.int .i64 rl, .int .i64 rh] ∧ QT c' w rl rh er
  | 8 | 13 => ∃ zl zh er, v = .int .i64 er ∧ QZ c' w zl zh er
  | _ => True
structure PG (s1 : Hp) (c' : Clk) (xv : Value) (cb i : Nat) (w : Int) (L : List Nat) (ρ : Nat → Value) (s : Hp) : Prop where
  ext : Ext s1 s
  pu : ∀ k ∈ L, FU c' xv cb i w k (ρ k)
  f9 : 9 ∈ L → ∃ b, ρ 9 = .pointer (some ⟨b, 0, none⟩) ∧ s1.size ≤ b ∧ b < s.size ∧ ∃ u v, Own s ⟨b, 0, none⟩ u ∧ Own s ⟨b, 1, none⟩ v
  f10 : 10 ∈ L → ∃ b, ρ 10 = .pointer (some ⟨b, 0, none⟩) ∧ s1.size ≤ b ∧ b < s.size ∧ ∃ u v, Own s ⟨b, 0, none⟩ u ∧ Own s ⟨b, 1, none⟩ v
  f11 : 11 ∈ L → 9 ∈ L ∧ ∃ b zl zh er, ρ 9 = .pointer (some ⟨b, 0, none⟩) ∧ Own s ⟨b, 0, none⟩ (.int .i64 zl) ∧ Own s ⟨b, 1, none⟩ (.int .i64 zh) ∧ QZ c' w zl zh er
  f12 : 12 ∈ L → 10 ∈ L ∧ ∃ b zl zh er, ρ 10 = .pointer (some ⟨b, 0, none⟩) ∧ Own s ⟨b, 0, none⟩ (.int .i64 zl) ∧ Own s ⟨b, 1, none⟩ (.int .i64 zh) ∧ QT c' w zl zh er
  dj : 9 ∈ L → 10 ∈ L → ∀ b b', ρ 9 = .pointer (some ⟨b, 0, none⟩) → ρ 10 = .pointer (some ⟨b', 0, none⟩) → b ≠ b'
theorem mem_of {k j : Nat} {L : List Nat} (h : j ∈ k :: L) (hne : j ≠ k) : j ∈ L := (List.mem_cons.1 h).resolve_left hne
theorem PG.next {s1 t t' : Hp} {c' : Clk} {xv : Value} {i : Nat} {w : Int} {L : List Nat} {ρ : Nat → Value} {k : Nat} {v : Value} (h : PG s1 c' xv cb i w L ρ t) (hk : k ∉ L) (h9 : k ≠ 9) (h10 : k ≠ 10) (h11 : k ≠ 11) (h12 : k ≠ 12) (e : Ext t t') (hf : FU c' xv cb i w k v) : PG s1 c' xv cb i w (k :: L) (ru ρ k v) t' := by
  have hs := e.1
  refine ⟨h.ext.trans e, fun j hj => ?_, fun hm => ?_, fun hm => ?_, fun hm => ?_, fun hm => ?_, fun hm hm' => ?_⟩
  · rcases List.mem_cons.1 hj with rfl | hj
    · rw [ru_eq]; exact hf
    · rw [ru_ne (fun e => hk (by rw [← e]; exact hj))]; exact h.pu j hj
  · obtain ⟨b, g1, g2, g3, u, v, g4, g5⟩ := h.f9 (mem_of hm (Ne.symm h9))
    exact ⟨b, by rw [ru_ne (Ne.symm h9)]; exact g1, g2, by omega, u, v, e.own g4, e.own g5⟩
  · obtain ⟨b, g1, g2, g3, u, v, g4, g5⟩ := h.f10 (mem_of hm (Ne.symm h10))
    exact ⟨b, by rw [ru_ne (Ne.symm h10)]; exact g1, g2, by omega, u, v, e.own g4, e.own g5⟩
  · obtain ⟨g0, b, zl, zh, er, g1, g2, g3, g4⟩ := h.f11 (mem_of hm (Ne.symm h11))
    exact ⟨List.mem_cons_of_mem _ g0, b, zl, zh, er, by rw [ru_ne (Ne.symm h9)]; exact g1, e.own g2, e.own g3, g4⟩
  · obtain ⟨g0, b, zl, zh, er, g1, g2, g3, g4⟩ := h.f12 (mem_of hm (Ne.symm h12))
    exact ⟨List.mem_cons_of_mem _ g0, b, zl, zh, er, by rw [ru_ne (Ne.symm h10)]; exact g1, e.own g2, e.own g3, g4⟩
  · rw [ru_ne (Ne.symm h9), ru_ne (Ne.symm h10)]
    exact h.dj (mem_of hm (Ne.symm h9)) (mem_of hm' (Ne.symm h10))
theorem turn_goes {s1 : Hp} {nx : List Value → Hp → Prop} {bb : Bool} {xr xl xw x' y' z' : Option Addr} {rc lc wc d1 d2 d3 b18 b19 : Nat} {n15 n16 n20 n21 : Int} {i : Nat} {c' : Clk} (hc' : TX s xb s1 c' x' y' z' d1 d2 d3) (h : TF s c x y z c1 c2 c3 p q cb xb s1) (hq : q < 256) (hv : VdC c) (hv' : VdC c') (hi : i < c.ws.length)
    (hk : ∀ t b9 b10 zl zh rl rh e1 e2 e3 zl' zh', Ext s1 t → Own t ⟨b9, 0, none⟩ (.int .i64 zl) → Own t ⟨b9, 1, none⟩ (.int .i64 zh) → QZ c' (tr q (c.ws.length : Int) (i : Int)) zl zh e1 → Own t ⟨b10, 0, none⟩ (.int .i64 rl) → Own t ⟨b10, 1, none⟩ (.int .i64 rh) → QT c' (tr q (c.ws.length : Int) (i : Int)) rl rh e2 → QZ c' (tr q (c.ws.length : Int) (i : Int)) zl' zh' e3 →
      A_law07_ClockTurned_1 W (endK K E) nx a0 ⟨cb, 0, none⟩ bb ⟨cb + 1, 0, none⟩ ⟨cb + 2, 0, none⟩ ⟨xb, 0, none⟩ xr c.rs.length rc xl c.ls.length lc xw c.ws.length wc n15 n16 (i : Int) ⟨b18, 0, none⟩ ⟨b19, 0, none⟩ n20 n21 ⟨b9, 0, none⟩ ⟨b10, 0, none⟩ e3 t) :
    D_law07_ClockTurned_1 W (endK K E) nx a0 ⟨cb, 0, none⟩ bb ⟨cb + 1, 0, none⟩ ⟨cb + 2, 0, none⟩ ⟨xb, 0, none⟩ xr c.rs.length rc xl c.ls.length lc xw c.ws.length wc n15 n16 (i : Int) ⟨b18, 0, none⟩ ⟨b19, 0, none⟩ n20 n21 s1 := by
  have hw2 := hv.w2
  have hw2' := hv'.w2
  have hX : ∀ t, Ext s1 t → TF s c x y z c1 c2 c3 p q cb xb t := fun t e => h.extk e
  have hX' : ∀ t, Ext s1 t → TX s xb t c' x' y' z' d1 d2 d3 := fun t e => hc'.ext e
  refine D_law07_ClockTurned_1_rule W _ nx a0 _ bb _ _ _ _ _ _ _ _ _ _ _ _ _ _ _ _ _ _ _ (PG s1 c' (clkV c' x' y' z' d1 d2 d3) cb i (tr q (c.ws.length : Int) (i : Int))) (fun ρ => ⟨Ext.refl _, (fun k hk => by cases hk), (fun h => by cases h), (fun h => by cases h), (fun h => by cases h), (fun h => by cases h), (fun h => by cases h)⟩) ?_ ?_ ?_ ?_ ?_ ?_ ?_ ?_ ?_ ?_ ?_ ?_ ?_ ?_ ?_ ?_
  · intro L ρ t hp h0
    have hx := hX' t hp.ext
    exact ⟨_, _, _, hx.o0.cell, ⟨_, hx.o1.cell, ⟨_, _, _, hx.o2.cell, ⟨_, _, _, hx.o3.cell, hp.next h0 (by omega) (by omega) (by omega) (by omega) (Ext.refl _) rfl⟩⟩⟩⟩
  · intro L ρ t hp h0
    exact hp.next h0 (by omega) (by omega) (by omega) (by omega) (Ext.refl _) rfl
  · intro L ρ t hp h0
    exact hp.next h0 (by omega) (by omega) (by omega) (by omega) (Ext.refl _) rfl
  · intro L ρ t hp h0 h1 h2
    have ht := hX t hp.ext
    refine ⟨_, _, _, hp.pu 1 h1, hp.pu 2 h2, c_watch hq ht.oq.cell ht.o0.cell (by omega) (by omega) ?_⟩
    try simp only [TUP_mk, AGG_mk, HD_mk, NL_mk, TYI_mk, TYB_mk, TYP_mk, TYL_mk, TYS_mk, TYM_mk, SO_mk, NX_mk, endK_mk, endK_mk', add_0]
    exact hp.next h0 (by omega) (by omega) (by omega) (by omega) (Ext.refl _) rfl
  · intro L ρ t hp h0 h1 h2
    refine ⟨_, _, _, _, _, _, _, _, _, _, _, hp.pu 0 h1, hp.pu 3 h2, c_Goes (hX' t hp.ext).cl (by omega) fun t' zl zh rl rh er e hz hr => ?_⟩
    try simp only [TUP_mk, AGG_mk, HD_mk, NL_mk, TYI_mk, TYB_mk, TYP_mk, TYL_mk, TYS_mk, TYM_mk, SO_mk, NX_mk, endK_mk, endK_mk', add_0]
    exact hp.next h0 (by omega) (by omega) (by omega) (by omega) e ⟨zl, zh, rl, rh, er, rfl, hz, hr⟩
  · intro L ρ t hp h0 h1
    obtain ⟨zl, zh, rl, rh, er, e4, hz, hr⟩ := hp.pu 4 h1
    exact ⟨_, _, _, _, _, e4, hp.next h0 (by omega) (by omega) (by omega) (by omega) (Ext.refl _) ⟨zl, zh, rl, rh, er, rfl, hz, hr⟩⟩
  · intro L ρ t hp h0 h1
    obtain ⟨zl, zh, rl, rh, er, e4, hz, hr⟩ := hp.pu 5 h1
    exact ⟨_, _, _, _, _, e4, hp.next h0 (by omega) (by omega) (by omega) (by omega) (Ext.refl _) ⟨zl, zh, er, rfl, hz⟩⟩
  · intro L ρ t hp h0 h1
    obtain ⟨zl, zh, rl, rh, er, e4, hz, hr⟩ := hp.pu 5 h1
    exact ⟨_, _, _, _, _, e4, hp.next h0 (by omega) (by omega) (by omega) (by omega) (Ext.refl _) ⟨rl, rh, er, rfl, hr⟩⟩
  · intro L ρ t hp h0 h1
    obtain ⟨zl, zh, rl, rh, er, e4, hz, hr⟩ := hp.pu 5 h1
    exact ⟨_, _, _, _, _, e4, hp.next h0 (by omega) (by omega) (by omega) (by omega) (Ext.refl _) ⟨zl, zh, er, rfl, hz⟩⟩
  · intro L ρ t hp h0
    refine nz2 zc_34 fun t' e sz o1 o2 => ?_
    have hs := hp.ext.1
    refine ⟨hp.ext.trans e, fun j hj => ?_, fun _ => ⟨t.size, ru_eq, by omega, by omega, _, _, o1, o2⟩, fun hm => ?_, fun hm => ?_, fun hm => ?_, fun _ hm' b b' g1 g2 => ?_⟩
    · rcases List.mem_cons.1 hj with rfl | hj
      · trivial
      · rw [ru_ne (fun e => h0 (by rw [← e]; exact hj))]; exact hp.pu j hj
    · obtain ⟨b, g1, g2, g3, u, v, g4, g5⟩ := hp.f10 (mem_of hm (by omega))
      exact ⟨b, by rw [ru_ne (by omega)]; exact g1, g2, by omega, u, v, e.own g4, e.own g5⟩
    · exact absurd (hp.f11 (mem_of hm (by omega))).1 h0
    · obtain ⟨g0, b, zl, zh, er, g1, g2, g3, g4⟩ := hp.f12 (mem_of hm (by omega))
      exact ⟨List.mem_cons_of_mem _ g0, b, zl, zh, er, by rw [ru_ne (by omega)]; exact g1, e.own g2, e.own g3, g4⟩
    · rw [ru_eq] at g1
      rw [ru_ne (by omega)] at g2
      obtain ⟨b2, g3, _, g4, _⟩ := hp.f10 (mem_of hm' (by omega))
      rw [g2] at g3
      cases g1; cases g3
      omega
  · intro L ρ t hp h0
    refine nz2 zc_34 fun t' e sz o1 o2 => ?_
    have hs := hp.ext.1
    refine ⟨hp.ext.trans e, fun j hj => ?_, fun hm => ?_, fun _ => ⟨t.size, ru_eq, by omega, by omega, _, _, o1, o2⟩, fun hm => ?_, fun hm => ?_, fun hm _ b b' g1 g2 => ?_⟩
    · rcases List.mem_cons.1 hj with rfl | hj
      · trivial
      · rw [ru_ne (fun e => h0 (by rw [← e]; exact hj))]; exact hp.pu j hj
    · obtain ⟨b, g1, g2, g3, u, v, g4, g5⟩ := hp.f9 (mem_of hm (by omega))
      exact ⟨b, by rw [ru_ne (by omega)]; exact g1, g2, by omega, u, v, e.own g4, e.own g5⟩
    · obtain ⟨g0, b, zl, zh, er, g1, g2, g3, g4⟩ := hp.f11 (mem_of hm (by omega))
      exact ⟨List.mem_cons_of_mem _ g0, b, zl, zh, er, by rw [ru_ne (by omega)]; exact g1, e.own g2, e.own g3, g4⟩
    · exact absurd (hp.f12 (mem_of hm (by omega))).1 h0
    · rw [ru_eq] at g2
      rw [ru_ne (by omega)] at g1
      obtain ⟨b2, g3, _, g4, _⟩ := hp.f9 (mem_of hm (by omega))
      rw [g1] at g3
      cases g2; cases g3
      omega
  · intro L ρ t hp h0 _ _ _ _ _ _ h6 h9 h10
    obtain ⟨zl, zh, er, e6, hz⟩ := hp.pu 6 h6
    obtain ⟨b, g1, g2, g3, u, v, g4, g5⟩ := hp.f9 h9
    refine ⟨_, _, _, g1, e6, ?_⟩
    refine wrB g4 g5 rfl rfl fun t' k sz o1 o2 => ?_
    have hne : ∀ b', ρ 10 = .pointer (some ⟨b', 0, none⟩) → ¬ b' = b := fun b' hb' e => hp.dj h9 h10 b b' g1 hb' e.symm
    refine ⟨kp_nil hp.ext (fun d hd => by have : d = b := hd; omega) k, fun j hj => ?_, fun _ => ⟨b, by rw [ru_ne (by omega)]; exact g1, g2, by omega, _, _, o1, o2⟩, fun hm => ?_, fun _ => ⟨List.mem_cons_of_mem _ h9, b, zl, zh, er, by rw [ru_ne (by omega)]; exact g1, o1, o2, hz⟩, fun hm => ?_, fun _ _ b1 b2 q1 q2 => ?_⟩
    · rcases List.mem_cons.1 hj with rfl | hj
      · trivial
      · rw [ru_ne (fun e => h0 (by rw [← e]; exact hj))]; exact hp.pu j hj
    · obtain ⟨b', q1, q2, q3, u, v, q4, q5⟩ := hp.f10 h10
      exact ⟨b', by rw [ru_ne (by omega)]; exact q1, q2, by omega, u, v, k.own (hne b' q1) q4, k.own (hne b' q1) q5⟩
    · obtain ⟨_, b', zl, zh, er, q1, q2, q3, q4⟩ := hp.f12 (mem_of hm (by omega))
      exact ⟨List.mem_cons_of_mem _ h10, b', zl, zh, er, by rw [ru_ne (by omega)]; exact q1, k.own (hne b' q1) q2, k.own (hne b' q1) q3, q4⟩
    · rw [ru_ne (by omega)] at q1 q2
      exact hp.dj h9 h10 b1 b2 q1 q2
  · intro L ρ t hp h0 _ _ _ _ _ _ _ h7 h9 h10 h11
    obtain ⟨zl, zh, er, e6, hz⟩ := hp.pu 7 h7
    obtain ⟨b, g1, g2, g3, u, v, g4, g5⟩ := hp.f10 h10
    refine ⟨_, _, _, g1, e6, ?_⟩
    refine wrB g4 g5 rfl rfl fun t' k sz o1 o2 => ?_
    have hne : ∀ b', ρ 9 = .pointer (some ⟨b', 0, none⟩) → ¬ b' = b := fun b' hb' e => hp.dj h9 h10 b' b hb' g1 e
    refine ⟨kp_nil hp.ext (fun d hd => by have : d = b := hd; omega) k, fun j hj => ?_, fun hm => ?_, fun _ => ⟨b, by rw [ru_ne (by omega)]; exact g1, g2, by omega, _, _, o1, o2⟩, fun hm => ?_, fun _ => ⟨List.mem_cons_of_mem _ h10, b, zl, zh, er, by rw [ru_ne (by omega)]; exact g1, o1, o2, hz⟩, fun _ _ b1 b2 q1 q2 => ?_⟩
    · rcases List.mem_cons.1 hj with rfl | hj
      · trivial
      · rw [ru_ne (fun e => h0 (by rw [← e]; exact hj))]; exact hp.pu j hj
    · obtain ⟨b', q1, q2, q3, u, v, q4, q5⟩ := hp.f9 h9
      exact ⟨b', by rw [ru_ne (by omega)]; exact q1, q2, by omega, u, v, k.own (hne b' q1) q4, k.own (hne b' q1) q5⟩
    · obtain ⟨_, b', zl, zh, er, q1, q2, q3, q4⟩ := hp.f11 h11
      exact ⟨List.mem_cons_of_mem _ h9, b', zl, zh, er, by rw [ru_ne (by omega)]; exact q1, k.own (hne b' q1) q2, k.own (hne b' q1) q3, q4⟩
    · rw [ru_ne (by omega)] at q1 q2
      exact hp.dj h9 h10 b1 b2 q1 q2
  · intro L ρ t hp h0 _ _ _ _ _ _ _ _ h8 _ _ _ _
    obtain ⟨zl, zh, er, e8, hz⟩ := hp.pu 8 (by assumption)
    exact ⟨_, e8, hp.next h0 (by omega) (by omega) (by omega) (by omega) (Ext.refl _) ⟨zl, zh, er, rfl, hz⟩⟩
  · intro L ρ t hp h0
    intros
    have e0 : ρ 0 = clkV c' x' y' z' d1 d2 d3 := hp.pu 0 h0
    have hx := hX' t hp.ext
    rw [e0]
    exact ⟨_, _, _, hx.o0.cell, ⟨_, hx.o1.cell, ⟨_, _, _, hx.o2.cell, ⟨_, _, _, hx.o3.cell, rfl⟩⟩⟩⟩
  · intro L ρ t hp hall
    obtain ⟨_, b9, zl, zh, e1, q1, q2, q3, q4⟩ := hp.f11 (hall 11 (by omega))
    obtain ⟨_, b10, rl, rh, e2, r1, r2, r3, r4⟩ := hp.f12 (hall 12 (by omega))
    obtain ⟨zl', zh', e3, h13, hz3⟩ := hp.pu 13 (hall 13 (by omega))
    exact ⟨_, _, _, q1, r1, h13, hk t b9 b10 zl zh rl rh e1 e2 e3 zl' zh' hp.ext q2 q3 q4 r2 r3 r4 hz3⟩
end
end Go.Proofs.Ytknpmijgdfeliaa.G

/- Clock: ClockTurned: each watch. -/
set_option linter.unusedSimpArgs false
set_option linter.unusedVariables false
set_option maxRecDepth 20000
namespace Go.Proofs.Ytknpmijgdfeliaa.G
open Go.V
theorem bit_val : ∀ n : Nat, n < 4 → ∀ i : Nat, i < 2 → andv .i64 (shrv .i64 (n : Int) (i : Int)) 1 = if n.testBit i then 1 else 0 := by
  have h : ((List.range 4).all fun (n : Nat) => (List.range 2).all fun (i : Nat) => decide (andv .i64 (shrv .i64 (n : Int) (i : Int)) 1 = if n.testBit i then 1 else 0)) = true := by decide +kernel
  intro n hn i hi
  have h1 := List.all_eq_true.1 h n (by simpa using hn)
  exact of_decide_eq_true (List.all_eq_true.1 h1 i (by simpa using hi))
section
variable {W : World} {K : VK} {E : List PanicEntry → Hp → Prop} {s : Hp} {c : Clk} {x y z : Option Addr} {c1 c2 c3 p q cb xb : Nat} {a0 b0 : Int}
theorem turn_l3 {t0 : Hp} {xr xl xw x' y' z' : Option Addr} {rc lc wc d1 d2 d3 : Nat} {m m' : Nat} {bb : Bool} (hc : ClV s c x y z) (hv : VdC c) (hp : p < 256) (hq : q < 256) (ha : 0 ≤ a0 ∧ a0 < c.n) (hT : TF s c x y z c1 c2 c3 p q cb xb t0) (hX : TX s xb t0 (turnC p q c) x' y' z' d1 d2 d3) (hr : RowAt t0 xr (rdV c.rs)) (hl : RowAt t0 xl (lkV c.ls)) (hw : RowAt t0 xw (wtV c.ws))
    (hm : m < 4) (hm' : m' < 4) (hbits : ∀ k j : Nat, k < c.ws.length → tr q (c.ws.length : Int) (k : Int) = (j : Int) → m'.testBit j = m.testBit k) (hk : ∀ t, Ext s t → K (.bool true) t) :
    L_law07_ClockTurned_3 W (endK K E) a0 ⟨cb, 0, none⟩ ⟨cb + 1, 0, none⟩ ⟨cb + 2, 0, none⟩ ⟨xb, 0, none⟩ xr c.rs.length rc xl c.ls.length lc xw c.ws.length wc (m : Int) (m' : Int) (c.ws.length : Int) bb 0 t0 := by
  have htn := turn_Tn (p := p) (q := q) (c := c)
  have hv' := htn.ok hv
  have hw2 := hv.w2
  have hn5 := hv.n5
  have hw2' := hv'.w2
  have hwl : (turnC p q c).ws.length = c.ws.length := htn.wl
  refine L_law07_ClockTurned_3_rule W _ _ _ _ _ _ _ _ _ _ _ _ _ _ _ _ _ _ (fun _ n u => Ext t0 u ∧ ∃ j : Nat, n = j ∧ j ≤ c.ws.length) (fun _ n _ => ((c.ws.length : Int) - n).toNat) bb 0 t0 ⟨Ext.refl _, 0, rfl, Nat.zero_le _⟩ ?_
  rintro bb n u ⟨eu, i, rfl, hi⟩
  generalize hnx : (fun vs => N_law07_ClockTurned_3 _ _ bb (i : Int) u vs) = nx
  have hu := hT.extk eu
  unfold B_law07_ClockTurned_3
  refine BR_dec (fun hlt => ?_) (fun hge => turn_l4 hc hv hu (hr.ext eu) (hl.ext eu) hk)
  have hil : i < c.ws.length := by omega
  have hfin : ∀ t, Ext t0 t → J_law07_ClockTurned_18 W (endK K E) false a0 ⟨cb, 0, none⟩ ⟨cb + 1, 0, none⟩ ⟨cb + 2, 0, none⟩ ⟨xb, 0, none⟩ xr c.rs.length rc xl c.ls.length lc xw c.ws.length wc (m : Int) (m' : Int) (c.ws.length : Int) nx bb (i : Int) t := fun t et => by
    unfold J_law07_ClockTurned_18
    refine BR_ff rfl ?_
    try simp only [TUP_mk, AGG_mk, HD_mk, NL_mk, TYI_mk, TYB_mk, TYP_mk, TYL_mk, TYS_mk, TYM_mk, SO_mk, NX_mk, endK_mk, endK_mk', add_0]
    rw [← hnx]
    exact ⟨_, _, rfl, ⟨et, i + 1, wrap_succ (by omega), hil⟩, ms_succ hil (by omega)⟩
  clear hnx
  obtain ⟨⟨f1, f2⟩, _⟩ := htn.fw0 (i : Int) (by omega) (by omega)
  have hisw : decide ((0 : Int) ≤ (i : Int) ∧ (i : Int) < c.ws.length) = true := decide_eq_true ⟨by omega, by omega⟩
  have hisw' : decide ((0 : Int) ≤ tr q (c.ws.length : Int) (i : Int) ∧ tr q (c.ws.length : Int) (i : Int) < (turnC p q c).ws.length) = true := decide_eq_true ⟨f1, by rw [hwl]; exact f2⟩
  obtain ⟨⟨g1, g2⟩, _⟩ := htn.fe0 a0 ha.1 ha.2
  have hise : (decide ((0 : Int) ≤ (i : Int) ∧ (i : Int) < c.ws.length) && decide (0 ≤ a0 ∧ a0 < c.n)) = true := by rw [hisw, decide_eq_true ha]; rfl
  have hise' : (decide ((0 : Int) ≤ tr q (c.ws.length : Int) (i : Int) ∧ tr q (c.ws.length : Int) (i : Int) < (turnC p q c).ws.length) && decide (0 ≤ tr p c.n a0 ∧ tr p c.n a0 < (turnC p q c).n)) = true := by rw [hisw', decide_eq_true (show 0 ≤ tr p c.n a0 ∧ tr p c.n a0 < (turnC p q c).n from ⟨g1, g2⟩)]; rfl
  refine ⟨_, _, _, hu.o0.cell, ⟨_, hu.o1.cell, ⟨_, _, _, hu.o2.cell, ⟨_, _, _, hu.o3.cell, ?_⟩⟩⟩⟩
  refine c_Goes (hc.ext hu.ext) (by omega) fun u1 zl zh rl rh er e1 hz hrt => ?_
  try simp only [TUP_mk, AGG_mk, HD_mk, NL_mk, TYI_mk, TYB_mk, TYP_mk, TYL_mk, TYS_mk, TYM_mk, SO_mk, NX_mk, endK_mk, endK_mk', add_0]
  refine nz2 zc_34 fun u2 e2 s2 q0 q1 => ?_
  refine nz2 zc_34 fun u3 e3 s3 r0 r1 => ?_
  refine wrB (e3.own q0) (e3.own q1) rfl rfl fun u4 k4 s4 q0' q1' => ?_
  have n1 : ¬ u2.size = u1.size := by omega
  have n2 : ¬ u1.size = u2.size := by omega
  refine wrB (k4.own n1 r0) (k4.own n1 r1) rfl rfl fun u5 k5 s5 r0' r1' => ?_
  have q0'' := k5.own n2 q0'
  have q1'' := k5.own n2 q1'
  have e15 : Ext u u5 := kp_nil (kp_nil ((e1.trans e2).trans e3) (fun d hd => by have : d = u1.size := hd; have := e1.1; omega) k4) (fun d hd => by have : d = u2.size := hd; have := (e1.trans e2).1; omega) k5
  have et5 := eu.trans e15
  refine turn_goes (hX.ext et5) (hT.extk et5) hq hv hv' hil fun v b9 b10 zl2 zh2 rl2 rh2 x1 x2 x3 zl3 zh3 ev p9 p9' hz9 p10 p10' hr10 hz3 => ?_
  obtain ⟨w1, rfl, rfl⟩ := htn.qr hv hz hz9 hisw hisw' (htn.zero hv ⟨by omega, by omega⟩)
  obtain ⟨w2, rfl, rfl⟩ := htn.qr hv hrt hr10 hisw hisw' (htn.rate hv ⟨by omega, by omega⟩)
  obtain ⟨w3, _, _⟩ := htn.qr hv hz hz3 hisw hisw' (htn.zero hv ⟨by omega, by omega⟩)
  subst w3
  have etv := et5.trans ev
  have hTv := hT.extk etv
  unfold A_law07_ClockTurned_1
  refine ⟨_, _, _, hTv.o0.cell, ⟨_, hTv.o1.cell, ⟨_, _, _, hTv.o2.cell, ⟨_, _, _, hTv.o3.cell, ?_⟩⟩⟩⟩
  refine c_Shows (hc.ext hTv.ext) (by omega) fun v1 lo hi' es f1' hsh => ?_
  try simp only [TUP_mk, AGG_mk, HD_mk, NL_mk, TYI_mk, TYB_mk, TYP_mk, TYL_mk, TYS_mk, TYM_mk, SO_mk, NX_mk, endK_mk, endK_mk', add_0]
  refine nw2 zc_34 rfl rfl fun v2 f2' sv2 t0' t1' => ?_
  have fv2 := f1'.trans f2'
  have etv2 := etv.trans fv2
  have hXv := hX.ext etv2
  refine ⟨_, _, _, hXv.o0.cell, ⟨_, hXv.o1.cell, ⟨_, _, _, hXv.o2.cell, ⟨_, _, _, hXv.o3.cell, ?_⟩⟩⟩⟩
  have hJ24 : ∀ t B es' lo' hi2, Ext v2 t → QR (turnC p q c) (decide ((0 : Int) ≤ tr q (c.ws.length : Int) (i : Int) ∧ tr q (c.ws.length : Int) (i : Int) < (turnC p q c).ws.length) && decide (0 ≤ tr p c.n a0 ∧ tr p c.n a0 < (turnC p q c).n)) (showV (tr q (c.ws.length : Int) (i : Int)) (tr p c.n a0)) lo' hi2 es' → Own t ⟨B, 0, none⟩ (.int .i64 lo') → Own t ⟨B, 1, none⟩ (.int .i64 hi2) →
      J_law07_ClockTurned_24 W (endK K E) ⟨u1.size, 0, none⟩ ⟨b9, 0, none⟩ a0 ⟨cb, 0, none⟩ ⟨cb + 1, 0, none⟩ ⟨cb + 2, 0, none⟩ ⟨xb, 0, none⟩ xr c.rs.length rc xl c.ls.length lc xw c.ws.length wc (m : Int) (m' : Int) (c.ws.length : Int) nx bb (i : Int) es es' v1.size (some ⟨B, 0, none⟩) x3 x3 ⟨u2.size, 0, none⟩ ⟨b10, 0, none⟩ t := by
    intro t B es' lo' hi2 e hsh' oB oB'
    obtain ⟨rfl, rfl, rfl⟩ := htn.qr hv hsh hsh' hise hise' (htn.show hv ⟨by omega, by omega⟩ ha)
    have e5t : Ext u5 t := (ev.trans fv2).trans e
    have evt : Ext v t := fv2.trans e
    have ett := etv2.trans e
    unfold J_law07_ClockTurned_24
    refine ⟨_, (e5t.own q0'').cell, ⟨_, (e5t.own q1'').cell, ⟨_, (evt.own p9).cell, ⟨_, (evt.own p9').cell, ?_⟩⟩⟩⟩
    refine BR_ff (by simp) ⟨_, (e5t.own r0').cell, ⟨_, (e5t.own r1').cell, ⟨_, (evt.own p10).cell, ⟨_, (evt.own p10').cell, ?_⟩⟩⟩⟩
    unfold J_law07_ClockTurned_23
    refine BR_ff (by simp) ?_
    unfold J_law07_ClockTurned_22
    refine BR_ff (by simp) ⟨_, (e.own t0').cell, ⟨_, (e.own t1').cell, ?_⟩⟩
    try simp only [TUP_mk, AGG_mk, HD_mk, NL_mk, TYI_mk, TYB_mk, TYP_mk, TYL_mk, TYS_mk, TYM_mk, SO_mk, NX_mk, endK_mk, endK_mk', add_0]
    refine ⟨_, oB.cell, ⟨_, oB'.cell, ?_⟩⟩
    unfold J_law07_ClockTurned_21
    refine BR_ff (by simp) ?_
    unfold J_law07_ClockTurned_20
    have hTt := hT.extk ett
    refine BR_ff (by simp) (NNI_of (by omega) (c_watch hq hTt.oq.cell hTt.o0.cell (by omega) (by omega) ?_))
    try simp only [TUP_mk, AGG_mk, HD_mk, NL_mk, TYI_mk, TYB_mk, TYP_mk, TYL_mk, TYS_mk, TYM_mk, SO_mk, NX_mk, endK_mk, endK_mk', add_0]
    refine NNI_of f1 ?_
    obtain ⟨j, hj⟩ := Int.eq_ofNat_of_zero_le f1
    have hb : m'.testBit j = m.testBit i := hbits i j hil hj
    unfold J_law07_ClockTurned_19
    rw [hj, bit_val m hm i (by omega), bit_val m' hm' j (by omega), hb]
    refine BR_ff (by simp) ?_
    obtain ⟨a, hx0, k1, k2, k3, k4⟩ := row_wt (hw.ext ett) i hil
    obtain ⟨a', hx0', k1', k2', k3', k4'⟩ := (hc.ext hTt.ext).ws i hil
    rw [hx0]
    refine IXS_nat hil ⟨_, k1, ⟨_, k2, ⟨_, k3, ⟨_, k4, ⟨_, _, _, hTt.o0.cell, ?_⟩⟩⟩⟩⟩
    rw [hx0']
    refine IXS_nat hil ⟨_, k1', ⟨_, k2', ⟨_, k3', ⟨_, k4', ?_⟩⟩⟩⟩
    rw [← hx0]
    have hf := hfin t ett
    simp only [beq_self_eq_true, Bool.and_self, Bool.not_true]
    exact hf
  have A4 : ∀ t, Ext v2 t → (RDL (Addr.add ⟨xb, 0, none⟩ 0) fun x61 l62 c63 => RDI .i64 (Addr.add ⟨xb, 0, none⟩ 1) fun n64 => RDL (Addr.add ⟨xb, 0, none⟩ 2) fun x65 l66 c67 => RDL (Addr.add ⟨xb, 0, none⟩ 3) fun x68 l69 c70 => fun _ => ((.agg #[(.slice x61 l62 c63), (.int .i64 n64), (.slice x65 l66 c67), (.slice x68 l69 c70)]) : Value) = (.agg #[(.slice x' (turnC p q c).ws.length d1), (.int .i64 (turnC p q c).n), (.slice y' (turnC p q c).rs.length d2), (.slice z' (turnC p q c).ls.length d3)])) t := fun t e => ⟨_, _, _, (e.own hXv.o0).cell, ⟨_, (e.own hXv.o1).cell, ⟨_, _, _, (e.own hXv.o2).cell, ⟨_, _, _, (e.own hXv.o3).cell, rfl⟩⟩⟩⟩
  have hTw : ∀ t, Ext v2 t → TF s c x y z c1 c2 c3 p q cb xb t := fun t e => hT.extk (etv2.trans e)
  have hCw : ∀ t, Ext v2 t → ClV t (turnC p q c) x' y' z' := fun t e => (hX.ext (etv2.trans e)).cl
  refine CONJ_two ?_ ?_
  · refine c_watch hq (hTw v2 (Ext.refl _)).oq.cell (hTw v2 (Ext.refl _)).o0.cell (by omega) (by omega) ?_
    try simp only [TUP_mk, AGG_mk, HD_mk, NL_mk, TYI_mk, TYB_mk, TYP_mk, TYL_mk, TYS_mk, TYM_mk, SO_mk, NX_mk, endK_mk, endK_mk', add_0]
    refine ANDS_i (A4 v2 (Ext.refl _)) (CONJ_two ?_ ?_)
    · refine c_event hp (hTw v2 (Ext.refl _)).op.cell (hTw v2 (Ext.refl _)).o1.cell (by omega) (by omega) ?_
      try simp only [TUP_mk, AGG_mk, HD_mk, NL_mk, TYI_mk, TYB_mk, TYP_mk, TYL_mk, TYS_mk, TYM_mk, SO_mk, NX_mk, endK_mk, endK_mk', add_0]
      refine ANDS_i (A4 v2 (Ext.refl _)) (CONJ_two ?_ ?_)
      · refine c_Shows (hCw v2 (Ext.refl _)) (by omega) fun t lo' hi2 es' e hsh' => ?_
        try simp only [TUP_mk, AGG_mk, HD_mk, NL_mk, TYI_mk, TYB_mk, TYP_mk, TYL_mk, TYS_mk, TYM_mk, SO_mk, NX_mk, endK_mk, endK_mk', add_0]
        refine nz2 zc_34 fun t2 e2' st2 o0 o1 => ?_
        refine ANDS_i (A4 t2 (e.trans e2')) (wrB o0 o1 rfl rfl fun t3 k3 st3 o0' o1' => ?_)
        exact hJ24 t3 t.size es' lo' hi2 (ext_kp (e.trans e2') e.1 k3) hsh' o0' o1'
      · refine nz2 zc_34 fun t2 e2' st2 o0 o1 => ?_
        refine ANDS_i (A4 t2 e2') ?_
        refine c_Shows (hCw t2 e2') (by omega) fun t lo' hi2 es' e hsh' => ?_
        try simp only [TUP_mk, AGG_mk, HD_mk, NL_mk, TYI_mk, TYB_mk, TYP_mk, TYL_mk, TYS_mk, TYM_mk, SO_mk, NX_mk, endK_mk, endK_mk', add_0]
        refine wrB (e.own o0) (e.own o1) rfl rfl fun t3 k3 st3 o0' o1' => ?_
        exact hJ24 t3 v2.size es' lo' hi2 (ext_kp (e2'.trans e) (Nat.le_refl _) k3) hsh' o0' o1'
    · refine nz2 zc_34 fun t2 e2' st2 o0 o1 => ?_
      refine ANDS_i (A4 t2 e2') ?_
      refine c_event hp (hTw t2 e2').op.cell (hTw t2 e2').o1.cell (by omega) (by omega) ?_
      try simp only [TUP_mk, AGG_mk, HD_mk, NL_mk, TYI_mk, TYB_mk, TYP_mk, TYL_mk, TYS_mk, TYM_mk, SO_mk, NX_mk, endK_mk, endK_mk', add_0]
      refine ANDS_i (A4 t2 e2') ?_
      refine c_Shows (hCw t2 e2') (by omega) fun t lo' hi2 es' e hsh' => ?_
      try simp only [TUP_mk, AGG_mk, HD_mk, NL_mk, TYI_mk, TYB_mk, TYP_mk, TYL_mk, TYS_mk, TYM_mk, SO_mk, NX_mk, endK_mk, endK_mk', add_0]
      refine wrB (e.own o0) (e.own o1) rfl rfl fun t3 k3 st3 o0' o1' => ?_
      exact hJ24 t3 v2.size es' lo' hi2 (ext_kp (e2'.trans e) (Nat.le_refl _) k3) hsh' o0' o1'
  · refine nz2 zc_34 fun t2 e2' st2 o0 o1 => ?_
    refine ANDS_i (A4 t2 e2') ?_
    refine c_watch hq (hTw t2 e2').oq.cell (hTw t2 e2').o0.cell (by omega) (by omega) ?_
    try simp only [TUP_mk, AGG_mk, HD_mk, NL_mk, TYI_mk, TYB_mk, TYP_mk, TYL_mk, TYS_mk, TYM_mk, SO_mk, NX_mk, endK_mk, endK_mk', add_0]
    refine ANDS_i (A4 t2 e2') ?_
    refine c_event hp (hTw t2 e2').op.cell (hTw t2 e2').o1.cell (by omega) (by omega) ?_
    try simp only [TUP_mk, AGG_mk, HD_mk, NL_mk, TYI_mk, TYB_mk, TYP_mk, TYL_mk, TYS_mk, TYM_mk, SO_mk, NX_mk, endK_mk, endK_mk', add_0]
    refine ANDS_i (A4 t2 e2') ?_
    refine c_Shows (hCw t2 e2') (by omega) fun t lo' hi2 es' e hsh' => ?_
    try simp only [TUP_mk, AGG_mk, HD_mk, NL_mk, TYI_mk, TYB_mk, TYP_mk, TYL_mk, TYS_mk, TYM_mk, SO_mk, NX_mk, endK_mk, endK_mk', add_0]
    refine wrB (e.own o0) (e.own o1) rfl rfl fun t3 k3 st3 o0' o1' => ?_
    exact hJ24 t3 v2.size es' lo' hi2 (ext_kp (e2'.trans e) (Nat.le_refl _) k3) hsh' o0' o1'
end
end Go.Proofs.Ytknpmijgdfeliaa.G

/- Clock: ClockTurned. -/
set_option linter.unusedSimpArgs false
set_option linter.unusedVariables false
set_option maxRecDepth 20000
namespace Go.Proofs.Ytknpmijgdfeliaa.G
open Go.V
/-- What lasted the other way is the same with the other sign. -/
theorem span_neg {c : Clk} {S : Nat} {a b lo hi lo' hi' : Int} (s1 : SpanC c S (laterV a b) lo hi) (s2 : SpanC c S (laterV b a) lo' hi') : lo' = -hi ∧ hi' = -lo := by
  obtain ⟨⟨g1, m1, t1, v1⟩, ⟨g2, m2, t2, v2⟩, x⟩ := s1
  obtain ⟨⟨g3, m3, t3, v3⟩, ⟨g4, m4, t4, v4⟩, y⟩ := s2
  have y1 := y _ _ t1
  have y2 := y _ _ t2
  have x3 := x _ _ t3
  have x4 := x _ _ t4
  unfold laterV at *
  omega
theorem span_self {c : Clk} {S : Nat} {a lo hi : Int} (s1 : SpanC c S (laterV a a) lo hi) : lo = 0 ∧ hi = 0 := by
  obtain ⟨⟨g1, m1, t1, v1⟩, ⟨g2, m2, t2, v2⟩, x⟩ := s1
  unfold laterV at *
  omega
section
variable {W : World} {K : VK} {E : List PanicEntry → Hp → Prop} {s : Hp} {c : Clk} {x y z : Option Addr} {c1 c2 c3 p q cb xb : Nat} {a0 b0 : Int}
theorem w_ClockTurned (hp : p < 256) (hq : q < 256) (hc : ClV s c x y z) (hk : ∀ t, Ext s t → K (.bool true) t) : CALL Pg W F_law07_ClockTurned [clkV c x y z c1 c2 c3, .int .i64 a0, .int .i64 b0, .int .u8 (p : Int), .int .u8 (q : Int)] K E s := by
  unfold clkV
  refine does_law07_ClockTurned W x _ c1 c.n y _ c2 z _ c3 a0 b0 p q _ s ?_
  unfold T_law07_ClockTurned
  refine ne4 fun s1 e1 z1 o0 o1 o2 o3 => ?_
  refine ne1 fun s2 e2 z2 op => ?_
  refine ne1 fun s3 e3 z3 oq => ?_
  have e23 := e2.trans e3
  have e13 := e1.trans e23
  have hb1 : s1.size = s.size + 1 := z1
  have hb2 : s2.size = s.size + 2 := by omega
  -- the beginning
  have A0 := e23.own o0
  have A1 := e23.own o1
  have A2 := e23.own o2
  have A3 := e23.own o3
  have Ap := e3.own op
  rw [hb1] at Ap
  rw [hb2] at oq
  have hC : ∀ t, Ext s3 t → ClV t c x y z := fun t e => hc.ext (e13.trans e)
  rw [hb1, hb2]
  have fin : ∀ t, Ext s3 t → CALL Pg W F_law07_alive [] (fun v34 => TYB v34 fun b36 => (endK K E) (.returned (.bool b36))) (fun e27 => (endK K E) (.panicked e27)) t := fun t e => c_alive fun t2 e2 => hk t2 ((e13.trans e).trans e2)
  have hJ0t : ∀ t, Ext s3 t → J_law07_ClockTurned_0 W (endK K E) true s.size a0 b0 (s.size + 1) (s.size + 2) t := fun t e => by
    unfold J_law07_ClockTurned_0
    exact BR_tt rfl (fin t e)
  have hJ1t : ∀ t, Ext s3 t → J_law07_ClockTurned_1 W (endK K E) true s.size a0 b0 (s.size + 1) (s.size + 2) t := fun t e => by
    unfold J_law07_ClockTurned_1
    exact BR_tt rfl (hJ0t t e)
  have hJ2t : ∀ t, Ext s3 t → J_law07_ClockTurned_2 W (endK K E) true s.size a0 b0 (s.size + 1) (s.size + 2) t := fun t e => by
    unfold J_law07_ClockTurned_2
    exact BR_tt rfl (hJ1t t e)
  refine ⟨_, _, _, A0.cell, ⟨_, A1.cell, ⟨_, _, _, A2.cell, ⟨_, _, _, A3.cell, ?_⟩⟩⟩⟩
  refine c_heavy (hC s3 (Ext.refl _)) fun s4 qh e4 hhv => ?_
  try simp only [TUP_mk, AGG_mk, HD_mk, NL_mk, TYI_mk, TYB_mk, TYP_mk, TYL_mk, TYS_mk, TYM_mk, SO_mk, NX_mk, endK_mk, endK_mk', add_0]
  refine BR_bool (fun _ => hJ2t s4 e4) (fun hqf => ?_)
  refine ⟨_, _, _, (e4.own A0).cell, ⟨_, (e4.own A1).cell, ⟨_, _, _, (e4.own A2).cell, ⟨_, _, _, (e4.own A3).cell, ?_⟩⟩⟩⟩
  refine f_Clock (hC s4 e4) fun s5 e5 => ?_
  try simp only [TUP_mk, AGG_mk, HD_mk, NL_mk, TYI_mk, TYB_mk, TYP_mk, TYL_mk, TYS_mk, TYM_mk, SO_mk, NX_mk, endK_mk, endK_mk', add_0]
  have e35 := e4.trans e5
  cases hok : okC c with
  | false => exact hJ2t s5 e35
  | true =>
  have hv := okC_iff.1 hok
  have hn0 := hv.n0
  have hn5 := hv.n5
  have hw2 := hv.w2
  unfold J_law07_ClockTurned_2
  refine BR_ff rfl ⟨_, _, _, (e35.own A0).cell, ⟨_, (e35.own A1).cell, ⟨_, _, _, (e35.own A2).cell, ⟨_, _, _, (e35.own A3).cell, ?_⟩⟩⟩⟩
  refine f_Event ⟨hn0, hn5⟩ fun s6 e6 => ?_
  try simp only [TUP_mk, AGG_mk, HD_mk, NL_mk, TYI_mk, TYB_mk, TYP_mk, TYL_mk, TYS_mk, TYM_mk, SO_mk, NX_mk, endK_mk, endK_mk', add_0]
  have e36 := e35.trans e6
  by_cases ha : 0 ≤ a0 ∧ a0 < c.n
  case neg => rw [decide_eq_false ha]; exact hJ1t s6 e36
  rw [decide_eq_true ha]
  unfold J_law07_ClockTurned_1
  refine BR_ff rfl ⟨_, _, _, (e36.own A0).cell, ⟨_, (e36.own A1).cell, ⟨_, _, _, (e36.own A2).cell, ⟨_, _, _, (e36.own A3).cell, ?_⟩⟩⟩⟩
  refine f_Event ⟨hn0, hn5⟩ fun s7 e7 => ?_
  try simp only [TUP_mk, AGG_mk, HD_mk, NL_mk, TYI_mk, TYB_mk, TYP_mk, TYL_mk, TYS_mk, TYM_mk, SO_mk, NX_mk, endK_mk, endK_mk', add_0]
  have e37 := e36.trans e7
  by_cases hb : 0 ≤ b0 ∧ b0 < c.n
  case neg => rw [decide_eq_false hb]; exact hJ0t s7 e37
  rw [decide_eq_true hb]
  have hn : 0 < c.n := by omega
  unfold J_law07_ClockTurned_0
  refine BR_ff rfl ⟨_, _, _, (e37.own A0).cell, ⟨_, (e37.own A1).cell, ⟨_, _, _, (e37.own A2).cell, ⟨_, _, _, (e37.own A3).cell, ?_⟩⟩⟩⟩
  refine nw4 zc_26 rfl rfl rfl rfl fun s8 e8 z8 x0 x1 x2 x3 => ?_
  have e38 := e37.trans e8
  refine ⟨_, _, _, (e38.own A0).cell, ?_⟩
  refine ⟨⟨by omega, by omega, by omega⟩, ?_⟩
  rw [zc_66, Int.toNat_natCast]
  have e89 : Ext s8 (s8.push (.cells (repL c.ws.length [.int .i64 0, .int .i64 0, .int .i64 0, .int .i64 0]).toArray 66 (0, 0))) := Ext.push (Ext.refl _)
  have hb51 : ∀ i, i < c.ws.length * 4 → ∃ v, Own (s8.push (.cells (repL c.ws.length [.int .i64 0, .int .i64 0, .int .i64 0, .int .i64 0]).toArray 66 (0, 0))) ⟨s8.size, i, none⟩ v := fun i hi => by
    have hlen : (repL c.ws.length [Value.int .i64 0, .int .i64 0, .int .i64 0, .int .i64 0]).length = c.ws.length * 4 := repL_lenN _ _
    exact ⟨_, own_new (List.getElem?_eq_getElem (by rw [hlen]; exact hi))⟩
  have hz9 : (s8.push (.cells (repL c.ws.length [.int .i64 0, .int .i64 0, .int .i64 0, .int .i64 0]).toArray 66 (0, 0))).size = s8.size + 1 := by simp
  generalize s8.push (.cells (repL c.ws.length [.int .i64 0, .int .i64 0, .int .i64 0, .int .i64 0]).toArray 66 (0, 0)) = s9 at e89 hb51 hz9 ⊢
  have hs37 : s.size + 3 ≤ s7.size := by have := e37.1; omega
  show WR (Addr.add ⟨s7.size, 0, none⟩ 0) _ _ s9
  refine wrOne (i := 0) (e89.own x0) rfl fun u1 k1 y1 w0 wk1 => ?_
  refine wrOne (i := 2) (wk1 2 _ (by omega) (e89.own x2)) rfl fun u2 k2 y2 w2 wk2 => ?_
  refine wrOne (i := 3) (wk2 3 _ (by omega) (wk1 3 _ (by omega) (e89.own x3))) rfl fun u3 k3 y3 w3 wk3 => ?_
  have kk : Kp (· = s7.size) s9 u3 := (k1.trans k2).trans k3
  have e39 := e38.trans e89
  have hTF : TF s c x y z c1 c2 c3 p q s.size s7.size u3 := by
    have hT9 : TF s c x y z c1 c2 c3 p q s.size s7.size s9 := ⟨e13.trans e39, ⟨Nat.le_refl _, by omega, by omega⟩, e39.own A0, e39.own A1, e39.own A2, e39.own A3, e39.own Ap, e39.own oq⟩
    exact hT9.keep kk fun d hd => by have : d = s7.size := hd; omega
  refine ⟨_, _, _, hTF.o0.cell, ?_⟩
  refine turn_l0 hc hv hn hp hq hTF (b51 := s8.size) (by omega) (by omega) (wk3 0 _ (by omega) (wk2 0 _ (by omega) w0)) (wk3 1 _ (by omega) (wk2 1 _ (by omega) (wk1 1 _ (by omega) (e89.own x1)))) (wk3 2 _ (by omega) w2) w3 (fun i hi => ?_) fun t wx rx lx d1 d2 d3 hTt hXt => ?_
  · obtain ⟨v, hv'⟩ := hb51 i hi
    exact ⟨v, kk.own (by show ¬ s8.size = s7.size; omega) hv'⟩
  clear hb51
  refine turn_copies hc hv hTt fun t1 xr rc xl lc xw wc et1 hr hl hw => ?_
  have hT : ∀ u, Ext t1 u → TF s c x y z c1 c2 c3 p q s.size s7.size u := fun u e => hTt.extk (et1.trans e)
  have hX : ∀ u, Ext t1 u → TX s s7.size u (turnC p q c) wx rx lx d1 d2 d3 := fun u e => hXt.ext (et1.trans e)
  have hCc : ∀ u, Ext t1 u → ClV u c x y z := fun u e => hc.ext (hT u e).ext
  have hCx : ∀ u, Ext t1 u → ClV u (turnC p q c) wx rx lx := fun u e => (hX u e).cl
  have htn := turn_Tn (p := p) (q := q) (c := c)
  have hv' := htn.ok hv
  have hce := htn.cane hv
  have hnx : (turnC p q c).n = c.n := rfl
  obtain ⟨⟨fa0, fa1⟩, _⟩ := htn.fe0 a0 ha.1 ha.2
  obtain ⟨⟨fb0, fb1⟩, _⟩ := htn.fe0 b0 hb.1 hb.2
  have isab : (decide (0 ≤ a0 ∧ a0 < c.n) && decide (0 ≤ b0 ∧ b0 < c.n)) = true := by rw [decide_eq_true ha, decide_eq_true hb]; rfl
  have isba : (decide (0 ≤ b0 ∧ b0 < c.n) && decide (0 ≤ a0 ∧ a0 < c.n)) = true := by rw [decide_eq_true ha, decide_eq_true hb]; rfl
  have isab' : (decide (0 ≤ tr p c.n a0 ∧ tr p c.n a0 < (turnC p q c).n) && decide (0 ≤ tr p c.n b0 ∧ tr p c.n b0 < (turnC p q c).n)) = true := by rw [decide_eq_true (show 0 ≤ tr p c.n a0 ∧ tr p c.n a0 < (turnC p q c).n from ⟨fa0, fa1⟩), decide_eq_true (show 0 ≤ tr p c.n b0 ∧ tr p c.n b0 < (turnC p q c).n from ⟨fb0, fb1⟩)]; rfl
  unfold A_law07_ClockTurned_0
  have R : ∀ u, Ext t1 u → TF s c x y z c1 c2 c3 p q s.size s7.size u := hT
  refine ⟨_, _, _, (hT t1 (Ext.refl _)).o0.cell, ⟨_, (hT t1 (Ext.refl _)).o1.cell, ⟨_, _, _, (hT t1 (Ext.refl _)).o2.cell, ⟨_, _, _, (hT t1 (Ext.refl _)).o3.cell, ?_⟩⟩⟩⟩
  refine c_Lasted (hCc t1 (Ext.refl _)) fun t2 slo shi se f2 qs => ?_
  try simp only [TUP_mk, AGG_mk, HD_mk, NL_mk, TYI_mk, TYB_mk, TYP_mk, TYL_mk, TYS_mk, TYM_mk, SO_mk, NX_mk, endK_mk, endK_mk', add_0]
  refine nw2 zc_34 rfl rfl fun t3 f3 y3 sb0 sb1 => ?_
  have g3 := f2.trans f3
  refine ⟨_, _, _, (hT t3 g3).o0.cell, ⟨_, (hT t3 g3).o1.cell, ⟨_, _, _, (hT t3 g3).o2.cell, ⟨_, _, _, (hT t3 g3).o3.cell, ?_⟩⟩⟩⟩
  refine c_Lasted (hCc t3 g3) fun t4 tlo thi te f4 qt => ?_
  try simp only [TUP_mk, AGG_mk, HD_mk, NL_mk, TYI_mk, TYB_mk, TYP_mk, TYL_mk, TYS_mk, TYM_mk, SO_mk, NX_mk, endK_mk, endK_mk', add_0]
  refine nw2 zc_34 rfl rfl fun t5 f5 y5 tb0 tb1 => ?_
  have f35 := f4.trans f5
  have g5 := g3.trans f35
  -- errors and spans of both
  have hte : te = se ∧ (se = 0 → tlo = -shi ∧ thi = -slo) ∧ (se = 0 ↔ CanC c (everyN c)) := by
    rcases qr_err qs hv isab with ⟨h1, h2, h3⟩ | ⟨h1, h2, _⟩ <;> rcases qr_err qt hv isba with ⟨k1, k2, k3⟩ | ⟨k1, k2, _⟩
    · exact ⟨by omega, fun _ => span_neg h3 k3, fun _ => h1, fun _ => h2⟩
    · exact absurd h1 k1
    · exact absurd k1 h1
    · exact ⟨by omega, fun h => by omega, fun h => by omega, fun h => absurd h h1⟩
  obtain ⟨rfl, hneg, hcan⟩ := hte
  have g5T := hT t5 g5
  have g5X := hX t5 g5
  have A4 : ∀ u, Ext t5 u → (RDL (Addr.add ⟨s7.size, 0, none⟩ 0) fun x61 l62 c63 => RDI .i64 (Addr.add ⟨s7.size, 0, none⟩ 1) fun n64 => RDL (Addr.add ⟨s7.size, 0, none⟩ 2) fun x65 l66 c67 => RDL (Addr.add ⟨s7.size, 0, none⟩ 3) fun x68 l69 c70 => fun _ => ((.agg #[(.slice x61 l62 c63), (.int .i64 n64), (.slice x65 l66 c67), (.slice x68 l69 c70)]) : Value) = (.agg #[(.slice wx (turnC p q c).ws.length d1), (.int .i64 (turnC p q c).n), (.slice rx (turnC p q c).rs.length d2), (.slice lx (turnC p q c).ls.length d3)])) u := fun u e => ⟨_, _, _, (e.own g5X.o0).cell, ⟨_, (e.own g5X.o1).cell, ⟨_, _, _, (e.own g5X.o2).cell, ⟨_, _, _, (e.own g5X.o3).cell, rfl⟩⟩⟩⟩
  -- all behind the third question
  have hJ17 : ∀ u B ulo uhi ue, Ext t5 u → QR (turnC p q c) (decide (0 ≤ tr p c.n a0 ∧ tr p c.n a0 < (turnC p q c).n) && decide (0 ≤ tr p c.n b0 ∧ tr p c.n b0 < (turnC p q c).n)) (laterV (tr p c.n a0) (tr p c.n b0)) ulo uhi ue → Own u ⟨B, 0, none⟩ (.int .i64 ulo) → Own u ⟨B, 1, none⟩ (.int .i64 uhi) →
      J_law07_ClockTurned_17 W (endK K E) ⟨s.size, 0, none⟩ a0 b0 ⟨s7.size, 0, none⟩ ⟨s.size + 1, 0, none⟩ te te t4.size t2.size ⟨s.size + 2, 0, none⟩ xr c.rs.length rc xl c.ls.length lc xw c.ws.length wc (some ⟨B, 0, none⟩) ue u := by
    intro u B ulo uhi ue eu qu ub0 ub1
    obtain ⟨rfl, rfl, rfl⟩ := htn.qr hv qs qu isab isab' (htn.later hv ha hb)
    have gu := g5.trans eu
    unfold J_law07_ClockTurned_17
    refine ⟨_, _, _, (hT u gu).o0.cell, ⟨_, (hT u gu).o1.cell, ⟨_, _, _, (hT u gu).o2.cell, ⟨_, _, _, (hT u gu).o3.cell, ?_⟩⟩⟩⟩
    refine c_First (hCc u gu) fun u1 lo1 hi1 er1 k1 q1 => ?_
    try simp only [TUP_mk, AGG_mk, HD_mk, NL_mk, TYI_mk, TYB_mk, TYP_mk, TYL_mk, TYS_mk, TYM_mk, SO_mk, NX_mk, endK_mk, endK_mk', add_0]
    have gu1 := gu.trans k1
    refine ⟨_, _, _, (hT u1 gu1).o0.cell, ⟨_, (hT u1 gu1).o1.cell, ⟨_, _, _, (hT u1 gu1).o2.cell, ⟨_, _, _, (hT u1 gu1).o3.cell, ?_⟩⟩⟩⟩
    refine c_First (hCc u1 gu1) fun u2 lo2 hi2 er2 k2 q2 => ?_
    try simp only [TUP_mk, AGG_mk, HD_mk, NL_mk, TYI_mk, TYB_mk, TYP_mk, TYL_mk, TYS_mk, TYM_mk, SO_mk, NX_mk, endK_mk, endK_mk', add_0]
    have gu2 := gu1.trans k2
    refine ⟨_, _, _, (hT u2 gu2).o0.cell, ⟨_, (hT u2 gu2).o1.cell, ⟨_, _, _, (hT u2 gu2).o2.cell, ⟨_, _, _, (hT u2 gu2).o3.cell, ?_⟩⟩⟩⟩
    refine c_When (hCc u2 gu2) fun u3 vlo vhi er3 k3 q3 => ?_
    try simp only [TUP_mk, AGG_mk, HD_mk, NL_mk, TYI_mk, TYB_mk, TYP_mk, TYL_mk, TYS_mk, TYM_mk, SO_mk, NX_mk, endK_mk, endK_mk', add_0]
    refine nw2 zc_34 rfl rfl fun u4 k4 y4 vb0 vb1 => ?_
    have gu4 := gu2.trans (k3.trans k4)
    have euu4 : Ext u u4 := k1.trans (k2.trans (k3.trans k4))
    have hXu := hX u4 gu4
    refine ⟨_, _, _, hXu.o0.cell, ⟨_, hXu.o1.cell, ⟨_, _, _, hXu.o2.cell, ⟨_, _, _, hXu.o3.cell, ?_⟩⟩⟩⟩
    have hisa : decide (0 ≤ a0 ∧ a0 < c.n) = true := decide_eq_true ha
    have hisa' : decide (0 ≤ tr p c.n a0 ∧ tr p c.n a0 < (turnC p q c).n) = true := decide_eq_true ⟨fa0, fa1⟩
    have herr : er1 = ue ∧ er2 = ue ∧ er3 = ue := by
      refine ⟨?_, ?_, ?_⟩
      · rcases qr_err q1 hv isab with ⟨h1, h2, _⟩ | ⟨h1, h2, _⟩
        · have := hcan.2 h1; omega
        · rcases qr_err qs hv isab with ⟨k1, _⟩ | ⟨_, k2, _⟩
          · exact absurd k1 h1
          · omega
      · rcases qr_err q2 hv isba with ⟨h1, h2, _⟩ | ⟨h1, h2, _⟩
        · have := hcan.2 h1; omega
        · rcases qr_err qs hv isab with ⟨k1, _⟩ | ⟨_, k2, _⟩
          · exact absurd k1 h1
          · omega
      · rcases qr_err q3 hv hisa with ⟨h1, h2, _⟩ | ⟨h1, h2, _⟩
        · have := hcan.2 h1; omega
        · rcases qr_err qs hv isab with ⟨k1, _⟩ | ⟨_, k2, _⟩
          · exact absurd k1 h1
          · omega
    obtain ⟨rfl, rfl, rfl⟩ := herr
    have hJ16 : ∀ v B2 wlo whi we, Ext u4 v → QR (turnC p q c) (decide (0 ≤ tr p c.n a0 ∧ tr p c.n a0 < (turnC p q c).n)) (laterV (-1) (tr p c.n a0)) wlo whi we → Own v ⟨B2, 0, none⟩ (.int .i64 wlo) → Own v ⟨B2, 1, none⟩ (.int .i64 whi) →
        J_law07_ClockTurned_16 W (endK K E) ⟨s.size, 0, none⟩ ⟨s7.size, 0, none⟩ er3 er3 t4.size t2.size a0 ⟨s.size + 1, 0, none⟩ ⟨s.size + 2, 0, none⟩ xr c.rs.length rc xl c.ls.length lc xw c.ws.length wc (firstN lo1 hi1 er3) (firstN lo2 hi2 er3) b0 u3.size (some ⟨B2, 0, none⟩) (some ⟨B, 0, none⟩) we er3 er3 er3 er3 v := by
      intro v B2 wlo whi we ev qw wb0 wb1
      obtain ⟨rfl, rfl, rfl⟩ := htn.qr hv q3 qw hisa hisa' (htn.when hv ha)
      have gv := gu4.trans ev
      have euv : Ext u v := euu4.trans ev
      unfold J_law07_ClockTurned_16
      refine ⟨_, _, _, (hT v gv).o0.cell, ⟨_, (hT v gv).o1.cell, ⟨_, _, _, (hT v gv).o2.cell, ⟨_, _, _, (hT v gv).o3.cell, ?_⟩⟩⟩⟩
      refine c_Drop (hCc v gv) fun v1 dd de m1 qd => ?_
      try simp only [TUP_mk, AGG_mk, HD_mk, NL_mk, TYI_mk, TYB_mk, TYP_mk, TYL_mk, TYS_mk, TYM_mk, SO_mk, NX_mk, endK_mk, endK_mk', add_0]
      have gv1 := gv.trans m1
      refine ⟨_, _, _, (hX v1 gv1).o0.cell, ⟨_, (hX v1 gv1).o1.cell, ⟨_, _, _, (hX v1 gv1).o2.cell, ⟨_, _, _, (hX v1 gv1).o3.cell, ?_⟩⟩⟩⟩
      refine c_Drop (hCx v1 gv1) fun v2 dd' de' m2 qd' => ?_
      try simp only [TUP_mk, AGG_mk, HD_mk, NL_mk, TYI_mk, TYB_mk, TYP_mk, TYL_mk, TYS_mk, TYM_mk, SO_mk, NX_mk, endK_mk, endK_mk', add_0]
      have gv2 := gv1.trans m2
      refine ⟨_, _, _, (hT v2 gv2).o0.cell, ⟨_, (hT v2 gv2).o1.cell, ⟨_, _, _, (hT v2 gv2).o2.cell, ⟨_, _, _, (hT v2 gv2).o3.cell, ?_⟩⟩⟩⟩
      refine c_Wrong (hCc v2 gv2) fun v3 wr wre m3 qr1 => ?_
      try simp only [TUP_mk, AGG_mk, HD_mk, NL_mk, TYI_mk, TYB_mk, TYP_mk, TYL_mk, TYS_mk, TYM_mk, SO_mk, NX_mk, endK_mk, endK_mk', add_0]
      have gv3 := gv2.trans m3
      refine ⟨_, _, _, (hX v3 gv3).o0.cell, ⟨_, (hX v3 gv3).o1.cell, ⟨_, _, _, (hX v3 gv3).o2.cell, ⟨_, _, _, (hX v3 gv3).o3.cell, ?_⟩⟩⟩⟩
      refine c_Wrong (hCx v3 gv3) fun v4 wr' wre' m4 qr2 => ?_
      try simp only [TUP_mk, AGG_mk, HD_mk, NL_mk, TYI_mk, TYB_mk, TYP_mk, TYL_mk, TYS_mk, TYM_mk, SO_mk, NX_mk, endK_mk, endK_mk', add_0]
      have gv4 := gv3.trans m4
      have evv4 : Ext v v4 := m1.trans (m2.trans (m3.trans m4))
      obtain ⟨rfl, n, n', rfl, rfl, hn1, hn2, hpop⟩ := htn.drop hv qd qd'
      obtain ⟨rfl, w, w', rfl, rfl, hw1, hw2', hwb⟩ := htn.wrong hv qr1 qr2
      have e5v : Ext t5 v4 := (eu.trans euv).trans evv4
      have S0 : Own v4 ⟨t2.size, 0, none⟩ (.int .i64 ulo) := (f35.trans e5v).own sb0
      have S1 : Own v4 ⟨t2.size, 1, none⟩ (.int .i64 uhi) := (f35.trans e5v).own sb1
      have T0 : Own v4 ⟨t4.size, 0, none⟩ (.int .i64 tlo) := e5v.own tb0
      have T1 : Own v4 ⟨t4.size, 1, none⟩ (.int .i64 thi) := e5v.own tb1
      have hJ3 : ∀ v5, Ext v4 v5 → J_law07_ClockTurned_3 W (endK K E) false a0 ⟨s.size, 0, none⟩ ⟨s.size + 1, 0, none⟩ ⟨s.size + 2, 0, none⟩ ⟨s7.size, 0, none⟩ xr c.rs.length rc xl c.ls.length lc xw c.ws.length wc (w : Int) (w' : Int) v5 := fun v5 e => by
        have g := gv4.trans e
        unfold J_law07_ClockTurned_3
        exact BR_ff rfl (turn_l3 hc hv hp hq ha (hT v5 g) (hX v5 g) (hr.ext g) (hl.ext g) (hw.ext g) hw1 hw2' hwb hk)
      have hJ4 : ∀ v5, Ext v4 v5 → J_law07_ClockTurned_4 W (endK K E) false we t4.size t2.size a0 ⟨s.size, 0, none⟩ ⟨s.size + 1, 0, none⟩ ⟨s.size + 2, 0, none⟩ ⟨s7.size, 0, none⟩ xr c.rs.length rc xl c.ls.length lc xw c.ws.length wc (w : Int) (w' : Int) (firstN lo1 hi1 we) (firstN lo2 hi2 we) b0 v5 := by
        intro v5 e
        unfold J_law07_ClockTurned_4
        refine BR_ff rfl (BR_eq (fun he0 => ?_) (fun _ => hJ3 v5 e))
        obtain ⟨rfl, rfl⟩ := hneg he0
        have hcc := hcan.1 he0
        have hs1 : SpanC c (everyN c) (laterV a0 b0) ulo uhi := by
          rcases qr_err qs hv isab with ⟨_, _, h3⟩ | ⟨h1, _⟩
          · exact h3
          · exact absurd hcc h1
        have hf1 : SpanC c (everyN c) (laterV a0 b0) lo1 hi1 := by
          rcases qr_err q1 hv isab with ⟨_, _, h3⟩ | ⟨h1, _⟩
          · exact h3
          · exact absurd hcc h1
        have hf2 : SpanC c (everyN c) (laterV b0 a0) lo2 hi2 := by
          rcases qr_err q2 hv isba with ⟨_, _, h3⟩ | ⟨h1, _⟩
          · exact h3
          · exact absurd hcc h1
        obtain ⟨rfl, rfl⟩ := span_neg hf1 hf2
        obtain ⟨rfl, rfl⟩ := span_uniq hs1 hf1 (fun g m => Iff.rfl)
        have hle := span_le hs1
        refine ⟨_, (e.own T0).cell, ⟨_, (e.own T1).cell, ⟨_, (e.own S1).cell, ⟨_, (e.own S0).cell, ?_⟩⟩⟩⟩
        have hbnd : -100000 ≤ ulo ∧ uhi ≤ 100000 := by
          obtain ⟨⟨g1, m1, t1, v1⟩, ⟨g2, m2, t2, v2⟩, _⟩ := hs1
          have a1 := t1.days a0 ha.1 ha.2
          have a2 := t1.days b0 hb.1 hb.2
          have a3 := t2.days a0 ha.1 ha.2
          have a4 := t2.days b0 hb.1 hb.2
          unfold laterV G.atM at v1 v2
          rw [if_neg (by omega), if_neg (by omega)] at v1 v2
          omega
        refine c_span fun v6 e6 => ?_
        try simp only [TUP_mk, AGG_mk, HD_mk, NL_mk, TYI_mk, TYB_mk, TYP_mk, TYL_mk, TYS_mk, TYM_mk, SO_mk, NX_mk, endK_mk, endK_mk', add_0]
        have e46 := e.trans e6
        refine ANDS_i ⟨_, (e46.own T0).cell, ⟨_, (e46.own T1).cell, rfl⟩⟩ ?_
        refine BR_ff (by rw [wrap_i64 (n := 0 - uhi) (by omega) (by omega), wrap_i64 (n := 0 - ulo) (by omega) (by omega), show 0 - uhi = -uhi by omega, show 0 - ulo = -ulo by omega]; simp) ?_
        have hself : BR (a0 == b0) (RDI .i64 (Addr.add ⟨t2.size, 0, none⟩ 0) fun n633 => RDI .i64 (Addr.add ⟨t2.size, 0, none⟩ 1) fun n634 => CALL Pg W F_law07_span [(.int .i64 0), (.int .i64 0)] (fun v635 => AGG v635 fun q637 => HD q637 fun v638 r639 => TYI .i64 v638 fun n640 => HD r639 fun v641 r642 => TYI .i64 v641 fun n643 => NL r642 <|
            ANDS (RDI .i64 (Addr.add ⟨t2.size, 0, none⟩ 0) fun n646 => RDI .i64 (Addr.add ⟨t2.size, 0, none⟩ 1) fun n647 => fun _ => ((.agg #[(.int .i64 n646), (.int .i64 n647)]) : Value) = (.agg #[(.int .i64 n633), (.int .i64 n634)])) <|
            J_law07_ClockTurned_3 W (endK K E) (!((n633 == n640) && (n634 == n643))) a0 ⟨s.size, 0, none⟩ ⟨s.size + 1, 0, none⟩ ⟨s.size + 2, 0, none⟩ ⟨s7.size, 0, none⟩ xr c.rs.length rc xl c.ls.length lc xw c.ws.length wc (w : Int) (w' : Int)) (fun e636 => (endK K E) (.panicked e636)))
            (J_law07_ClockTurned_3 W (endK K E) false a0 ⟨s.size, 0, none⟩ ⟨s.size + 1, 0, none⟩ ⟨s.size + 2, 0, none⟩ ⟨s7.size, 0, none⟩ xr c.rs.length rc xl c.ls.length lc xw c.ws.length wc (w : Int) (w' : Int)) v6 := by
          refine BR_eq (fun hab => ?_) (fun _ => hJ3 v6 e46)
          subst hab
          obtain ⟨rfl, rfl⟩ := span_self hs1
          refine ⟨_, (e46.own S0).cell, ⟨_, (e46.own S1).cell, ?_⟩⟩
          refine c_span fun v7 e7 => ?_
          try simp only [TUP_mk, AGG_mk, HD_mk, NL_mk, TYI_mk, TYB_mk, TYP_mk, TYL_mk, TYS_mk, TYM_mk, SO_mk, NX_mk, endK_mk, endK_mk', add_0]
          have e47 := e46.trans e7
          exact ANDS_i ⟨_, (e47.own S0).cell, ⟨_, (e47.own S1).cell, rfl⟩⟩ (hJ3 v7 e47)
        refine BR_eq (fun hal => ?_) (fun _ => hself)
        have hpos : 0 < ulo := by
          unfold firstN at hal
          split at hal
          · omega
          · split at hal
            · assumption
            · omega
        refine BR_ff ?_ hself
        have : firstN (-uhi) (-ulo) we = 0 := by unfold firstN; rw [if_pos (by omega)]
        rw [this]; rfl
      refine BR_ff (by simp) ?_
      unfold J_law07_ClockTurned_15
      refine BR_ff (by simp) ?_
      unfold J_law07_ClockTurned_14
      refine BR_ff (by simp) ?_
      unfold J_law07_ClockTurned_13
      refine BR_ff (by simp) ?_
      unfold J_law07_ClockTurned_12
      refine BR_ff (by simp) ?_
      unfold J_law07_ClockTurned_11
      refine BR_ff (by simp) ?_
      try simp only [TUP_mk, AGG_mk, HD_mk, NL_mk, TYI_mk, TYB_mk, TYP_mk, TYL_mk, TYS_mk, TYM_mk, SO_mk, NX_mk, endK_mk, endK_mk', add_0]
      refine ⟨_, ((euv.trans evv4).own ub0).cell, ⟨_, ((euv.trans evv4).own ub1).cell, ⟨_, S0.cell, ⟨_, S1.cell, ?_⟩⟩⟩⟩
      unfold J_law07_ClockTurned_10
      refine BR_ff (by simp) ⟨_, ((ev.trans evv4).own vb0).cell, ⟨_, ((ev.trans evv4).own vb1).cell, ?_⟩⟩
      try simp only [TUP_mk, AGG_mk, HD_mk, NL_mk, TYI_mk, TYB_mk, TYP_mk, TYL_mk, TYS_mk, TYM_mk, SO_mk, NX_mk, endK_mk, endK_mk', add_0]
      refine ⟨_, (evv4.own wb0).cell, ⟨_, (evv4.own wb1).cell, ?_⟩⟩
      unfold J_law07_ClockTurned_9
      refine BR_ff (by simp) ?_
      unfold J_law07_ClockTurned_8
      refine BR_ff (by simp) ?_
      unfold J_law07_ClockTurned_7
      refine BR_ff (by simp) ?_
      unfold J_law07_ClockTurned_6
      refine BR_ff (decide_eq_false (by omega)) ?_
      unfold J_law07_ClockTurned_5
      refine BR_ff (decide_eq_false (by omega)) ?_
      refine f_Size hn1 ?_
      try simp only [TUP_mk, AGG_mk, HD_mk, NL_mk, TYI_mk, TYB_mk, TYP_mk, TYL_mk, TYS_mk, TYM_mk, SO_mk, NX_mk, endK_mk, endK_mk', add_0]
      refine f_Size hn2 ?_
      try simp only [TUP_mk, AGG_mk, HD_mk, NL_mk, TYI_mk, TYB_mk, TYP_mk, TYL_mk, TYS_mk, TYM_mk, SO_mk, NX_mk, endK_mk, endK_mk', add_0]
      rw [hpop]
      have := hJ4 v4 (Ext.refl _)
      simp only [bne_self_eq_false]
      exact this
    have hTw : ∀ v, Ext u4 v → TF s c x y z c1 c2 c3 p q s.size s7.size v := fun v e => hT v (gu4.trans e)
    have A4u : ∀ v, Ext u4 v → _ := fun v e => A4 v ((eu.trans euu4).trans e)
    refine CONJ_two ?_ ?_
    · refine c_event hp (hTw u4 (Ext.refl _)).op.cell (hTw u4 (Ext.refl _)).o1.cell (by omega) (by omega) ?_
      try simp only [TUP_mk, AGG_mk, HD_mk, NL_mk, TYI_mk, TYB_mk, TYP_mk, TYL_mk, TYS_mk, TYM_mk, SO_mk, NX_mk, endK_mk, endK_mk', add_0]
      refine ANDS_i (A4u u4 (Ext.refl _)) (CONJ_two ?_ ?_)
      · refine c_When (hCx u4 gu4) fun v wlo whi we e qw => ?_
        try simp only [TUP_mk, AGG_mk, HD_mk, NL_mk, TYI_mk, TYB_mk, TYP_mk, TYL_mk, TYS_mk, TYM_mk, SO_mk, NX_mk, endK_mk, endK_mk', add_0]
        refine nz2 zc_34 fun v2 e2' st2 o0 o1 => ?_
        refine ANDS_i (A4u v2 (e.trans e2')) (wrB o0 o1 rfl rfl fun v3 k3 st3 o0' o1' => ?_)
        exact hJ16 v3 v.size wlo whi we (ext_kp (e.trans e2') e.1 k3) qw o0' o1'
      · refine nz2 zc_34 fun v2 e2' st2 o0 o1 => ?_
        refine ANDS_i (A4u v2 e2') ?_
        refine c_When (hCx v2 (gu4.trans e2')) fun v wlo whi we e qw => ?_
        try simp only [TUP_mk, AGG_mk, HD_mk, NL_mk, TYI_mk, TYB_mk, TYP_mk, TYL_mk, TYS_mk, TYM_mk, SO_mk, NX_mk, endK_mk, endK_mk', add_0]
        refine wrB (e.own o0) (e.own o1) rfl rfl fun v3 k3 st3 o0' o1' => ?_
        exact hJ16 v3 u4.size wlo whi we (ext_kp (e2'.trans e) (Nat.le_refl _) k3) qw o0' o1'
    · refine nz2 zc_34 fun v2 e2' st2 o0 o1 => ?_
      refine ANDS_i (A4u v2 e2') ?_
      refine c_event hp (hTw v2 e2').op.cell (hTw v2 e2').o1.cell (by omega) (by omega) ?_
      try simp only [TUP_mk, AGG_mk, HD_mk, NL_mk, TYI_mk, TYB_mk, TYP_mk, TYL_mk, TYS_mk, TYM_mk, SO_mk, NX_mk, endK_mk, endK_mk', add_0]
      refine ANDS_i (A4u v2 e2') ?_
      refine c_When (hCx v2 (gu4.trans e2')) fun v wlo whi we e qw => ?_
      try simp only [TUP_mk, AGG_mk, HD_mk, NL_mk, TYI_mk, TYB_mk, TYP_mk, TYL_mk, TYS_mk, TYM_mk, SO_mk, NX_mk, endK_mk, endK_mk', add_0]
      refine wrB (e.own o0) (e.own o1) rfl rfl fun v3 k3 st3 o0' o1' => ?_
      exact hJ16 v3 u4.size wlo whi we (ext_kp (e2'.trans e) (Nat.le_refl _) k3) qw o0' o1'
  refine ⟨_, _, _, g5X.o0.cell, ⟨_, g5X.o1.cell, ⟨_, _, _, g5X.o2.cell, ⟨_, _, _, g5X.o3.cell, ?_⟩⟩⟩⟩
  have hTw : ∀ u, Ext t5 u → TF s c x y z c1 c2 c3 p q s.size s7.size u := fun u e => hT u (g5.trans e)
  refine CONJ_two ?_ ?_
  · refine c_event hp (hTw t5 (Ext.refl _)).op.cell (hTw t5 (Ext.refl _)).o1.cell (by omega) (by omega) ?_
    try simp only [TUP_mk, AGG_mk, HD_mk, NL_mk, TYI_mk, TYB_mk, TYP_mk, TYL_mk, TYS_mk, TYM_mk, SO_mk, NX_mk, endK_mk, endK_mk', add_0]
    refine ANDS_i (A4 t5 (Ext.refl _)) (CONJ_two ?_ ?_)
    · refine c_event hp (hTw t5 (Ext.refl _)).op.cell (hTw t5 (Ext.refl _)).o1.cell (by omega) (by omega) ?_
      try simp only [TUP_mk, AGG_mk, HD_mk, NL_mk, TYI_mk, TYB_mk, TYP_mk, TYL_mk, TYS_mk, TYM_mk, SO_mk, NX_mk, endK_mk, endK_mk', add_0]
      refine ANDS_i (A4 t5 (Ext.refl _)) (CONJ_two ?_ ?_)
      · refine c_Lasted (hCx t5 g5) fun v ulo uhi ue e qu => ?_
        try simp only [TUP_mk, AGG_mk, HD_mk, NL_mk, TYI_mk, TYB_mk, TYP_mk, TYL_mk, TYS_mk, TYM_mk, SO_mk, NX_mk, endK_mk, endK_mk', add_0]
        refine nz2 zc_34 fun v2 e2' st2 o0 o1 => ?_
        refine ANDS_i (A4 v2 (e.trans e2')) (wrB o0 o1 rfl rfl fun v3 k3 st3 o0' o1' => ?_)
        exact hJ17 v3 v.size ulo uhi ue (ext_kp (e.trans e2') e.1 k3) qu o0' o1'
      · refine nz2 zc_34 fun v2 e2' st2 o0 o1 => ?_
        refine ANDS_i (A4 v2 e2') ?_
        refine c_Lasted (hCx v2 (g5.trans e2')) fun v ulo uhi ue e qu => ?_
        try simp only [TUP_mk, AGG_mk, HD_mk, NL_mk, TYI_mk, TYB_mk, TYP_mk, TYL_mk, TYS_mk, TYM_mk, SO_mk, NX_mk, endK_mk, endK_mk', add_0]
        refine wrB (e.own o0) (e.own o1) rfl rfl fun v3 k3 st3 o0' o1' => ?_
        exact hJ17 v3 t5.size ulo uhi ue (ext_kp (e2'.trans e) (Nat.le_refl _) k3) qu o0' o1'
    · refine nz2 zc_34 fun v2 e2' st2 o0 o1 => ?_
      refine ANDS_i (A4 v2 e2') ?_
      refine c_event hp (hTw v2 e2').op.cell (hTw v2 e2').o1.cell (by omega) (by omega) ?_
      try simp only [TUP_mk, AGG_mk, HD_mk, NL_mk, TYI_mk, TYB_mk, TYP_mk, TYL_mk, TYS_mk, TYM_mk, SO_mk, NX_mk, endK_mk, endK_mk', add_0]
      refine ANDS_i (A4 v2 e2') ?_
      refine c_Lasted (hCx v2 (g5.trans e2')) fun v ulo uhi ue e qu => ?_
      try simp only [TUP_mk, AGG_mk, HD_mk, NL_mk, TYI_mk, TYB_mk, TYP_mk, TYL_mk, TYS_mk, TYM_mk, SO_mk, NX_mk, endK_mk, endK_mk', add_0]
      refine wrB (e.own o0) (e.own o1) rfl rfl fun v3 k3 st3 o0' o1' => ?_
      exact hJ17 v3 t5.size ulo uhi ue (ext_kp (e2'.trans e) (Nat.le_refl _) k3) qu o0' o1'
  · refine nz2 zc_34 fun v2 e2' st2 o0 o1 => ?_
    refine ANDS_i (A4 v2 e2') ?_
    refine c_event hp (hTw v2 e2').op.cell (hTw v2 e2').o1.cell (by omega) (by omega) ?_
    try simp only [TUP_mk, AGG_mk, HD_mk, NL_mk, TYI_mk, TYB_mk, TYP_mk, TYL_mk, TYS_mk, TYM_mk, SO_mk, NX_mk, endK_mk, endK_mk', add_0]
    refine ANDS_i (A4 v2 e2') ?_
    refine c_event hp (hTw v2 e2').op.cell (hTw v2 e2').o1.cell (by omega) (by omega) ?_
    try simp only [TUP_mk, AGG_mk, HD_mk, NL_mk, TYI_mk, TYB_mk, TYP_mk, TYL_mk, TYS_mk, TYM_mk, SO_mk, NX_mk, endK_mk, endK_mk', add_0]
    refine ANDS_i (A4 v2 e2') ?_
    refine c_Lasted (hCx v2 (g5.trans e2')) fun v ulo uhi ue e qu => ?_
    try simp only [TUP_mk, AGG_mk, HD_mk, NL_mk, TYI_mk, TYB_mk, TYP_mk, TYL_mk, TYS_mk, TYM_mk, SO_mk, NX_mk, endK_mk, endK_mk', add_0]
    refine wrB (e.own o0) (e.own o1) rfl rfl fun v3 k3 st3 o0' o1' => ?_
    exact hJ17 v3 t5.size ulo uhi ue (ext_kp (e2'.trans e) (Nat.le_refl _) k3) qu o0' o1'
end
end Go.Proofs.Ytknpmijgdfeliaa.G

/- ClockTurned, from any arguments. -/
namespace Go.Proofs.Ytknpmijgdfeliaa.G
open Go.V
theorem v_ClockTurned {W : World} {s : Hp} {v0 v1 v2 v3 v4 : Value} (k0 : RdV Pg s 26 v0) (k1 : RdV Pg s 3 v1) (k2 : RdV Pg s 3 v2) (k3 : RdV Pg s 5 v3) (k4 : RdV Pg s 5 v4) : CALL Pg W F_law07_ClockTurned [v0, v1, v2, v3, v4] (fun v s' => v = .bool true ∧ Ext s s') (fun _ _ => False) s := by
  obtain ⟨c, x, y, z, c1, c2, c3, rfl, hc⟩ := clk_rd k0
  obtain ⟨a, rfl⟩ := int_rd k1
  obtain ⟨b, rfl⟩ := int_rd k2
  obtain ⟨p, rfl, hp⟩ := u8_rd k3
  obtain ⟨q, rfl, hq⟩ := u8_rd k4
  exact w_ClockTurned hp hq hc fun s' e => ⟨rfl, e⟩
end Go.Proofs.Ytknpmijgdfeliaa.G

/- The row of the statement ClockTurned. -/
namespace Go.Proofs.Ytknpmijgdfeliaa.clockTurned
open Go.ChangeShapes Go.WideShapes Go.ChangeAt Go.RowKit Go.V
set_option linter.unusedVariables false
theorem own : ownKnob Try.prog.godebug = none := by kernel_rfl
theorem laidOut : laidOutB Try.prog = true := by kernel_rfl
set_option maxRecDepth 100000 in
theorem lifted (os : Os) (started : os.Started) (H : Type) (enc : TypeId × Value → H) :
    ReturnsInHanded {} Try.checked os 7 .any (Rows.clockTurnedSpec.pre6 enc Try.prog Try.f7 Rows.clockTurnedRow.domain false) (Rows.clockTurnedSpec.post enc Try.prog Try.f7 false true false false) := by
  refine returnsInHanded_of_change_sized (C := Try.checked) own started (by kernel_rfl) Try.func7
    (ChangeSpec.witness6 (enc := enc) (C := Try.checked) false ⟨#[], #[(.agg #[(.slice none 0 0), (.int .i64 0), (.slice none 0 0), (.slice none 0 0)]), (.int .i64 0), (.int .i64 0), (.int .u8 0), (.int .u8 0)], []⟩ 8 (by kernel_rfl) (by kernel_rfl) (by kernel_rfl) (by kernel_rfl)) ?_
  intro W base args ds gs before hval0 hW hcnd hsz0 _
  have hsz : (DataW.weightsEach Try.prog (Try.f7.params.toList ++ Rows.clockTurnedSpec.plain.varTypes Try.prog) (ds ++ gs)).all (· ≤ reachBytes) = true := hsz0
  have hval : ∀ (j : Nat) t v, Try.f7.params[j]? = some t → args[j]? = some v → Value.okWide Try.prog W .any base t v := hval0
  have hW' := hW
  obtain ⟨p, q, hA0, hV, rfl, hfz, hnd⟩ := hW
  have hA : DataW.TrodAll enc Try.prog W 0 (fun _ => true) true Try.f7.params.toList args.toList ds p := hA0
  rw [Try.params7] at hA hval hsz
  obtain ⟨v0, vs0, d0, ds0, p0, q0, hargs, rfl, rfl, h0, r0⟩ := trodAll_cons hA
  obtain ⟨v1, vs1, d1, ds1, p1, q1, rfl, rfl, rfl, h1, r1⟩ := trodAll_cons r0
  obtain ⟨v2, vs2, d2, ds2, p2, q2, rfl, rfl, rfl, h2, r2⟩ := trodAll_cons r1
  obtain ⟨v3, vs3, d3, ds3, p3, q3, rfl, rfl, rfl, h3, r3⟩ := trodAll_cons r2
  obtain ⟨v4, vs4, d4, ds4, p4, q4, rfl, rfl, rfl, h4, r4⟩ := trodAll_cons r3
  obtain ⟨rfl, rfl, rfl⟩ := trodAll_nil r4
  obtain rfl : args = #[v0, v1, v2, v3, v4] := by cases args; simp_all
  obtain ⟨rfl, rfl⟩ := trodVars_none hV
  have k0 := trod_rdV (hval 0 26 v0 rfl rfl) h0
  have lt0 : ∀ x ∈ p0, x.block < W.heap.size := by obtain ⟨m, hm⟩ := h0; exact DataW.trod_lt m _ _ _ hm
  have k1 := trod_rdV (hval 1 3 v1 rfl rfl) h1
  have lt1 : ∀ x ∈ p1, x.block < W.heap.size := by obtain ⟨m, hm⟩ := h1; exact DataW.trod_lt m _ _ _ hm
  have k2 := trod_rdV (hval 2 3 v2 rfl rfl) h2
  have lt2 : ∀ x ∈ p2, x.block < W.heap.size := by obtain ⟨m, hm⟩ := h2; exact DataW.trod_lt m _ _ _ hm
  have k3 := trod_rdV (hval 3 5 v3 rfl rfl) h3
  have lt3 : ∀ x ∈ p3, x.block < W.heap.size := by obtain ⟨m, hm⟩ := h3; exact DataW.trod_lt m _ _ _ hm
  have k4 := trod_rdV (hval 4 5 v4 rfl rfl) h4
  have lt4 : ∀ x ∈ p4, x.block < W.heap.size := by obtain ⟨m, hm⟩ := h4; exact DataW.trod_lt m _ _ _ hm
  refine (calls_of_does (does_of_call (G.v_ClockTurned (W := W) (s := W.heap) k0 k1 k2 k3 k4))).mono fun e W' ⟨he, bel⟩ => ?_
  subst he
  exact ⟨_, rfl, _, _, _, [], _, [], hW', trodAll_mk1 (shut_bool Try.underlying4 _), (trodAll_cons_mk (Below.trod laidOut (by kernel_rfl) (of_decide_eq_true (by kernel_rfl)) h0 bel lt0) (trodAll_cons_mk (Below.trod laidOut (by kernel_rfl) (of_decide_eq_true (by kernel_rfl)) h1 bel lt1) (trodAll_cons_mk (Below.trod laidOut (by kernel_rfl) (of_decide_eq_true (by kernel_rfl)) h2 bel lt2) (trodAll_cons_mk (Below.trod laidOut (by kernel_rfl) (of_decide_eq_true (by kernel_rfl)) h3 bel lt3) (trodAll_cons_mk (Below.trod laidOut (by kernel_rfl) (of_decide_eq_true (by kernel_rfl)) h4 bel lt4) trodAll_mk0))))), rfl, bel.frame _, fun h => by cases h⟩
theorem over : Rows.clockTurnedRow.holds Try.pinned (OpenSpec.ofChange Rows.clockTurnedSpec) :=
  OpenClaim.holds_of_wide 7 Try.f7 rfl rfl rfl rfl rfl rfl rfl ⟨rfl, rfl, rfl, rfl, rfl⟩ rfl rfl rfl rfl rfl (by kernel_rfl) Try.func7 (by kernel_rfl)
    (of_decide_eq_true (by kernel_rfl)) (by unfold Func.isWrapper; first | (rw [if_pos (by decide +kernel)]; kernel_rfl) | (rw [if_neg (by decide +kernel)]; exact ⟨rfl, rfl⟩))
    (fun os started H enc _ => lifted os started H enc)
theorem proved : Rows.ClockTurnedSaid := over
end Go.Proofs.Ytknpmijgdfeliaa.clockTurned
namespace Go.Proofs.Ytknpmijgdfeliaa
/-- The row, under a short name. -/
theorem clockTurned_holds : Rows.ClockTurnedSaid := clockTurned.proved
end Go.Proofs.Ytknpmijgdfeliaa
