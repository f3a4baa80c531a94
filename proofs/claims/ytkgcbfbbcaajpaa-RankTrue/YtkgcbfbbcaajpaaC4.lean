import Derived.Test.YtkgcbfbbcaajpaaC3
/- Whatever scores truly are, sums and places are within what is told, and with all scores read just this is told: the statement RankTrue holds for every input, with no condition. -/
/- More of the functions' shallow texts, by gen.py. -/
set_option linter.unusedVariables false
set_option maxRecDepth 100000
namespace Go.Proofs.Ytkgcbfbbcaajpaa.G
open Go.V
def an_5 : Nat → Ann := fun b => match b with
  | 0 => { ms := [4, 74], ks := [.b, .i .i64], us := [2, 5, 6, 7, 8, 10, 73, 278], rt := false, ex := [] }
  | 2 => { ms := [14, 88], ks := [.i .i64, .i .i64], us := [2, 4, 5, 6, 7, 8, 10, 13, 15, 73, 74, 86, 87, 278], rt := false, ex := [] }
  | 4 => { ms := [4, 15, 98], ks := [.b, .i .i64, .i .i64], us := [2, 5, 6, 7, 8, 10, 13, 14, 73, 74, 97, 278], rt := false, ex := [] }
  | _ => {}
abbrev rv_5 : List ResultVar := [.tmp 4]
abbrev rs_5 : List Nat := [278, 4]
def L_law10_RankTrue_0 (W : World) (R : Ending → Hp → Prop) (za0 : Addr) (za1 : Addr) (zp2 : Option Addr) (zl3 : Nat) (zl4 : Nat) (zn5 : Int) (zn6 : Int) (zn7 : Int) (zn8 : Int) (b118 : Bool) (n119 : Int) : Hp → Prop :=
  LOOPN [.b, .i .i64] (fun ys next s => ∀ j : Tm, vc Pg W 278 rs_5 an_5 false (sub (bodyOf Try.f5) [1, 1, 1, 1, 1, 1, 0, 1, 0, 0]) 0 (KLoop [4, 74] [2, 5, 6, 7, 8, 10, 73, 278] [(.pointer (some za0)), (.pointer (some za1)), (.slice zp2 zl3 zl4), (.int .i64 zn5), (.int .i64 zn6), (.int .i64 zn7), (.int .i64 zn8), (.tuple #[])] next (KBlk 0 (KS Pg W 278 rs_5 an_5 false (sub (bodyOf Try.f5) [1, 1, 1, 1, 1, 1, 1]) 0 (fin Pg W 278 rv_5 R)))) (known [4, 74] ys (known [2, 5, 6, 7, 8, 10, 73, 278] [(.pointer (some za0)), (.pointer (some za1)), (.slice zp2 zl3 zl4), (.int .i64 zn5), (.int .i64 zn6), (.int .i64 zn7), (.int .i64 zn8), (.tuple #[])] j)) s) [(.bool b118), (.int .i64 n119)]
def L_law10_RankTrue_1 (W : World) (R : Ending → Hp → Prop) (nx0 : List Value → Hp → Prop) (za0 : Addr) (zb1 : Bool) (za2 : Addr) (zp3 : Option Addr) (zl4 : Nat) (zl5 : Nat) (zn6 : Int) (zn7 : Int) (zn8 : Int) (zn9 : Int) (zn10 : Int) (zp11 : Option Addr) (zl12 : Nat) (zl13 : Nat) (zn14 : Int) (n132 : Int) (n133 : Int) : Hp → Prop :=
  LOOPN [.i .i64, .i .i64] (fun ys next s => ∀ j : Tm, vc Pg W 278 rs_5 an_5 false (sub (bodyOf Try.f5) [1, 1, 1, 1, 1, 1, 0, 1, 0, 0, 1, 1, 0, 0, 1, 1, 0, 1, 0, 0]) 2 (KLoop [14, 88] [2, 4, 5, 6, 7, 8, 10, 13, 15, 73, 74, 86, 87, 278] [(.pointer (some za0)), (.bool zb1), (.pointer (some za2)), (.slice zp3 zl4 zl5), (.int .i64 zn6), (.int .i64 zn7), (.int .i64 zn8), (.int .i64 zn9), (.int .i64 1), (.int .i64 zn10), (.int .i64 zn9), (.slice zp11 zl12 zl13), (.int .i64 zn14), (.tuple #[])] next (KBlk 2 (KS Pg W 278 rs_5 an_5 false (sub (bodyOf Try.f5) [1, 1, 1, 1, 1, 1, 0, 1, 0, 0, 1, 1, 0, 0, 1, 1, 1]) 1 (KBlk 1 (KS Pg W 278 rs_5 an_5 false (sub (bodyOf Try.f5) [1, 1, 1, 1, 1, 1, 0, 1, 0, 0, 1, 1, 1]) 0 (KLoop [4, 74] [2, 5, 6, 7, 8, 10, 73, 278] [(.pointer (some za0)), (.pointer (some za2)), (.slice zp3 zl4 zl5), (.int .i64 zn6), (.int .i64 zn7), (.int .i64 zn8), (.int .i64 zn10), (.tuple #[])] nx0 (KBlk 0 (KS Pg W 278 rs_5 an_5 false (sub (bodyOf Try.f5) [1, 1, 1, 1, 1, 1, 1]) 0 (fin Pg W 278 rv_5 R))))))))) (known [14, 88] ys (known [2, 4, 5, 6, 7, 8, 10, 13, 15, 73, 74, 86, 87, 278] [(.pointer (some za0)), (.bool zb1), (.pointer (some za2)), (.slice zp3 zl4 zl5), (.int .i64 zn6), (.int .i64 zn7), (.int .i64 zn8), (.int .i64 zn9), (.int .i64 1), (.int .i64 zn10), (.int .i64 zn9), (.slice zp11 zl12 zl13), (.int .i64 zn14), (.tuple #[])] j)) s) [(.int .i64 n132), (.int .i64 n133)]
def L_law10_RankTrue_2 (W : World) (R : Ending → Hp → Prop) (nx0 : List Value → Hp → Prop) (za0 : Addr) (za1 : Addr) (zp2 : Option Addr) (zl3 : Nat) (zl4 : Nat) (zn5 : Int) (zn6 : Int) (zn7 : Int) (zn8 : Int) (zn9 : Int) (zn10 : Int) (zn11 : Int) (b137 : Bool) (n138 : Int) (n139 : Int) : Hp → Prop :=
  LOOPN [.b, .i .i64, .i .i64] (fun ys next s => ∀ j : Tm, vc Pg W 278 rs_5 an_5 false (sub (bodyOf Try.f5) [1, 1, 1, 1, 1, 1, 0, 1, 0, 0, 1, 1, 0, 0, 1, 1, 1, 0, 1, 0, 0]) 4 (KLoop [4, 15, 98] [2, 5, 6, 7, 8, 10, 13, 14, 73, 74, 97, 278] [(.pointer (some za0)), (.pointer (some za1)), (.slice zp2 zl3 zl4), (.int .i64 zn5), (.int .i64 zn6), (.int .i64 zn7), (.int .i64 zn8), (.int .i64 zn9), (.int .i64 zn10), (.int .i64 zn8), (.int .i64 zn11), (.tuple #[])] next (KBlk 4 (KS Pg W 278 rs_5 an_5 false (sub (bodyOf Try.f5) [1, 1, 1, 1, 1, 1, 0, 1, 0, 0, 1, 1, 0, 0, 1, 1, 1, 1]) 1 (KBlk 1 (KS Pg W 278 rs_5 an_5 false (sub (bodyOf Try.f5) [1, 1, 1, 1, 1, 1, 0, 1, 0, 0, 1, 1, 1]) 0 (KLoop [4, 74] [2, 5, 6, 7, 8, 10, 73, 278] [(.pointer (some za0)), (.pointer (some za1)), (.slice zp2 zl3 zl4), (.int .i64 zn5), (.int .i64 zn6), (.int .i64 zn7), (.int .i64 zn10), (.tuple #[])] nx0 (KBlk 0 (KS Pg W 278 rs_5 an_5 false (sub (bodyOf Try.f5) [1, 1, 1, 1, 1, 1, 1]) 0 (fin Pg W 278 rv_5 R))))))))) (known [4, 15, 98] ys (known [2, 5, 6, 7, 8, 10, 13, 14, 73, 74, 97, 278] [(.pointer (some za0)), (.pointer (some za1)), (.slice zp2 zl3 zl4), (.int .i64 zn5), (.int .i64 zn6), (.int .i64 zn7), (.int .i64 zn8), (.int .i64 zn9), (.int .i64 zn10), (.int .i64 zn8), (.int .i64 zn11), (.tuple #[])] j)) s) [(.bool b137), (.int .i64 n138), (.int .i64 n139)]
def J_law10_RankTrue_0 (W : World) (R : Ending → Hp → Prop) (b105 : Bool) (B12 : Nat) (B63 : Nat) (x60 : Option Addr) (l61 : Nat) (c62 : Nat) (n77 : Int) (n80 : Int) (n97 : Int) : Hp → Prop :=
  BR b105
    (R (.returned (.bool false)))
    (RDI .i64 (Addr.add ⟨B12, 0, none⟩ 0) fun n106 =>
      L_law10_RankTrue_0 W R ⟨B12, 0, none⟩ ⟨B63, 0, none⟩ x60 l61 c62 n77 n80 n97 n106 false 0)
def J_law10_RankTrue_1 (W : World) (R : Ending → Hp → Prop) (b104 : Bool) (B12 : Nat) (B63 : Nat) (x60 : Option Addr) (l61 : Nat) (c62 : Nat) (n77 : Int) (n80 : Int) (n97 : Int) (n100 : Int) : Hp → Prop :=
  BR b104
    (J_law10_RankTrue_0 W R true B12 B63 x60 l61 c62 n77 n80 n97)
    (J_law10_RankTrue_0 W R (n97 != n100) B12 B63 x60 l61 c62 n77 n80 n97)
def J_law10_RankTrue_2 (W : World) (R : Ending → Hp → Prop) (b24 : Bool) (B12 : Nat) (x9 : Option Addr) (l10 : Nat) (c11 : Nat) : Hp → Prop :=
  BR b24
    (CALL Pg W F_law10_awake []
      (fun v25 => TYB v25 fun b27 =>
        R (.returned (.bool b27)))
        (fun e26 => R (.panicked e26)))
    (RDI .i64 (Addr.add ⟨B12, 0, none⟩ 0) fun n28 =>
      RDI .i64 (Addr.add ⟨B12, 0, none⟩ 1) fun n29 =>
        RDL (Addr.add ⟨B12, 0, none⟩ 2) fun x30 l31 c32 =>
          RDL (Addr.add ⟨B12, 0, none⟩ 3) fun x33 l34 c35 =>
            CALL Pg W F_law10_filled [(.agg #[(.int .i64 n28), (.int .i64 n29), (.slice x30 l31 c32), (.slice x33 l34 c35)]), (.slice x9 l10 c11)]
              (fun v36 => TUP v36 fun q38 => HD q38 fun v39 r40 => AGG v39 fun q41 => HD q41 fun v42 r43 => TYI .i64 v42 fun n44 =>
                HD r43 fun v45 r46 => TYI .i64 v45 fun n47 =>
                  HD r46 fun v48 r49 => TYL v48 fun x50 l51 c52 =>
                    HD r49 fun v53 r54 => TYL v53 fun x55 l56 c57 =>
                      NL r54 <|
                        HD r40 fun v58 r59 => TYL v58 fun x60 l61 c62 =>
                          NL r59 <|
                            NEWZ Pg 25 fun B63 =>
                              WR (Addr.add ⟨B63, 0, none⟩ 0) (.int .i64 n44) <|
                                WR (Addr.add ⟨B63, 0, none⟩ 1) (.int .i64 n47) <|
                                  WR (Addr.add ⟨B63, 0, none⟩ 2) (.slice x50 l51 c52) <|
                                    WR (Addr.add ⟨B63, 0, none⟩ 3) (.slice x55 l56 c57) <|
                                      RDI .i64 (Addr.add ⟨B12, 0, none⟩ 0) fun n64 =>
                                        RDI .i64 (Addr.add ⟨B12, 0, none⟩ 1) fun n65 =>
                                          RDL (Addr.add ⟨B12, 0, none⟩ 2) fun x66 l67 c68 =>
                                            RDL (Addr.add ⟨B12, 0, none⟩ 3) fun x69 l70 c71 =>
                                              CALL Pg W F_rank_Winners [(.agg #[(.int .i64 n64), (.int .i64 n65), (.slice x66 l67 c68), (.slice x69 l70 c71)])]
                                                (fun v72 => TUP v72 fun q74 => HD q74 fun v75 r76 => TYI .i64 v75 fun n77 =>
                                                  HD r76 fun v78 r79 => TYI .i64 v78 fun n80 =>
                                                    HD r79 fun v81 r82 => TYI .i64 v81 fun n83 =>
                                                      NL r82 <|
                                                        RDI .i64 (Addr.add ⟨B63, 0, none⟩ 0) fun n84 =>
                                                          RDI .i64 (Addr.add ⟨B63, 0, none⟩ 1) fun n85 =>
                                                            RDL (Addr.add ⟨B63, 0, none⟩ 2) fun x86 l87 c88 =>
                                                              RDL (Addr.add ⟨B63, 0, none⟩ 3) fun x89 l90 c91 =>
                                                                CALL Pg W F_rank_Winners [(.agg #[(.int .i64 n84), (.int .i64 n85), (.slice x86 l87 c88), (.slice x89 l90 c91)])]
                                                                  (fun v92 => TUP v92 fun q94 => HD q94 fun v95 r96 => TYI .i64 v95 fun n97 =>
                                                                    HD r96 fun v98 r99 => TYI .i64 v98 fun n100 =>
                                                                      HD r99 fun v101 r102 => TYI .i64 v101 fun n103 =>
                                                                        NL r102 <|
                                                                          BR (n83 != 0)
                                                                            (J_law10_RankTrue_1 W R true B12 B63 x60 l61 c62 n77 n80 n97 n100)
                                                                            (J_law10_RankTrue_1 W R (n103 != 0) B12 B63 x60 l61 c62 n77 n80 n97 n100))
                                                                    (fun e93 => R (.panicked e93)))
                                                  (fun e73 => R (.panicked e73)))
                (fun e37 => R (.panicked e37)))
def J_law10_RankTrue_3 (W : World) (R : Ending → Hp → Prop) (b228 : Bool) (za0 : Addr) (za1 : Addr) (zp2 : Option Addr) (zl3 : Nat) (zl4 : Nat) (zn5 : Int) (zn6 : Int) (zn7 : Int) (zn8 : Int) (zn9 : Int) (zn10 : Int) (zn11 : Int) (nx2 : List Value → Hp → Prop) (b137 : Bool) (n151 : Int) (n139 : Int) : Hp → Prop :=
  BR b228
    (R (.returned (.bool false)))
    (NX [(.pointer (some za0)), (.pointer (some za1)), (.slice zp2 zl3 zl4), (.int .i64 zn5), (.int .i64 zn6), (.int .i64 zn7), (.int .i64 zn8), (.int .i64 zn9), (.int .i64 zn10), (.int .i64 zn8), (.int .i64 zn11), (.tuple #[])] [(.pointer (some za0)), (.pointer (some za1)), (.slice zp2 zl3 zl4), (.int .i64 zn5), (.int .i64 zn6), (.int .i64 zn7), (.int .i64 zn8), (.int .i64 zn9), (.int .i64 zn10), (.int .i64 zn8), (.int .i64 zn11), (.tuple #[])] (nx2 [(.bool b137), (.int .i64 n151), (.int .i64 (IntKind.wrap .i64 (n139 + 1)))]))
def J_law10_RankTrue_4 (W : World) (R : Ending → Hp → Prop) (b227 : Bool) (za0 : Addr) (za1 : Addr) (zp2 : Option Addr) (zl3 : Nat) (zl4 : Nat) (zn5 : Int) (zn6 : Int) (zn7 : Int) (zn8 : Int) (zn9 : Int) (zn10 : Int) (zn11 : Int) (nx2 : List Value → Hp → Prop) (b137 : Bool) (n151 : Int) (n139 : Int) (b216 : Bool) (n150 : Int) : Hp → Prop :=
  BR b227
    (J_law10_RankTrue_3 W R true za0 za1 zp2 zl3 zl4 zn5 zn6 zn7 zn8 zn9 zn10 zn11 nx2 b137 n151 n139)
    (J_law10_RankTrue_3 W R (!(b216 == (n150 == 0))) za0 za1 zp2 zl3 zl4 zn5 zn6 zn7 zn8 zn9 zn10 zn11 nx2 b137 n151 n139)
def J_law10_RankTrue_5 (W : World) (R : Ending → Hp → Prop) (b226 : Bool) (za0 : Addr) (za1 : Addr) (zp2 : Option Addr) (zl3 : Nat) (zl4 : Nat) (zn5 : Int) (zn6 : Int) (zn7 : Int) (zn8 : Int) (zn9 : Int) (zn10 : Int) (zn11 : Int) (nx2 : List Value → Hp → Prop) (b137 : Bool) (n151 : Int) (n139 : Int) (b216 : Bool) (n150 : Int) (n219 : Int) : Hp → Prop :=
  BR b226
    (J_law10_RankTrue_4 W R true za0 za1 zp2 zl3 zl4 zn5 zn6 zn7 zn8 zn9 zn10 zn11 nx2 b137 n151 n139 b216 n150)
    (J_law10_RankTrue_4 W R (n219 != 0) za0 za1 zp2 zl3 zl4 zn5 zn6 zn7 zn8 zn9 zn10 zn11 nx2 b137 n151 n139 b216 n150)
def J_law10_RankTrue_6 (W : World) (R : Ending → Hp → Prop) (b225 : Bool) (za0 : Addr) (za1 : Addr) (zp2 : Option Addr) (zl3 : Nat) (zl4 : Nat) (zn5 : Int) (zn6 : Int) (zn7 : Int) (zn8 : Int) (zn9 : Int) (zn10 : Int) (zn11 : Int) (nx2 : List Value → Hp → Prop) (b137 : Bool) (n151 : Int) (n139 : Int) (b216 : Bool) (n150 : Int) (n219 : Int) (b199 : Bool) : Hp → Prop :=
  BR b225
    (J_law10_RankTrue_5 W R true za0 za1 zp2 zl3 zl4 zn5 zn6 zn7 zn8 zn9 zn10 zn11 nx2 b137 n151 n139 b216 n150 n219)
    (BR (n150 == 0)
      (J_law10_RankTrue_5 W R (!b199) za0 za1 zp2 zl3 zl4 zn5 zn6 zn7 zn8 zn9 zn10 zn11 nx2 b137 n151 n139 b216 n150 n219)
      (J_law10_RankTrue_5 W R false za0 za1 zp2 zl3 zl4 zn5 zn6 zn7 zn8 zn9 zn10 zn11 nx2 b137 n151 n139 b216 n150 n219))
def J_law10_RankTrue_7 (W : World) (R : Ending → Hp → Prop) (b224 : Bool) (za0 : Addr) (za1 : Addr) (zp2 : Option Addr) (zl3 : Nat) (zl4 : Nat) (zn5 : Int) (zn6 : Int) (zn7 : Int) (zn8 : Int) (zn9 : Int) (zn10 : Int) (zn11 : Int) (nx2 : List Value → Hp → Prop) (b137 : Bool) (n151 : Int) (n139 : Int) (b216 : Bool) (n150 : Int) (n219 : Int) (b199 : Bool) (n202 : Int) : Hp → Prop :=
  BR b224
    (J_law10_RankTrue_6 W R true za0 za1 zp2 zl3 zl4 zn5 zn6 zn7 zn8 zn9 zn10 zn11 nx2 b137 n151 n139 b216 n150 n219 b199)
    (J_law10_RankTrue_6 W R (n202 != 0) za0 za1 zp2 zl3 zl4 zn5 zn6 zn7 zn8 zn9 zn10 zn11 nx2 b137 n151 n139 b216 n150 n219 b199)
def J_law10_RankTrue_8 (W : World) (R : Ending → Hp → Prop) (b223 : Bool) (za0 : Addr) (za1 : Addr) (zp2 : Option Addr) (zl3 : Nat) (zl4 : Nat) (zn5 : Int) (zn6 : Int) (zn7 : Int) (zn8 : Int) (zn9 : Int) (zn10 : Int) (zn11 : Int) (nx2 : List Value → Hp → Prop) (b137 : Bool) (n151 : Int) (n139 : Int) (b216 : Bool) (n150 : Int) (n219 : Int) (b199 : Bool) (n202 : Int) (n182 : Int) : Hp → Prop :=
  BR b223
    (J_law10_RankTrue_7 W R true za0 za1 zp2 zl3 zl4 zn5 zn6 zn7 zn8 zn9 zn10 zn11 nx2 b137 n151 n139 b216 n150 n219 b199 n202)
    (J_law10_RankTrue_7 W R (!((n182 == 0) == (n150 != 1))) za0 za1 zp2 zl3 zl4 zn5 zn6 zn7 zn8 zn9 zn10 zn11 nx2 b137 n151 n139 b216 n150 n219 b199 n202)
def J_law10_RankTrue_9 (W : World) (R : Ending → Hp → Prop) (b222 : Bool) (za0 : Addr) (za1 : Addr) (zp2 : Option Addr) (zl3 : Nat) (zl4 : Nat) (zn5 : Int) (zn6 : Int) (zn7 : Int) (zn8 : Int) (zn9 : Int) (zn10 : Int) (zn11 : Int) (nx2 : List Value → Hp → Prop) (b137 : Bool) (n151 : Int) (n139 : Int) (b216 : Bool) (n150 : Int) (n219 : Int) (b199 : Bool) (n202 : Int) (n182 : Int) : Hp → Prop :=
  BR b222
    (J_law10_RankTrue_8 W R true za0 za1 zp2 zl3 zl4 zn5 zn6 zn7 zn8 zn9 zn10 zn11 nx2 b137 n151 n139 b216 n150 n219 b199 n202 n182)
    (J_law10_RankTrue_8 W R (!((n182 == 2) == (n150 == 1))) za0 za1 zp2 zl3 zl4 zn5 zn6 zn7 zn8 zn9 zn10 zn11 nx2 b137 n151 n139 b216 n150 n219 b199 n202 n182)
def J_law10_RankTrue_10 (W : World) (R : Ending → Hp → Prop) (b221 : Bool) (za0 : Addr) (za1 : Addr) (zp2 : Option Addr) (zl3 : Nat) (zl4 : Nat) (zn5 : Int) (zn6 : Int) (zn7 : Int) (zn8 : Int) (zn9 : Int) (zn10 : Int) (zn11 : Int) (nx2 : List Value → Hp → Prop) (b137 : Bool) (n151 : Int) (n139 : Int) (b216 : Bool) (n150 : Int) (n219 : Int) (b199 : Bool) (n202 : Int) (n182 : Int) (n185 : Int) : Hp → Prop :=
  BR b221
    (J_law10_RankTrue_9 W R true za0 za1 zp2 zl3 zl4 zn5 zn6 zn7 zn8 zn9 zn10 zn11 nx2 b137 n151 n139 b216 n150 n219 b199 n202 n182)
    (J_law10_RankTrue_9 W R (n185 != 0) za0 za1 zp2 zl3 zl4 zn5 zn6 zn7 zn8 zn9 zn10 zn11 nx2 b137 n151 n139 b216 n150 n219 b199 n202 n182)
def J_law10_RankTrue_11 (W : World) (R : Ending → Hp → Prop) (b220 : Bool) (za0 : Addr) (za1 : Addr) (zp2 : Option Addr) (zl3 : Nat) (zl4 : Nat) (zn5 : Int) (zn6 : Int) (zn7 : Int) (zn8 : Int) (zn9 : Int) (zn10 : Int) (zn11 : Int) (nx2 : List Value → Hp → Prop) (b137 : Bool) (n151 : Int) (n139 : Int) (b216 : Bool) (n150 : Int) (n219 : Int) (b199 : Bool) (n202 : Int) (n182 : Int) (n185 : Int) (n165 : Int) : Hp → Prop :=
  BR b220
    (J_law10_RankTrue_10 W R true za0 za1 zp2 zl3 zl4 zn5 zn6 zn7 zn8 zn9 zn10 zn11 nx2 b137 n151 n139 b216 n150 n219 b199 n202 n182 n185)
    (BR (n165 == 0)
      (J_law10_RankTrue_10 W R (n150 == 1) za0 za1 zp2 zl3 zl4 zn5 zn6 zn7 zn8 zn9 zn10 zn11 nx2 b137 n151 n139 b216 n150 n219 b199 n202 n182 n185)
      (J_law10_RankTrue_10 W R false za0 za1 zp2 zl3 zl4 zn5 zn6 zn7 zn8 zn9 zn10 zn11 nx2 b137 n151 n139 b216 n150 n219 b199 n202 n182 n185))
def J_law10_RankTrue_12 (W : World) (R : Ending → Hp → Prop) (za0 : Addr) (zn8 : Int) (n139 : Int) (za1 : Addr) (zp2 : Option Addr) (zl3 : Nat) (zl4 : Nat) (zn5 : Int) (zn6 : Int) (zn7 : Int) (zn9 : Int) (zn10 : Int) (zn11 : Int) (nx2 : List Value → Hp → Prop) (b137 : Bool) (n151 : Int) (n150 : Int) : Hp → Prop :=
  RDI .i64 (Addr.add za0 0) fun n152 =>
    RDI .i64 (Addr.add za0 1) fun n153 =>
      RDL (Addr.add za0 2) fun x154 l155 c156 =>
        RDL (Addr.add za0 3) fun x157 l158 c159 =>
          CALL Pg W F_rank_Before [(.agg #[(.int .i64 n152), (.int .i64 n153), (.slice x154 l155 c156), (.slice x157 l158 c159)]), (.int .i64 zn8), (.int .i64 n139)]
            (fun v160 => TUP v160 fun q162 => HD q162 fun v163 r164 => TYI .i64 v163 fun n165 =>
              HD r164 fun v166 r167 => TYI .i64 v166 fun n168 =>
                NL r167 <|
                  RDI .i64 (Addr.add za1 0) fun n169 =>
                    RDI .i64 (Addr.add za1 1) fun n170 =>
                      RDL (Addr.add za1 2) fun x171 l172 c173 =>
                        RDL (Addr.add za1 3) fun x174 l175 c176 =>
                          CALL Pg W F_rank_Before [(.agg #[(.int .i64 n169), (.int .i64 n170), (.slice x171 l172 c173), (.slice x174 l175 c176)]), (.int .i64 zn8), (.int .i64 n139)]
                            (fun v177 => TUP v177 fun q179 => HD q179 fun v180 r181 => TYI .i64 v180 fun n182 =>
                              HD r181 fun v183 r184 => TYI .i64 v183 fun n185 =>
                                NL r184 <|
                                  RDI .i64 (Addr.add za0 0) fun n186 =>
                                    RDI .i64 (Addr.add za0 1) fun n187 =>
                                      RDL (Addr.add za0 2) fun x188 l189 c190 =>
                                        RDL (Addr.add za0 3) fun x191 l192 c193 =>
                                          CALL Pg W F_rank_Equal [(.agg #[(.int .i64 n186), (.int .i64 n187), (.slice x188 l189 c190), (.slice x191 l192 c193)]), (.int .i64 zn8), (.int .i64 n139)]
                                            (fun v194 => TUP v194 fun q196 => HD q196 fun v197 r198 => TYB v197 fun b199 =>
                                              HD r198 fun v200 r201 => TYI .i64 v200 fun n202 =>
                                                NL r201 <|
                                                  RDI .i64 (Addr.add za1 0) fun n203 =>
                                                    RDI .i64 (Addr.add za1 1) fun n204 =>
                                                      RDL (Addr.add za1 2) fun x205 l206 c207 =>
                                                        RDL (Addr.add za1 3) fun x208 l209 c210 =>
                                                          CALL Pg W F_rank_Equal [(.agg #[(.int .i64 n203), (.int .i64 n204), (.slice x205 l206 c207), (.slice x208 l209 c210)]), (.int .i64 zn8), (.int .i64 n139)]
                                                            (fun v211 => TUP v211 fun q213 => HD q213 fun v214 r215 => TYB v214 fun b216 =>
                                                              HD r215 fun v217 r218 => TYI .i64 v217 fun n219 =>
                                                                NL r218 <|
                                                                  BR (n168 != 0)
                                                                    (J_law10_RankTrue_11 W R true za0 za1 zp2 zl3 zl4 zn5 zn6 zn7 zn8 zn9 zn10 zn11 nx2 b137 n151 n139 b216 n150 n219 b199 n202 n182 n185 n165)
                                                                    (BR (n165 == 2)
                                                                      (J_law10_RankTrue_11 W R (n150 != 1) za0 za1 zp2 zl3 zl4 zn5 zn6 zn7 zn8 zn9 zn10 zn11 nx2 b137 n151 n139 b216 n150 n219 b199 n202 n182 n185 n165)
                                                                      (J_law10_RankTrue_11 W R false za0 za1 zp2 zl3 zl4 zn5 zn6 zn7 zn8 zn9 zn10 zn11 nx2 b137 n151 n139 b216 n150 n219 b199 n202 n182 n185 n165)))
                                                              (fun e212 => R (.panicked e212)))
                                              (fun e195 => R (.panicked e195)))
                              (fun e178 => R (.panicked e178)))
              (fun e161 => R (.panicked e161))
def J_law10_RankTrue_13 (W : World) (R : Ending → Hp → Prop) (b353 : Bool) (za0 : Addr) (za1 : Addr) (zp2 : Option Addr) (zl3 : Nat) (zl4 : Nat) (zn5 : Int) (zn6 : Int) (zn7 : Int) (zn10 : Int) (nx0 : List Value → Hp → Prop) (b137 : Bool) (zn8 : Int) : Hp → Prop :=
  BR b353
    (R (.returned (.bool false)))
    (NX [(.pointer (some za0)), (.pointer (some za1)), (.slice zp2 zl3 zl4), (.int .i64 zn5), (.int .i64 zn6), (.int .i64 zn7), (.int .i64 zn10), (.tuple #[])] [(.pointer (some za0)), (.pointer (some za1)), (.slice zp2 zl3 zl4), (.int .i64 zn5), (.int .i64 zn6), (.int .i64 zn7), (.int .i64 zn10), (.tuple #[])] (nx0 [(.bool b137), (.int .i64 (IntKind.wrap .i64 (zn8 + 1)))]))
def J_law10_RankTrue_14 (W : World) (R : Ending → Hp → Prop) (b352 : Bool) (za0 : Addr) (za1 : Addr) (zp2 : Option Addr) (zl3 : Nat) (zl4 : Nat) (zn5 : Int) (zn6 : Int) (zn7 : Int) (zn10 : Int) (nx0 : List Value → Hp → Prop) (b137 : Bool) (zn8 : Int) (n138 : Int) : Hp → Prop :=
  BR b352
    (J_law10_RankTrue_13 W R true za0 za1 zp2 zl3 zl4 zn5 zn6 zn7 zn10 nx0 b137 zn8)
    (NNI zn8 <|
      BR ((andv .i64 (shrv .i64 zn6 zn8) 1) == 0)
        (J_law10_RankTrue_13 W R (n138 == 1) za0 za1 zp2 zl3 zl4 zn5 zn6 zn7 zn10 nx0 b137 zn8)
        (J_law10_RankTrue_13 W R false za0 za1 zp2 zl3 zl4 zn5 zn6 zn7 zn10 nx0 b137 zn8))
def J_law10_RankTrue_15 (W : World) (R : Ending → Hp → Prop) (b342 : Bool) (za0 : Addr) (za1 : Addr) (zp2 : Option Addr) (zl3 : Nat) (zl4 : Nat) (zn5 : Int) (zn6 : Int) (zn7 : Int) (zn10 : Int) (nx0 : List Value → Hp → Prop) (b137 : Bool) (zn8 : Int) (n138 : Int) : Hp → Prop :=
  BR b342
    (J_law10_RankTrue_14 W R true za0 za1 zp2 zl3 zl4 zn5 zn6 zn7 zn10 nx0 b137 zn8 n138)
    (NNI zn8 <|
      BR ((andv .i64 (shrv .i64 zn5 zn8) 1) == 1)
        (J_law10_RankTrue_14 W R (!(n138 == 1)) za0 za1 zp2 zl3 zl4 zn5 zn6 zn7 zn10 nx0 b137 zn8 n138)
        (J_law10_RankTrue_14 W R false za0 za1 zp2 zl3 zl4 zn5 zn6 zn7 zn10 nx0 b137 zn8 n138))
def J_law10_RankTrue_16 (W : World) (R : Ending → Hp → Prop) (b332 : Bool) (za0 : Addr) (za1 : Addr) (zp2 : Option Addr) (zl3 : Nat) (zl4 : Nat) (zn5 : Int) (zn6 : Int) (zn7 : Int) (zn10 : Int) (nx0 : List Value → Hp → Prop) (b137 : Bool) (zn8 : Int) (n138 : Int) : Hp → Prop :=
  BR b332
    (J_law10_RankTrue_15 W R true za0 za1 zp2 zl3 zl4 zn5 zn6 zn7 zn10 nx0 b137 zn8 n138)
    (NNI zn8 <|
      J_law10_RankTrue_15 W R (!(((andv .i64 (shrv .i64 zn7 zn8) 1) == 1) == (n138 == 1))) za0 za1 zp2 zl3 zl4 zn5 zn6 zn7 zn10 nx0 b137 zn8 n138)
def J_law10_RankTrue_17 (W : World) (R : Ending → Hp → Prop) (b322 : Bool) (za0 : Addr) (za1 : Addr) (zp2 : Option Addr) (zl3 : Nat) (zl4 : Nat) (zn5 : Int) (zn6 : Int) (zn7 : Int) (zn10 : Int) (nx0 : List Value → Hp → Prop) (b137 : Bool) (zn8 : Int) (n138 : Int) (B300 : Nat) : Hp → Prop :=
  BR b322
    (J_law10_RankTrue_16 W R true za0 za1 zp2 zl3 zl4 zn5 zn6 zn7 zn10 nx0 b137 zn8 n138)
    (RDI .i64 (Addr.add ⟨B300, 0, none⟩ 0) fun n354 =>
      RDI .i64 (Addr.add ⟨B300, 0, none⟩ 1) fun n355 =>
        CALL Pg W F_law10_span [(.int .i64 n138), (.int .i64 n138)]
          (fun v356 => AGG v356 fun q358 => HD q358 fun v359 r360 => TYI .i64 v359 fun n361 =>
            HD r360 fun v362 r363 => TYI .i64 v362 fun n364 =>
              NL r363 <|
                ANDS (RDI .i64 (Addr.add ⟨B300, 0, none⟩ 0) fun n367 =>
                  RDI .i64 (Addr.add ⟨B300, 0, none⟩ 1) fun n368 =>
                    fun _ => ((.agg #[(.int .i64 n367), (.int .i64 n368)]) : Value) = (.agg #[(.int .i64 n354), (.int .i64 n355)])) <|
                  J_law10_RankTrue_16 W R (!((n354 == n361) && (n355 == n364))) za0 za1 zp2 zl3 zl4 zn5 zn6 zn7 zn10 nx0 b137 zn8 n138)
            (fun e357 => R (.panicked e357)))
def J_law10_RankTrue_18 (W : World) (R : Ending → Hp → Prop) (b315 : Bool) (za0 : Addr) (za1 : Addr) (zp2 : Option Addr) (zl3 : Nat) (zl4 : Nat) (zn5 : Int) (zn6 : Int) (zn7 : Int) (zn10 : Int) (nx0 : List Value → Hp → Prop) (b137 : Bool) (zn8 : Int) (n138 : Int) (B300 : Nat) (n299 : Int) : Hp → Prop :=
  BR b315
    (J_law10_RankTrue_17 W R true za0 za1 zp2 zl3 zl4 zn5 zn6 zn7 zn10 nx0 b137 zn8 n138 B300)
    (J_law10_RankTrue_17 W R (n299 != 0) za0 za1 zp2 zl3 zl4 zn5 zn6 zn7 zn10 nx0 b137 zn8 n138 B300)
def J_law10_RankTrue_19 (W : World) (R : Ending → Hp → Prop) (b308 : Bool) (za0 : Addr) (za1 : Addr) (zp2 : Option Addr) (zl3 : Nat) (zl4 : Nat) (zn5 : Int) (zn6 : Int) (zn7 : Int) (zn10 : Int) (nx0 : List Value → Hp → Prop) (b137 : Bool) (zn8 : Int) (n138 : Int) (B300 : Nat) (n299 : Int) (B276 : Nat) : Hp → Prop :=
  BR b308
    (J_law10_RankTrue_18 W R true za0 za1 zp2 zl3 zl4 zn5 zn6 zn7 zn10 nx0 b137 zn8 n138 B300 n299)
    (RDI .i64 (Addr.add ⟨B276, 0, none⟩ 0) fun n369 =>
      RDI .i64 (Addr.add ⟨B276, 0, none⟩ 1) fun n370 =>
        CALL Pg W F_law10_inside [(.agg #[(.int .i64 n369), (.int .i64 n370)]), (.int .i64 n138)]
          (fun v371 => TYB v371 fun b373 =>
            J_law10_RankTrue_18 W R (!b373) za0 za1 zp2 zl3 zl4 zn5 zn6 zn7 zn10 nx0 b137 zn8 n138 B300 n299)
            (fun e372 => R (.panicked e372)))
def J_law10_RankTrue_20 (W : World) (R : Ending → Hp → Prop) (b304 : Bool) (za0 : Addr) (za1 : Addr) (zp2 : Option Addr) (zl3 : Nat) (zl4 : Nat) (zn5 : Int) (zn6 : Int) (zn7 : Int) (zn10 : Int) (nx0 : List Value → Hp → Prop) (b137 : Bool) (zn8 : Int) (n138 : Int) (B300 : Nat) (n299 : Int) (B276 : Nat) (n275 : Int) : Hp → Prop :=
  BR b304
    (J_law10_RankTrue_19 W R true za0 za1 zp2 zl3 zl4 zn5 zn6 zn7 zn10 nx0 b137 zn8 n138 B300 n299 B276)
    (J_law10_RankTrue_19 W R (n275 != 0) za0 za1 zp2 zl3 zl4 zn5 zn6 zn7 zn10 nx0 b137 zn8 n138 B300 n299 B276)
def B_law10_RankTrue_0 (W : World) (R : Ending → Hp → Prop) (za0 : Addr) (za1 : Addr) (zp2 : Option Addr) (zl3 : Nat) (zl4 : Nat) (zn5 : Int) (zn6 : Int) (zn7 : Int) (zn8 : Int) (b118 : Bool) (n119 : Int) (nx0 : List Value → Hp → Prop) : Hp → Prop :=
  BR (decide (n119 < zn8))
    (RDL (Addr.add za0 2) fun x120 l121 c122 =>
      IXS x120 l121 n119 1 fun a123 =>
        RDI .i64 a123 fun n124 =>
          IXS zp2 zl3 n119 1 fun a125 =>
            RDL a125 fun x126 l127 c128 =>
              L_law10_RankTrue_1 W R nx0 za0 b118 za1 zp2 zl3 zl4 zn5 zn6 zn7 n119 zn8 x126 l127 c128 (↑l127 : Int) (IntKind.wrap .i64 (0 - n124)) 0)
    (CALL Pg W F_law10_awake []
      (fun v129 => TYB v129 fun b131 =>
        R (.returned (.bool b131)))
        (fun e130 => R (.panicked e130)))
theorem B_law10_RankTrue_0_eq (W : World) (R : Ending → Hp → Prop) (za0 : Addr) (za1 : Addr) (zp2 : Option Addr) (zl3 : Nat) (zl4 : Nat) (zn5 : Int) (zn6 : Int) (zn7 : Int) (zn8 : Int) (b118 : Bool) (n119 : Int) (nx0 : List Value → Hp → Prop) (j : Tm) : vc Pg W 278 rs_5 an_5 false (sub (bodyOf Try.f5) [1, 1, 1, 1, 1, 1, 0, 1, 0, 0]) 0 (KLoop [4, 74] [2, 5, 6, 7, 8, 10, 73, 278] [(.pointer (some za0)), (.pointer (some za1)), (.slice zp2 zl3 zl4), (.int .i64 zn5), (.int .i64 zn6), (.int .i64 zn7), (.int .i64 zn8), (.tuple #[])] nx0 (KBlk 0 (KS Pg W 278 rs_5 an_5 false (sub (bodyOf Try.f5) [1, 1, 1, 1, 1, 1, 1]) 0 (fin Pg W 278 rv_5 R)))) (known [4, 74] [(.bool b118), (.int .i64 n119)] (known [2, 5, 6, 7, 8, 10, 73, 278] [(.pointer (some za0)), (.pointer (some za1)), (.slice zp2 zl3 zl4), (.int .i64 zn5), (.int .i64 zn6), (.int .i64 zn7), (.int .i64 zn8), (.tuple #[])] j)) = B_law10_RankTrue_0 W R za0 za1 zp2 zl3 zl4 zn5 zn6 zn7 zn8 b118 n119 nx0 := by kernel_rfl
def N_law10_RankTrue_0 (I : Bool → Int → Hp → Prop) (μ : Bool → Int → Hp → Nat) (b1180 : Bool) (n1190 : Int) (s : Hp) (vs : List Value) : Hp → Prop := fun s' => ∃ b118 n119, vs = [(.bool b118), (.int .i64 n119)] ∧ I b118 n119 s' ∧ μ b118 n119 s' < μ b1180 n1190 s
theorem L_law10_RankTrue_0_rule (W : World) (R : Ending → Hp → Prop) (za0 : Addr) (za1 : Addr) (zp2 : Option Addr) (zl3 : Nat) (zl4 : Nat) (zn5 : Int) (zn6 : Int) (zn7 : Int) (zn8 : Int) (I : Bool → Int → Hp → Prop) (μ : Bool → Int → Hp → Nat) (b1180 : Bool) (n1190 : Int) (s : Hp) (h0 : I b1180 n1190 s)
    (hr : ∀ (b118 : Bool) (n119 : Int) (s : Hp), I b118 n119 s → B_law10_RankTrue_0 W R za0 za1 zp2 zl3 zl4 zn5 zn6 zn7 zn8 b118 n119 (fun vs => N_law10_RankTrue_0 I μ b118 n119 s vs) s) : L_law10_RankTrue_0 W R za0 za1 zp2 zl3 zl4 zn5 zn6 zn7 zn8 b1180 n1190 s := by
  refine ⟨fun vs s => ∃ b118 n119, vs = [(.bool b118), (.int .i64 n119)] ∧ I b118 n119 s, fun vs s => (match vs with | [.bool b118, .int _ n119] => μ b118 n119 s | _ => 0), ⟨⟨⟨_, rfl⟩, ⟨⟨_, rfl⟩, trivial⟩⟩, ⟨_, _, rfl, h0⟩⟩, ?_⟩
  intro b118 n119 s hI j
  obtain ⟨b118', n119', hy, hI⟩ := hI
  have hI' : I b118 n119 s := by cases hy; exact hI
  have hh := hr b118 n119 s hI'
  rw [← B_law10_RankTrue_0_eq W R za0 za1 zp2 zl3 zl4 zn5 zn6 zn7 zn8 b118 n119 _ j] at hh
  refine vc_mono ?_ _ _ hh
  exact KLoop_mono (fun vs s' h => by obtain ⟨b1181, n1191, rfl, h1, h2⟩ := h; exact ⟨⟨⟨_, rfl⟩, ⟨⟨_, rfl⟩, trivial⟩⟩, ⟨_, _, rfl, h1⟩, h2⟩)
def B_law10_RankTrue_1 (W : World) (R : Ending → Hp → Prop) (nx0 : List Value → Hp → Prop) (za0 : Addr) (zb1 : Bool) (za2 : Addr) (zp3 : Option Addr) (zl4 : Nat) (zl5 : Nat) (zn6 : Int) (zn7 : Int) (zn8 : Int) (zn9 : Int) (zn10 : Int) (zp11 : Option Addr) (zl12 : Nat) (zl13 : Nat) (zn14 : Int) (n132 : Int) (n133 : Int) (nx1 : List Value → Hp → Prop) : Hp → Prop :=
  BR (decide (n133 < zn14))
    (IXS zp11 zl12 n133 1 fun a134 =>
      RDI .i64 a134 fun n135 =>
        NX [(.pointer (some za0)), (.bool zb1), (.pointer (some za2)), (.slice zp3 zl4 zl5), (.int .i64 zn6), (.int .i64 zn7), (.int .i64 zn8), (.int .i64 zn9), (.int .i64 1), (.int .i64 zn10), (.int .i64 zn9), (.slice zp11 zl12 zl13), (.int .i64 zn14), (.tuple #[])] [(.pointer (some za0)), (.bool zb1), (.pointer (some za2)), (.slice zp3 zl4 zl5), (.int .i64 zn6), (.int .i64 zn7), (.int .i64 zn8), (.int .i64 zn9), (.int .i64 1), (.int .i64 zn10), (.int .i64 zn9), (.slice zp11 zl12 zl13), (.int .i64 zn14), (.tuple #[])] (nx1 [(.int .i64 (IntKind.wrap .i64 (n132 + n135))), (.int .i64 (IntKind.wrap .i64 (n133 + 1)))]))
    (RDI .i64 (Addr.add za0 0) fun n136 =>
      L_law10_RankTrue_2 W R nx0 za0 za2 zp3 zl4 zl5 zn6 zn7 zn8 zn9 n132 zn10 n136 zb1 1 0)
theorem B_law10_RankTrue_1_eq (W : World) (R : Ending → Hp → Prop) (nx0 : List Value → Hp → Prop) (za0 : Addr) (zb1 : Bool) (za2 : Addr) (zp3 : Option Addr) (zl4 : Nat) (zl5 : Nat) (zn6 : Int) (zn7 : Int) (zn8 : Int) (zn9 : Int) (zn10 : Int) (zp11 : Option Addr) (zl12 : Nat) (zl13 : Nat) (zn14 : Int) (n132 : Int) (n133 : Int) (nx1 : List Value → Hp → Prop) (j : Tm) : vc Pg W 278 rs_5 an_5 false (sub (bodyOf Try.f5) [1, 1, 1, 1, 1, 1, 0, 1, 0, 0, 1, 1, 0, 0, 1, 1, 0, 1, 0, 0]) 2 (KLoop [14, 88] [2, 4, 5, 6, 7, 8, 10, 13, 15, 73, 74, 86, 87, 278] [(.pointer (some za0)), (.bool zb1), (.pointer (some za2)), (.slice zp3 zl4 zl5), (.int .i64 zn6), (.int .i64 zn7), (.int .i64 zn8), (.int .i64 zn9), (.int .i64 1), (.int .i64 zn10), (.int .i64 zn9), (.slice zp11 zl12 zl13), (.int .i64 zn14), (.tuple #[])] nx1 (KBlk 2 (KS Pg W 278 rs_5 an_5 false (sub (bodyOf Try.f5) [1, 1, 1, 1, 1, 1, 0, 1, 0, 0, 1, 1, 0, 0, 1, 1, 1]) 1 (KBlk 1 (KS Pg W 278 rs_5 an_5 false (sub (bodyOf Try.f5) [1, 1, 1, 1, 1, 1, 0, 1, 0, 0, 1, 1, 1]) 0 (KLoop [4, 74] [2, 5, 6, 7, 8, 10, 73, 278] [(.pointer (some za0)), (.pointer (some za2)), (.slice zp3 zl4 zl5), (.int .i64 zn6), (.int .i64 zn7), (.int .i64 zn8), (.int .i64 zn10), (.tuple #[])] nx0 (KBlk 0 (KS Pg W 278 rs_5 an_5 false (sub (bodyOf Try.f5) [1, 1, 1, 1, 1, 1, 1]) 0 (fin Pg W 278 rv_5 R))))))))) (known [14, 88] [(.int .i64 n132), (.int .i64 n133)] (known [2, 4, 5, 6, 7, 8, 10, 13, 15, 73, 74, 86, 87, 278] [(.pointer (some za0)), (.bool zb1), (.pointer (some za2)), (.slice zp3 zl4 zl5), (.int .i64 zn6), (.int .i64 zn7), (.int .i64 zn8), (.int .i64 zn9), (.int .i64 1), (.int .i64 zn10), (.int .i64 zn9), (.slice zp11 zl12 zl13), (.int .i64 zn14), (.tuple #[])] j)) = B_law10_RankTrue_1 W R nx0 za0 zb1 za2 zp3 zl4 zl5 zn6 zn7 zn8 zn9 zn10 zp11 zl12 zl13 zn14 n132 n133 nx1 := by kernel_rfl
def N_law10_RankTrue_1 (I : Int → Int → Hp → Prop) (μ : Int → Int → Hp → Nat) (n1320 : Int) (n1330 : Int) (s : Hp) (vs : List Value) : Hp → Prop := fun s' => ∃ n132 n133, vs = [(.int .i64 n132), (.int .i64 n133)] ∧ I n132 n133 s' ∧ μ n132 n133 s' < μ n1320 n1330 s
theorem L_law10_RankTrue_1_rule (W : World) (R : Ending → Hp → Prop) (nx0 : List Value → Hp → Prop) (za0 : Addr) (zb1 : Bool) (za2 : Addr) (zp3 : Option Addr) (zl4 : Nat) (zl5 : Nat) (zn6 : Int) (zn7 : Int) (zn8 : Int) (zn9 : Int) (zn10 : Int) (zp11 : Option Addr) (zl12 : Nat) (zl13 : Nat) (zn14 : Int) (I : Int → Int → Hp → Prop) (μ : Int → Int → Hp → Nat) (n1320 : Int) (n1330 : Int) (s : Hp) (h0 : I n1320 n1330 s)
    (hr : ∀ (n132 : Int) (n133 : Int) (s : Hp), I n132 n133 s → B_law10_RankTrue_1 W R nx0 za0 zb1 za2 zp3 zl4 zl5 zn6 zn7 zn8 zn9 zn10 zp11 zl12 zl13 zn14 n132 n133 (fun vs => N_law10_RankTrue_1 I μ n132 n133 s vs) s) : L_law10_RankTrue_1 W R nx0 za0 zb1 za2 zp3 zl4 zl5 zn6 zn7 zn8 zn9 zn10 zp11 zl12 zl13 zn14 n1320 n1330 s := by
  refine ⟨fun vs s => ∃ n132 n133, vs = [(.int .i64 n132), (.int .i64 n133)] ∧ I n132 n133 s, fun vs s => (match vs with | [.int _ n132, .int _ n133] => μ n132 n133 s | _ => 0), ⟨⟨⟨_, rfl⟩, ⟨⟨_, rfl⟩, trivial⟩⟩, ⟨_, _, rfl, h0⟩⟩, ?_⟩
  intro n132 n133 s hI j
  obtain ⟨n132', n133', hy, hI⟩ := hI
  have hI' : I n132 n133 s := by cases hy; exact hI
  have hh := hr n132 n133 s hI'
  rw [← B_law10_RankTrue_1_eq W R nx0 za0 zb1 za2 zp3 zl4 zl5 zn6 zn7 zn8 zn9 zn10 zp11 zl12 zl13 zn14 n132 n133 _ j] at hh
  refine vc_mono ?_ _ _ hh
  exact KLoop_mono (fun vs s' h => by obtain ⟨n1321, n1331, rfl, h1, h2⟩ := h; exact ⟨⟨⟨_, rfl⟩, ⟨⟨_, rfl⟩, trivial⟩⟩, ⟨_, _, rfl, h1⟩, h2⟩)
def B_law10_RankTrue_2 (W : World) (R : Ending → Hp → Prop) (nx0 : List Value → Hp → Prop) (za0 : Addr) (za1 : Addr) (zp2 : Option Addr) (zl3 : Nat) (zl4 : Nat) (zn5 : Int) (zn6 : Int) (zn7 : Int) (zn8 : Int) (zn9 : Int) (zn10 : Int) (zn11 : Int) (b137 : Bool) (n138 : Int) (n139 : Int) (nx2 : List Value → Hp → Prop) : Hp → Prop :=
  BR (decide (n139 < zn11))
    (RDI .i64 (Addr.add za0 0) fun n140 =>
      RDI .i64 (Addr.add za0 1) fun n141 =>
        RDL (Addr.add za0 2) fun x142 l143 c144 =>
          RDL (Addr.add za0 3) fun x145 l146 c147 =>
            CALL Pg W F_law10_order [(.agg #[(.int .i64 n140), (.int .i64 n141), (.slice x142 l143 c144), (.slice x145 l146 c147)]), (.slice zp2 zl3 zl4), (.int .i64 zn8), (.int .i64 n139)]
              (fun v148 => TYI .i64 v148 fun n150 =>
                BR (decide (n150 < 0))
                  (J_law10_RankTrue_12 W R za0 zn8 n139 za1 zp2 zl3 zl4 zn5 zn6 zn7 zn9 zn10 zn11 nx2 b137 (IntKind.wrap .i64 (n138 + 1)) n150)
                  (J_law10_RankTrue_12 W R za0 zn8 n139 za1 zp2 zl3 zl4 zn5 zn6 zn7 zn9 zn10 zn11 nx2 b137 n138 n150))
                (fun e149 => R (.panicked e149)))
    (RDI .i64 (Addr.add za0 0) fun n229 =>
      RDI .i64 (Addr.add za0 1) fun n230 =>
        RDL (Addr.add za0 2) fun x231 l232 c233 =>
          RDL (Addr.add za0 3) fun x234 l235 c236 =>
            CALL Pg W F_rank_Sum [(.agg #[(.int .i64 n229), (.int .i64 n230), (.slice x231 l232 c233), (.slice x234 l235 c236)]), (.int .i64 zn8)]
              (fun v237 => TUP v237 fun q239 => HD q239 fun v240 r241 => AGG v240 fun q242 => HD q242 fun v243 r244 => TYI .i64 v243 fun n245 =>
                HD r244 fun v246 r247 => TYI .i64 v246 fun n248 =>
                  NL r247 <|
                    HD r241 fun v249 r250 => TYI .i64 v249 fun n251 =>
                      NL r250 <|
                        NEWZ Pg 29 fun B252 =>
                          WR (Addr.add ⟨B252, 0, none⟩ 0) (.int .i64 n245) <|
                            WR (Addr.add ⟨B252, 0, none⟩ 1) (.int .i64 n248) <|
                              RDI .i64 (Addr.add za0 0) fun n253 =>
                                RDI .i64 (Addr.add za0 1) fun n254 =>
                                  RDL (Addr.add za0 2) fun x255 l256 c257 =>
                                    RDL (Addr.add za0 3) fun x258 l259 c260 =>
                                      CALL Pg W F_rank_Place [(.agg #[(.int .i64 n253), (.int .i64 n254), (.slice x255 l256 c257), (.slice x258 l259 c260)]), (.int .i64 zn8)]
                                        (fun v261 => TUP v261 fun q263 => HD q263 fun v264 r265 => AGG v264 fun q266 => HD q266 fun v267 r268 => TYI .i64 v267 fun n269 =>
                                          HD r268 fun v270 r271 => TYI .i64 v270 fun n272 =>
                                            NL r271 <|
                                              HD r265 fun v273 r274 => TYI .i64 v273 fun n275 =>
                                                NL r274 <|
                                                  NEWZ Pg 29 fun B276 =>
                                                    WR (Addr.add ⟨B276, 0, none⟩ 0) (.int .i64 n269) <|
                                                      WR (Addr.add ⟨B276, 0, none⟩ 1) (.int .i64 n272) <|
                                                        RDI .i64 (Addr.add za1 0) fun n277 =>
                                                          RDI .i64 (Addr.add za1 1) fun n278 =>
                                                            RDL (Addr.add za1 2) fun x279 l280 c281 =>
                                                              RDL (Addr.add za1 3) fun x282 l283 c284 =>
                                                                CALL Pg W F_rank_Place [(.agg #[(.int .i64 n277), (.int .i64 n278), (.slice x279 l280 c281), (.slice x282 l283 c284)]), (.int .i64 zn8)]
                                                                  (fun v285 => TUP v285 fun q287 => HD q287 fun v288 r289 => AGG v288 fun q290 => HD q290 fun v291 r292 => TYI .i64 v291 fun n293 =>
                                                                    HD r292 fun v294 r295 => TYI .i64 v294 fun n296 =>
                                                                      NL r295 <|
                                                                        HD r289 fun v297 r298 => TYI .i64 v297 fun n299 =>
                                                                          NL r298 <|
                                                                            NEWZ Pg 29 fun B300 =>
                                                                              WR (Addr.add ⟨B300, 0, none⟩ 0) (.int .i64 n293) <|
                                                                                WR (Addr.add ⟨B300, 0, none⟩ 1) (.int .i64 n296) <|
                                                                                  BR (n251 != 0)
                                                                                    (J_law10_RankTrue_20 W R true za0 za1 zp2 zl3 zl4 zn5 zn6 zn7 zn10 nx0 b137 zn8 n138 B300 n299 B276 n275)
                                                                                    (RDI .i64 (Addr.add ⟨B252, 0, none⟩ 0) fun n374 =>
                                                                                      RDI .i64 (Addr.add ⟨B252, 0, none⟩ 1) fun n375 =>
                                                                                        CALL Pg W F_law10_inside [(.agg #[(.int .i64 n374), (.int .i64 n375)]), (.int .i64 zn9)]
                                                                                          (fun v376 => TYB v376 fun b378 =>
                                                                                            J_law10_RankTrue_20 W R (!b378) za0 za1 zp2 zl3 zl4 zn5 zn6 zn7 zn10 nx0 b137 zn8 n138 B300 n299 B276 n275)
                                                                                            (fun e377 => R (.panicked e377))))
                                                                    (fun e286 => R (.panicked e286)))
                                          (fun e262 => R (.panicked e262)))
                (fun e238 => R (.panicked e238)))
theorem B_law10_RankTrue_2_eq (W : World) (R : Ending → Hp → Prop) (nx0 : List Value → Hp → Prop) (za0 : Addr) (za1 : Addr) (zp2 : Option Addr) (zl3 : Nat) (zl4 : Nat) (zn5 : Int) (zn6 : Int) (zn7 : Int) (zn8 : Int) (zn9 : Int) (zn10 : Int) (zn11 : Int) (b137 : Bool) (n138 : Int) (n139 : Int) (nx2 : List Value → Hp → Prop) (j : Tm) : vc Pg W 278 rs_5 an_5 false (sub (bodyOf Try.f5) [1, 1, 1, 1, 1, 1, 0, 1, 0, 0, 1, 1, 0, 0, 1, 1, 1, 0, 1, 0, 0]) 4 (KLoop [4, 15, 98] [2, 5, 6, 7, 8, 10, 13, 14, 73, 74, 97, 278] [(.pointer (some za0)), (.pointer (some za1)), (.slice zp2 zl3 zl4), (.int .i64 zn5), (.int .i64 zn6), (.int .i64 zn7), (.int .i64 zn8), (.int .i64 zn9), (.int .i64 zn10), (.int .i64 zn8), (.int .i64 zn11), (.tuple #[])] nx2 (KBlk 4 (KS Pg W 278 rs_5 an_5 false (sub (bodyOf Try.f5) [1, 1, 1, 1, 1, 1, 0, 1, 0, 0, 1, 1, 0, 0, 1, 1, 1, 1]) 1 (KBlk 1 (KS Pg W 278 rs_5 an_5 false (sub (bodyOf Try.f5) [1, 1, 1, 1, 1, 1, 0, 1, 0, 0, 1, 1, 1]) 0 (KLoop [4, 74] [2, 5, 6, 7, 8, 10, 73, 278] [(.pointer (some za0)), (.pointer (some za1)), (.slice zp2 zl3 zl4), (.int .i64 zn5), (.int .i64 zn6), (.int .i64 zn7), (.int .i64 zn10), (.tuple #[])] nx0 (KBlk 0 (KS Pg W 278 rs_5 an_5 false (sub (bodyOf Try.f5) [1, 1, 1, 1, 1, 1, 1]) 0 (fin Pg W 278 rv_5 R))))))))) (known [4, 15, 98] [(.bool b137), (.int .i64 n138), (.int .i64 n139)] (known [2, 5, 6, 7, 8, 10, 13, 14, 73, 74, 97, 278] [(.pointer (some za0)), (.pointer (some za1)), (.slice zp2 zl3 zl4), (.int .i64 zn5), (.int .i64 zn6), (.int .i64 zn7), (.int .i64 zn8), (.int .i64 zn9), (.int .i64 zn10), (.int .i64 zn8), (.int .i64 zn11), (.tuple #[])] j)) = B_law10_RankTrue_2 W R nx0 za0 za1 zp2 zl3 zl4 zn5 zn6 zn7 zn8 zn9 zn10 zn11 b137 n138 n139 nx2 := by kernel_rfl
def N_law10_RankTrue_2 (I : Bool → Int → Int → Hp → Prop) (μ : Bool → Int → Int → Hp → Nat) (b1370 : Bool) (n1380 : Int) (n1390 : Int) (s : Hp) (vs : List Value) : Hp → Prop := fun s' => ∃ b137 n138 n139, vs = [(.bool b137), (.int .i64 n138), (.int .i64 n139)] ∧ I b137 n138 n139 s' ∧ μ b137 n138 n139 s' < μ b1370 n1380 n1390 s
theorem L_law10_RankTrue_2_rule (W : World) (R : Ending → Hp → Prop) (nx0 : List Value → Hp → Prop) (za0 : Addr) (za1 : Addr) (zp2 : Option Addr) (zl3 : Nat) (zl4 : Nat) (zn5 : Int) (zn6 : Int) (zn7 : Int) (zn8 : Int) (zn9 : Int) (zn10 : Int) (zn11 : Int) (I : Bool → Int → Int → Hp → Prop) (μ : Bool → Int → Int → Hp → Nat) (b1370 : Bool) (n1380 : Int) (n1390 : Int) (s : Hp) (h0 : I b1370 n1380 n1390 s)
    (hr : ∀ (b137 : Bool) (n138 : Int) (n139 : Int) (s : Hp), I b137 n138 n139 s → B_law10_RankTrue_2 W R nx0 za0 za1 zp2 zl3 zl4 zn5 zn6 zn7 zn8 zn9 zn10 zn11 b137 n138 n139 (fun vs => N_law10_RankTrue_2 I μ b137 n138 n139 s vs) s) : L_law10_RankTrue_2 W R nx0 za0 za1 zp2 zl3 zl4 zn5 zn6 zn7 zn8 zn9 zn10 zn11 b1370 n1380 n1390 s := by
  refine ⟨fun vs s => ∃ b137 n138 n139, vs = [(.bool b137), (.int .i64 n138), (.int .i64 n139)] ∧ I b137 n138 n139 s, fun vs s => (match vs with | [.bool b137, .int _ n138, .int _ n139] => μ b137 n138 n139 s | _ => 0), ⟨⟨⟨_, rfl⟩, ⟨⟨_, rfl⟩, ⟨⟨_, rfl⟩, trivial⟩⟩⟩, ⟨_, _, _, rfl, h0⟩⟩, ?_⟩
  intro b137 n138 n139 s hI j
  obtain ⟨b137', n138', n139', hy, hI⟩ := hI
  have hI' : I b137 n138 n139 s := by cases hy; exact hI
  have hh := hr b137 n138 n139 s hI'
  rw [← B_law10_RankTrue_2_eq W R nx0 za0 za1 zp2 zl3 zl4 zn5 zn6 zn7 zn8 zn9 zn10 zn11 b137 n138 n139 _ j] at hh
  refine vc_mono ?_ _ _ hh
  exact KLoop_mono (fun vs s' h => by obtain ⟨b1371, n1381, n1391, rfl, h1, h2⟩ := h; exact ⟨⟨⟨_, rfl⟩, ⟨⟨_, rfl⟩, ⟨⟨_, rfl⟩, trivial⟩⟩⟩, ⟨_, _, _, rfl, h1⟩, h2⟩)
def T_law10_RankTrue (W : World) (n1 : Int) (n2 : Int) (x3 : Option Addr) (l4 : Nat) (c5 : Nat) (x6 : Option Addr) (l7 : Nat) (c8 : Nat) (x9 : Option Addr) (l10 : Nat) (c11 : Nat) (R : Ending → Hp → Prop) : Hp → Prop :=
  NEW 25 [(.int .i64 n1), (.int .i64 n2), (.slice x3 l4 c5), (.slice x6 l7 c8)] fun B12 =>
    RDI .i64 (Addr.add ⟨B12, 0, none⟩ 0) fun n13 =>
      RDI .i64 (Addr.add ⟨B12, 0, none⟩ 1) fun n14 =>
        RDL (Addr.add ⟨B12, 0, none⟩ 2) fun x15 l16 c17 =>
          RDL (Addr.add ⟨B12, 0, none⟩ 3) fun x18 l19 c20 =>
            CALL Pg W F_law10_far [(.agg #[(.int .i64 n13), (.int .i64 n14), (.slice x15 l16 c17), (.slice x18 l19 c20)])]
              (fun v21 => TYB v21 fun b23 =>
                BR b23
                  (J_law10_RankTrue_2 W R true B12 x9 l10 c11)
                  (RDI .i64 (Addr.add ⟨B12, 0, none⟩ 0) fun n107 =>
                    RDI .i64 (Addr.add ⟨B12, 0, none⟩ 1) fun n108 =>
                      RDL (Addr.add ⟨B12, 0, none⟩ 2) fun x109 l110 c111 =>
                        RDL (Addr.add ⟨B12, 0, none⟩ 3) fun x112 l113 c114 =>
                          CALL Pg W F_ref10_Table [(.agg #[(.int .i64 n107), (.int .i64 n108), (.slice x109 l110 c111), (.slice x112 l113 c114)])]
                            (fun v115 => TYB v115 fun b117 =>
                              J_law10_RankTrue_2 W R (!b117) B12 x9 l10 c11)
                              (fun e116 => R (.panicked e116))))
                (fun e22 => R (.panicked e22))
theorem T_law10_RankTrue_eq (W : World) (n1 : Int) (n2 : Int) (x3 : Option Addr) (l4 : Nat) (c5 : Nat) (x6 : Option Addr) (l7 : Nat) (c8 : Nat) (x9 : Option Addr) (l10 : Nat) (c11 : Nat) (R : Ending → Hp → Prop) : vfun Pg W an_5 Try.f5 [(.agg #[(.int .i64 n1), (.int .i64 n2), (.slice x3 l4 c5), (.slice x6 l7 c8)]), (.slice x9 l10 c11)] R = T_law10_RankTrue W n1 n2 x3 l4 c5 x6 l7 c8 x9 l10 c11 R := by kernel_rfl
theorem does_law10_RankTrue (W : World) (n1 : Int) (n2 : Int) (x3 : Option Addr) (l4 : Nat) (c5 : Nat) (x6 : Option Addr) (l7 : Nat) (c8 : Nat) (x9 : Option Addr) (l10 : Nat) (c11 : Nat) (R : Ending → Hp → Prop) (s : Hp) (h : T_law10_RankTrue W n1 n2 x3 l4 c5 x6 l7 c8 x9 l10 c11 R s) : Does Pg W F_law10_RankTrue #[(.agg #[(.int .i64 n1), (.int .i64 n2), (.slice x3 l4 c5), (.slice x6 l7 c8)]), (.slice x9 l10 c11)] s R :=
  does_of_vfun Pg W an_5 Try.func5 rfl (by kernel_rfl) (by rw [T_law10_RankTrue_eq]; exact h)
end Go.Proofs.Ytkgcbfbbcaajpaa.G

/- The statement RankTrue. -/
set_option linter.unusedSimpArgs false
set_option linter.unusedVariables false
set_option maxRecDepth 20000
namespace Go.Proofs.Ytkgcbfbbcaajpaa.G
open Go.V
/-- The place among the first ones. -/
def plcK (T : Tb) (v : Nat → Nat → Int) (a k : Nat) : Int := 1 + ((cntB (fun o => aheadL (rowV' T v o) (rowV' T v a)) k : Nat) : Int)
section
variable {W : World} {K : VK} {E : List PanicEntry → Hp → Prop} {s : Hp} {T : Tb}
theorem bit_zero {w n : Nat} (hw : w < 256) (hn : n < 8) : (andv .i64 (shrv .i64 (w : Int) (n : Int)) 1 == 0) = !w.testBit n := by
  have h : ((List.range 256).all fun (l : Nat) => (List.range 8).all fun (m : Nat) => decide ((andv .i64 (shrv .i64 (l : Int) (m : Int)) 1 == 0) = !l.testBit m)) = true := by decide +kernel
  have h1 := List.all_eq_true.1 h w (by simpa using hw)
  have h2 := List.all_eq_true.1 h1 n (by simpa using hn)
  exact of_decide_eq_true h2
theorem w_RankTrue {x y z : Option Addr} {c c' cz : Nat} {bs : List Nat} (hx : RowAt s x (ints T.off)) (hy : ScAt s y T.sc) (hz : RowAt s z (bytes bs)) (hbs : ∀ b ∈ bs, b < 256) (h : ∀ s', Ext s s' → K (.bool true) s') :
    CALL Pg W F_law10_RankTrue [.agg #[.int .i64 T.men, .int .i64 T.sheets, .slice x T.off.length c, .slice y T.sc.length c'], .slice z bs.length cz] K E s := by
  refine does_law10_RankTrue W T.men T.sheets x T.off.length c y T.sc.length c' z bs.length cz _ s ?_
  unfold T_law10_RankTrue
  refine NEW_rule fun s1 e1 z1 n1 _ => ?_
  have ta := tbA_new e1 hx hy n1
  refine rdT ta fun x c y c' hx hy => ?_
  refine c_far fun s2 b e2 hb => ?_
  try simp only [TUP_mk, AGG_mk, HD_mk, NL_mk, TYI_mk, TYB_mk, TYP_mk, TYL_mk, TYS_mk, TYM_mk, SO_mk, NX_mk, endK_mk, endK_mk', add_0]
  have fin : ∀ t, Ext s1 t → J_law10_RankTrue_2 W (endK K E) true s.size z bs.length cz t := fun t et => by
    unfold J_law10_RankTrue_2
    rw [BR_t]
    exact c_awake' et fun t2 e => h t2 (e1.trans e)
  refine BR_bool (fun _ => fin s2 e2) (fun hf => ?_)
  have hlo : T.off.length ≤ 100000 := by have := hb hf; omega
  refine rdT (ta.ext e2) fun x c y c' hx hy => ?_
  refine f_Table hx hy hlo fun s3 e3 => ?_
  try simp only [TUP_mk, AGG_mk, HD_mk, NL_mk, TYI_mk, TYB_mk, TYP_mk, TYL_mk, TYS_mk, TYM_mk, SO_mk, NX_mk, endK_mk, endK_mk', add_0]
  have e13 := e2.trans e3
  cases hok : okT T with
  | false => exact fin s3 e13
  | true =>
    have hn := men_n hok
    have vd := okT_vd hok
    obtain ⟨np, n6, _, _⟩ := n_lim hok
    have hm := sheets_m hok
    obtain ⟨_, _, _, m5⟩ := n_lim hok
    unfold J_law10_RankTrue_2
    rw [Bool.not_true, BR_f]
    refine rdT (ta.ext e13) fun x c y c' hx hy => ?_
    refine f_filled hok hx hy (hz.ext (e1.trans e13)) hbs fun s4 x c y c' p cp e4 hx4 hy4 hp4 => ?_
    try simp only [TUP_mk, AGG_mk, HD_mk, NL_mk, TYI_mk, TYB_mk, TYP_mk, TYL_mk, TYS_mk, TYM_mk, SO_mk, NX_mk, endK_mk, endK_mk', add_0]
    have hok' := fillV_ok hok bs
    have hvi : ∀ i k, i < T.n → k < T.m → loP T i k ≤ fillV T bs i k ∧ fillV T bs i k ≤ hiP T i k := fun i k _ _ => fillV_in hok bs i k
    have hvl : ∀ i k, i < T.n → k < T.m → 0 ≤ fillV T bs i k ∧ fillV T bs i k ≤ 40 := fun i k hi hk => by have := hvi i k hi hk; have := lo_hi hok i k; omega
    generalize hV : fillV T bs = V at *
    refine nw4 zc_25 rfl rfl rfl rfl fun s5 e5 z5 o0 o1 o2 o3 => ?_
    have e15 := e13.trans (e4.trans e5)
    have tx : TbA s5 ⟨s4.size, 0, none⟩ (fillT T V) := ⟨o0.cell, o1.cell, ⟨x, c, o2.cell, hx4.ext e5⟩, ⟨y, c', o3.cell, hy4.ext e5⟩⟩
    have hp5 := hp4.ext e5
    refine rdT (ta.ext e15) fun x c y c' hx hy => ?_
    refine c_WinnersN hok hlo hx hy fun s6 e6 => ?_
    try simp only [TUP_mk, AGG_mk, HD_mk, NL_mk, TYI_mk, TYB_mk, TYP_mk, TYL_mk, TYS_mk, TYM_mk, SO_mk, NX_mk, endK_mk, endK_mk', add_0]
    refine rdT (tx.ext e6) fun x c y c' hx hy => ?_
    refine c_WinnersN hok' hlo hx hy fun s7 e7 => ?_
    try simp only [TUP_mk, AGG_mk, HD_mk, NL_mk, TYI_mk, TYB_mk, TYP_mk, TYL_mk, TYS_mk, TYM_mk, SO_mk, NX_mk, endK_mk, endK_mk', add_0]
    have e57 := e6.trans e7
    have e17 := e15.trans e57
    have hsl := setOf_lt (surF T) T.n
    have hcl := setOf_lt (canF T) T.n
    have hfl := setOf_lt (surF (fillT T V)) T.n
    have h64 : 2 ^ T.n ≤ 2 ^ 6 := Nat.pow_le_pow_right (by omega) n6
    have hwe : setOf' (surF (fillT T V)) (fillT T V).n = setOf' (canF (fillT T V)) (fillT T V).n := fill_win
    simp only [J_law10_RankTrue_1, J_law10_RankTrue_0, bne_self_eq_false, BR_f, hwe]
    rw [← hwe]
    refine ⟨_, (ta.ext e17).men, ?_⟩
    generalize hsv : ((setOf' (surF T) T.n : Nat) : Int) = SV
    generalize hcv : ((setOf' (canF T) T.n : Nat) : Int) = CV
    generalize hfv : ((setOf' (surF (fillT T V)) (fillT T V).n : Nat) : Int) = FV
    refine L_law10_RankTrue_0_rule W _ ⟨s.size, 0, none⟩ ⟨s4.size, 0, none⟩ p T.n cp SV CV FV T.men (fun _ n u => Ext s7 u ∧ ∃ k : Nat, k ≤ T.n ∧ n = k) (fun _ n _ => (T.n - n).toNat) false 0 s7 ⟨Ext.refl _, 0, by omega, rfl⟩ ?_
    rintro b118 n119 u ⟨eu, a, ha, rfl⟩
    have e1u := e17.trans eu
    unfold B_law10_RankTrue_0
    refine BR_dec (fun h1 => ?_) (fun h1 => c_awake' e1u fun t2 e => h t2 (e1.trans e))
    have han : a < T.n := by omega
    have hal : a < T.off.length := by rw [vd.len]; exact han
    have hoa := vd.off _ (show T.off.getD a 0 ∈ T.off by rw [show T.off.getD a 0 = T.off[a] by simp [List.getD, hal]]; exact List.getElem_mem _)
    obtain ⟨xo, co, g1, g2⟩ := (ta.ext e1u).off
    obtain ⟨ad, had, g3⟩ := row_int g2 hal
    subst had
    refine ⟨_, _, _, g1, IXS_nat hal ⟨_, g3, ?_⟩⟩
    have hpu := hp5.ext (e57.trans eu)
    obtain ⟨pa, py, pc, hpa, g4, g5⟩ := hpu a han
    subst hpa
    refine IXS_nat han ⟨_, _, _, g4, ?_⟩
    have w1 : IntKind.wrap .i64 (0 - T.off.getD a 0) = sumK (V a) 0 - offT T a := by rw [wrap_i64 (by omega) (by omega)]; unfold sumK offT; simp
    have hro : 0 ≤ offT T a ∧ offT T a ≤ 100 := hoa
    dsimp only
    rw [w1]
    generalize hnx0 : (fun vs => N_law10_RankTrue_0 (fun _ n u => Ext s7 u ∧ ∃ k : Nat, k ≤ T.n ∧ n = k) (fun _ n _ => (T.n - n).toNat) b118 a u vs) = nx0
    have hgo0 : ∀ (u' : Hp) (q : Bool), Ext s7 u' → nx0 [.bool q, .int .i64 (IntKind.wrap .i64 ((a : Int) + 1))] u' := fun u' q e => by
      rw [← hnx0]
      exact ⟨_, _, rfl, ⟨e, a + 1, by omega, wrap_succ (by omega)⟩, ms_succ han (by omega)⟩
    refine L_law10_RankTrue_1_rule W _ nx0 ⟨s.size, 0, none⟩ b118 ⟨s4.size, 0, none⟩ (some pa) T.n cp SV CV FV a T.men py T.m pc T.m (fun m n w => w = u ∧ ∃ k : Nat, k ≤ T.m ∧ n = k ∧ m = sumK (V a) k - offT T a) (fun _ n _ => (T.m - n).toNat) _ 0 u ⟨rfl, 0, by omega, rfl, rfl⟩ ?_
    rintro n132 n133 u ⟨rfl, k, hk, rfl, rfl⟩
    have la := sumK_lim (v := V a) T.m k hk fun j hj => hvl a j han hj
    unfold B_law10_RankTrue_1
    refine BR_dec (fun h2 => ?_) (fun h2 => ?_)
    · have hkm : k < T.m := by omega
      have va := hvl a k han hkm
      obtain ⟨py', hpy', g6⟩ := row_int g5 (show k < _ by simpa using hkm)
      subst hpy'
      have gv : ((List.range T.m).map (V a)).getD k 0 = V a k := by simp [List.getD, hkm]
      rw [gv] at g6
      refine IXS_nat hkm ⟨_, g6, rfl, _, _, rfl, ⟨rfl, k + 1, by omega, wrap_succ (by omega), ?_⟩, ms_succ hkm (by omega)⟩
      rw [sumK_succ, wrap_i64 (by omega) (by omega)]; omega
    have hkm : k = T.m := by omega
    subst hkm
    refine ⟨_, (ta.ext e1u).men, ?_⟩
    generalize hSum : sumK (V a) T.m - offT T a = SUM
    refine L_law10_RankTrue_2_rule W _ nx0 ⟨s.size, 0, none⟩ ⟨s4.size, 0, none⟩ (some pa) T.n cp SV CV FV a SUM T.men T.men (fun _ m n w => Ext s7 w ∧ ∃ k : Nat, k ≤ T.n ∧ n = k ∧ m = plcK T V a k) (fun _ _ n _ => (T.n - n).toNat) b118 1 0 u ⟨eu, 0, by omega, rfl, by simp [plcK, cntB]⟩ ?_
    rintro b137 n138 n139 w ⟨ew, b, hb', rfl, rfl⟩
    have e1w := e17.trans ew
    have txw := tx.ext (e57.trans ew)
    have hcnt := cntB_le (fun o => aheadL (rowV' T V o) (rowV' T V a)) b
    have hsucc := cntB_succ (fun o => aheadL (rowV' T V o) (rowV' T V a)) b
    unfold B_law10_RankTrue_2
    refine BR_dec (fun h3 => ?_) (fun h3 => ?_)
    · have hbn : b < T.n := by omega
      refine rdT (ta.ext e1w) fun x c y c' hx hy => ?_
      refine f_order hok han hbn hx hy (hp5.ext (e57.trans ew)) hvl fun w1 f1 => ?_
      try simp only [TUP_mk, AGG_mk, HD_mk, NL_mk, TYI_mk, TYB_mk, TYP_mk, TYL_mk, TYS_mk, TYM_mk, SO_mk, NX_mk, endK_mk, endK_mk', add_0]
      have key : ∀ pl, pl = plcK T V a (b + 1) → J_law10_RankTrue_12 W (endK K E) ⟨s.size, 0, none⟩ a b ⟨s4.size, 0, none⟩ (some pa) T.n cp SV CV FV SUM T.men T.men (fun vs => N_law10_RankTrue_2 (fun _ m n w => Ext s7 w ∧ ∃ k : Nat, k ≤ T.n ∧ n = k ∧ m = plcK T V a k) (fun _ _ n _ => (T.n - n).toNat) b137 (plcK T V a b) b w vs) b137 pl (ordP T V a b) w1 := by
        rintro pl rfl
        unfold J_law10_RankTrue_12
        refine rdT (ta.ext (e1w.trans f1)) fun x c y c' hx hy => ?_
        refine c_BeforeN hok han hbn hlo hx hy fun w2 f2 => ?_
        try simp only [TUP_mk, AGG_mk, HD_mk, NL_mk, TYI_mk, TYB_mk, TYP_mk, TYL_mk, TYS_mk, TYM_mk, SO_mk, NX_mk, endK_mk, endK_mk', add_0]
        refine rdT (txw.ext (f1.trans f2)) fun x c y c' hx hy => ?_
        refine c_BeforeN hok' han hbn hlo hx hy fun w3 f3 => ?_
        try simp only [TUP_mk, AGG_mk, HD_mk, NL_mk, TYI_mk, TYB_mk, TYP_mk, TYL_mk, TYS_mk, TYM_mk, SO_mk, NX_mk, endK_mk, endK_mk', add_0]
        refine rdT (ta.ext (e1w.trans (f1.trans (f2.trans f3)))) fun x c y c' hx hy => ?_
        refine c_EqualN hok han hbn hlo hx hy fun w4 f4 => ?_
        try simp only [TUP_mk, AGG_mk, HD_mk, NL_mk, TYI_mk, TYB_mk, TYP_mk, TYL_mk, TYS_mk, TYM_mk, SO_mk, NX_mk, endK_mk, endK_mk', add_0]
        refine rdT (txw.ext (f1.trans (f2.trans (f3.trans f4)))) fun x c y c' hx hy => ?_
        refine c_EqualN hok' han hbn hlo hx hy fun w5 f5 => ?_
        try simp only [TUP_mk, AGG_mk, HD_mk, NL_mk, TYI_mk, TYB_mk, TYP_mk, TYL_mk, TYS_mk, TYM_mk, SO_mk, NX_mk, endK_mk, endK_mk', add_0]
        have f15 := f1.trans (f2.trans (f3.trans (f4.trans f5)))
        have hO := ordP_lim (T := T) (v := V) (a := a) (b := b)
        have hB := fill_bef (v := V) han hbn
        have hE := fill_eq (v := V) han hbn
        have c1 : ((befN (fillT T V) a b == 2) == (ordP T V a b == 1)) = true := by
          rw [hB]
          by_cases e : ordP T V a b = 1
          · rw [e]; rfl
          · rw [if_neg e, beq_eq_false_iff_ne.2 e]; rfl
        have c2 : ((befN (fillT T V) a b == 0) == (ordP T V a b != 1)) = true := by
          rw [hB]
          by_cases e : ordP T V a b = 1
          · rw [e]; rfl
          · rw [if_neg e, bne_iff_ne.2 e]; rfl
        have c3 : (eqP (fillT T V) a b == (ordP T V a b == 0)) = true := by rw [hE, Bool.beq_eq_decide_eq (ordP T V a b) 0, beq_self_eq_true]
        rw [bne_self_eq_false, BR_f]
        have j11 : J_law10_RankTrue_11 W (endK K E) false ⟨s.size, 0, none⟩ ⟨s4.size, 0, none⟩ (some pa) T.n cp SV CV FV a SUM T.men T.men (fun vs => N_law10_RankTrue_2 (fun _ m n w => Ext s7 w ∧ ∃ k : Nat, k ≤ T.n ∧ n = k ∧ m = plcK T V a k) (fun _ _ n _ => (T.n - n).toNat) b137 (plcK T V a b) b w vs) b137 (plcK T V a (b + 1)) b (eqP (fillT T V) a b) (ordP T V a b) 0 (eqP T a b) 0 (befN (fillT T V) a b) 0 (befN T a b) w5 := by
          unfold J_law10_RankTrue_11
          rw [BR_f]
          have j10 : J_law10_RankTrue_10 W (endK K E) false ⟨s.size, 0, none⟩ ⟨s4.size, 0, none⟩ (some pa) T.n cp SV CV FV a SUM T.men T.men (fun vs => N_law10_RankTrue_2 (fun _ m n w => Ext s7 w ∧ ∃ k : Nat, k ≤ T.n ∧ n = k ∧ m = plcK T V a k) (fun _ _ n _ => (T.n - n).toNat) b137 (plcK T V a b) b w vs) b137 (plcK T V a (b + 1)) b (eqP (fillT T V) a b) (ordP T V a b) 0 (eqP T a b) 0 (befN (fillT T V) a b) 0 w5 := by
            simp only [J_law10_RankTrue_10, J_law10_RankTrue_9, J_law10_RankTrue_8, J_law10_RankTrue_7, J_law10_RankTrue_6, c1, c2, Bool.not_true, BR_f, bne_self_eq_false]
            have j5 : J_law10_RankTrue_5 W (endK K E) false ⟨s.size, 0, none⟩ ⟨s4.size, 0, none⟩ (some pa) T.n cp SV CV FV a SUM T.men T.men (fun vs => N_law10_RankTrue_2 (fun _ m n w => Ext s7 w ∧ ∃ k : Nat, k ≤ T.n ∧ n = k ∧ m = plcK T V a k) (fun _ _ n _ => (T.n - n).toNat) b137 (plcK T V a b) b w vs) b137 (plcK T V a (b + 1)) b (eqP (fillT T V) a b) (ordP T V a b) 0 w5 := by
              simp only [J_law10_RankTrue_5, J_law10_RankTrue_4, J_law10_RankTrue_3, c3, Bool.not_true, BR_f, bne_self_eq_false]
              exact ⟨rfl, _, _, _, rfl, ⟨ew.trans f15, b + 1, by omega, wrap_succ (by omega), rfl⟩, ms_succ hbn (by omega)⟩
            refine BR_eq (fun h5 => ?_) (fun _ => j5)
            rw [ord_eq hvi han hbn h5]; exact j5
          refine BR_eq (fun h5 => ?_) (fun _ => j10)
          have : ordP T V a b ≠ 1 := fun he => by have := ord_can hvi han hbn he; rw [(befN_zero hok).1 h5] at this; cases this
          rw [beq_eq_false_iff_ne.2 this]; exact j10
        refine BR_eq (fun h5 => ?_) (fun _ => j11)
        have hO1 := sur_ord hvi han hbn (befN_two.1 h5)
        rw [show (ordP T V a b != 1) = false by rw [hO1]; rfl]; exact j11
      refine BR_dec (fun h4 => key _ ?_) (fun h4 => key _ ?_)
      · unfold plcK
        rw [hsucc, ord_neg.1 h4, if_pos rfl, wrap_i64 (by omega) (by omega)]; omega
      · have : aheadL (rowV' T V b) (rowV' T V a) = false := by
          cases hh : aheadL (rowV' T V b) (rowV' T V a) with
          | false => rfl
          | true => exact absurd (ord_neg.2 hh) h4
        unfold plcK
        rw [hsucc, this]; simp
    · have hbn : b = T.n := by omega
      subst hbn
      have hpl : plcK T V a T.n = plcV T V a := rfl
      rw [hpl]
      obtain ⟨l1, l2⟩ := plcV_lim (v := V) han
      obtain ⟨m1, m2⟩ := plcV_in hvi han
      have hsi := sumV_in hvi han
      rw [hSum] at hsi
      refine rdT (ta.ext e1w) fun x c y c' hx hy => ?_
      refine c_SumN hok han hlo hx hy fun w1 f1 => ?_
      try simp only [TUP_mk, AGG_mk, HD_mk, NL_mk, TYI_mk, TYB_mk, TYP_mk, TYL_mk, TYS_mk, TYM_mk, SO_mk, NX_mk, endK_mk, endK_mk', add_0]
      refine nw2 zc_29 rfl rfl fun w2 f2 y2 p0 p1 => ?_
      have f12 := f1.trans f2
      refine rdT (ta.ext (e1w.trans f12)) fun x c y c' hx hy => ?_
      refine c_PlaceN hok han hlo hx hy fun w3 f3 => ?_
      try simp only [TUP_mk, AGG_mk, HD_mk, NL_mk, TYI_mk, TYB_mk, TYP_mk, TYL_mk, TYS_mk, TYM_mk, SO_mk, NX_mk, endK_mk, endK_mk', add_0]
      refine nw2 zc_29 rfl rfl fun w4 f4 y4 q0 q1 => ?_
      have f34 := f3.trans f4
      have f14 := f12.trans f34
      refine rdT (txw.ext f14) fun x c y c' hx hy => ?_
      refine c_PlaceN hok' han hlo hx hy fun w5 f5 => ?_
      try simp only [TUP_mk, AGG_mk, HD_mk, NL_mk, TYI_mk, TYB_mk, TYP_mk, TYL_mk, TYS_mk, TYM_mk, SO_mk, NX_mk, endK_mk, endK_mk', add_0]
      refine nw2 zc_29 rfl rfl fun w6 f6 y6 r0 r1 => ?_
      have f56 := f5.trans f6
      have f16 := f14.trans f56
      rw [bne_self_eq_false, BR_f]
      refine ⟨_, (f34.trans f56).cell p0.cell, _, (f34.trans f56).cell p1.cell, ?_⟩
      refine f_inside fun w7 f7 => ?_
      try simp only [TUP_mk, AGG_mk, HD_mk, NL_mk, TYI_mk, TYB_mk, TYP_mk, TYL_mk, TYS_mk, TYM_mk, SO_mk, NX_mk, endK_mk, endK_mk', add_0]
      simp only [decide_eq_true hsi, Bool.not_true, J_law10_RankTrue_20, BR_f, bne_self_eq_false]
      unfold J_law10_RankTrue_19
      rw [BR_f]
      refine ⟨_, (f56.trans f7).cell q0.cell, _, (f56.trans f7).cell q1.cell, ?_⟩
      refine f_inside fun w8 f8 => ?_
      try simp only [TUP_mk, AGG_mk, HD_mk, NL_mk, TYI_mk, TYB_mk, TYP_mk, TYL_mk, TYS_mk, TYM_mk, SO_mk, NX_mk, endK_mk, endK_mk', add_0]
      have hin : (plcT T a).1 ≤ plcV T V a ∧ plcV T V a ≤ (plcT T a).2 := ⟨m1, m2⟩
      simp only [decide_eq_true hin, Bool.not_true, J_law10_RankTrue_18, BR_f, bne_self_eq_false]
      unfold J_law10_RankTrue_17
      rw [BR_f]
      have f78 := f7.trans f8
      refine ⟨_, f78.cell r0.cell, _, f78.cell r1.cell, ?_⟩
      refine c_span fun w9 f9 => ?_
      unfold spanV
      try simp only [TUP_mk, AGG_mk, HD_mk, NL_mk, TYI_mk, TYB_mk, TYP_mk, TYL_mk, TYS_mk, TYM_mk, SO_mk, NX_mk, endK_mk, endK_mk', add_0]
      have f79 := f78.trans f9
      refine ⟨⟨_, f79.cell r0.cell, _, f79.cell r1.cell, rfl⟩, ?_⟩
      have hq1 : (plcT (fillT T V) a).1 = plcV T V a := by rw [fill_plc han]
      have hq2 : (plcT (fillT T V) a).2 = plcV T V a := by rw [fill_plc han]
      rw [hq1, hq2, beq_self_eq_true]
      unfold J_law10_RankTrue_16
      show BR false _ _ w9
      rw [BR_f]
      refine NNI_nat ?_
      have hFn : (fillT T V).n = T.n := rfl
      rw [← hfv, hFn, bit_is _ (by omega) _ (by omega), setOf_bit, decide_eq_true han, Bool.true_and, fill_first han, beq_self_eq_true]
      unfold J_law10_RankTrue_15
      show BR false _ _ w9
      rw [BR_f]
      refine NNI_nat ?_
      have j13 : J_law10_RankTrue_13 W (endK K E) false ⟨s.size, 0, none⟩ ⟨s4.size, 0, none⟩ (some pa) T.n cp SV CV ((setOf' (surF (fillT T V)) T.n : Nat) : Int) T.men nx0 b137 a w9 := by
        unfold J_law10_RankTrue_13
        rw [BR_f]
        exact ⟨rfl, hgo0 w9 b137 (ew.trans (f16.trans f79))⟩
      have j14 : J_law10_RankTrue_14 W (endK K E) false ⟨s.size, 0, none⟩ ⟨s4.size, 0, none⟩ (some pa) T.n cp SV CV ((setOf' (surF (fillT T V)) T.n : Nat) : Int) T.men nx0 b137 a (plcV T V a) w9 := by
        unfold J_law10_RankTrue_14
        rw [BR_f]
        refine NNI_nat ?_
        rw [← hcv, bit_zero (by omega) (by omega), setOf_bit, decide_eq_true han, Bool.true_and]
        refine BR_not (fun hc => ?_) (fun hc => by rw [hcv]; exact j13)
        have hne : plcV T V a ≠ 1 := fun he => by
          have h5 : (plcT T a).1 ≠ 1 := of_decide_eq_false hc
          obtain ⟨q1, _⟩ := plc_lim hok han
          omega
        rw [beq_eq_false_iff_ne.2 hne, hcv]; exact j13
      rw [← hsv, bit_is _ (by omega) _ (by omega), setOf_bit, decide_eq_true han, Bool.true_and]
      refine BR_bool (fun hc => ?_) (fun hc => by rw [hsv]; exact j14)
      have hpe : plcV T V a = 1 := by
        have h5 : (plcT T a).2 = 1 := of_decide_eq_true hc
        omega
      rw [hsv]
      have : (!(plcV T V a == 1)) = false := by rw [hpe]; rfl
      rw [this]; exact j14
end
end Go.Proofs.Ytkgcbfbbcaajpaa.G

/- RankTrue, from any arguments. -/
namespace Go.Proofs.Ytkgcbfbbcaajpaa.G
open Go.V
theorem v_RankTrue {W : World} {s : Hp} {v0 v1 : Value} (k0 : RdV Pg s 25 v0) (k1 : RdV Pg s 45 v1) : CALL Pg W F_law10_RankTrue [v0, v1] (fun v s' => v = .bool true ∧ Ext s s') (fun _ _ => False) s := by
  obtain ⟨x, c, y, c', T, rfl, hx, hy⟩ := table_rd k0
  obtain ⟨z, cz, bs, rfl, hz, hbs, _⟩ := u8s_rd k1
  exact w_RankTrue hx hy hz hbs fun s' e => ⟨rfl, e⟩
end Go.Proofs.Ytkgcbfbbcaajpaa.G

/- The row of the statement RankTrue. -/
namespace Go.Proofs.Ytkgcbfbbcaajpaa.rankTrue
open Go.ChangeShapes Go.WideShapes Go.ChangeAt Go.RowKit Go.V
set_option linter.unusedVariables false
theorem own : ownKnob Try.prog.godebug = none := by kernel_rfl
theorem laidOut : laidOutB Try.prog = true := by kernel_rfl
set_option maxRecDepth 100000 in
theorem lifted (os : Os) (started : os.Started) (H : Type) (enc : TypeId × Value → H) :
    ReturnsInHanded {} Try.checked os 5 .any (Rows.rankTrueSpec.pre6 enc Try.prog Try.f5 Rows.rankTrueRow.domain false) (Rows.rankTrueSpec.post enc Try.prog Try.f5 false true false false) := by
  refine returnsInHanded_of_change_sized (C := Try.checked) own started (by kernel_rfl) Try.func5
    (ChangeSpec.witness6 (enc := enc) (C := Try.checked) false ⟨#[], #[(.agg #[(.int .i64 0), (.int .i64 0), (.slice none 0 0), (.slice none 0 0)]), (.slice none 0 0)], []⟩ 8 (by kernel_rfl) (by kernel_rfl) (by kernel_rfl) (by kernel_rfl)) ?_
  intro W base args ds gs before hval0 hW hcnd hsz0 _
  have hsz : (DataW.weightsEach Try.prog (Try.f5.params.toList ++ Rows.rankTrueSpec.plain.varTypes Try.prog) (ds ++ gs)).all (· ≤ reachBytes) = true := hsz0
  have hval : ∀ (j : Nat) t v, Try.f5.params[j]? = some t → args[j]? = some v → Value.okWide Try.prog W .any base t v := hval0
  have hW' := hW
  obtain ⟨p, q, hA0, hV, rfl, hfz, hnd⟩ := hW
  have hA : DataW.TrodAll enc Try.prog W 0 (fun _ => true) true Try.f5.params.toList args.toList ds p := hA0
  rw [Try.params5] at hA hval hsz
  obtain ⟨v0, vs0, d0, ds0, p0, q0, hargs, rfl, rfl, h0, r0⟩ := trodAll_cons hA
  obtain ⟨v1, vs1, d1, ds1, p1, q1, rfl, rfl, rfl, h1, r1⟩ := trodAll_cons r0
  obtain ⟨rfl, rfl, rfl⟩ := trodAll_nil r1
  obtain rfl : args = #[v0, v1] := by cases args; simp_all
  obtain ⟨rfl, rfl⟩ := trodVars_none hV
  have k0 := trod_rdV (hval 0 25 v0 rfl rfl) h0
  have lt0 : ∀ x ∈ p0, x.block < W.heap.size := by obtain ⟨m, hm⟩ := h0; exact DataW.trod_lt m _ _ _ hm
  have k1 := trod_rdV (hval 1 45 v1 rfl rfl) h1
  have lt1 : ∀ x ∈ p1, x.block < W.heap.size := by obtain ⟨m, hm⟩ := h1; exact DataW.trod_lt m _ _ _ hm
  refine (calls_of_does (does_of_call (G.v_RankTrue (W := W) (s := W.heap) k0 k1))).mono fun e W' ⟨he, bel⟩ => ?_
  subst he
  exact ⟨_, rfl, _, _, _, [], _, [], hW', trodAll_mk1 (shut_bool Try.underlying4 _), (trodAll_cons_mk (Below.trod laidOut (by kernel_rfl) (of_decide_eq_true (by kernel_rfl)) h0 bel lt0) (trodAll_cons_mk (Below.trod laidOut (by kernel_rfl) (of_decide_eq_true (by kernel_rfl)) h1 bel lt1) trodAll_mk0)), rfl, bel.frame _, fun h => by cases h⟩
theorem over : Rows.rankTrueRow.holds Try.pinned (OpenSpec.ofChange Rows.rankTrueSpec) :=
  OpenClaim.holds_of_wide 5 Try.f5 rfl rfl rfl rfl rfl rfl rfl ⟨rfl, rfl, rfl, rfl, rfl⟩ rfl rfl rfl rfl rfl (by kernel_rfl) Try.func5 (by kernel_rfl)
    (of_decide_eq_true (by kernel_rfl)) (by unfold Func.isWrapper; first | (rw [if_pos (by decide +kernel)]; kernel_rfl) | (rw [if_neg (by decide +kernel)]; exact ⟨rfl, rfl⟩))
    (fun os started H enc _ => lifted os started H enc)
theorem proved : Rows.RankTrueSaid := over
end Go.Proofs.Ytkgcbfbbcaajpaa.rankTrue
namespace Go.Proofs.Ytkgcbfbbcaajpaa
/-- The row, under a short name. -/
theorem rankTrue_holds : Rows.RankTrueSaid := rankTrue.proved
end Go.Proofs.Ytkgcbfbbcaajpaa
