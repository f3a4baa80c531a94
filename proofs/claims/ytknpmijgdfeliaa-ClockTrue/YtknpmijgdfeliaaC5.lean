import Derived.Test.YtknpmijgdfeliaaC4
/- Whatever truly happened, and however watches truly go: what the clock tells holds it, for every input. -/
/- More of the functions' shallow texts, by gen.py. -/
set_option linter.unusedVariables false
set_option maxRecDepth 100000
namespace Go.Proofs.Ytknpmijgdfeliaa.G
open Go.V
def an_8 : Nat → Ann := fun b => match b with
  | 0 => { ms := [6, 150], ks := [.b, .i .i64], us := [3, 15, 149, 178], rt := false, ex := [] }
  | _ => {}
abbrev rv_8 : List ResultVar := [.tmp 6]
abbrev rs_8 : List Nat := [178, 6]
def L_law07_ClockAlone_0 (W : World) (R : Ending → Hp → Prop) (za0 : Addr) (za1 : Addr) (zn2 : Int) (b404 : Bool) (n405 : Int) : Hp → Prop :=
  LOOPN [.b, .i .i64] (fun ys next s => ∀ j : Tm, vc Pg W 178 rs_8 an_8 false (sub (bodyOf Try.f8) [1, 1, 1, 1, 1, 1, 1, 1, 1, 1, 0, 1, 0, 0]) 0 (KLoop [6, 150] [3, 15, 149, 178] [(.pointer (some za0)), (.pointer (some za1)), (.int .i64 zn2), (.tuple #[])] next (KBlk 0 (KS Pg W 178 rs_8 an_8 false (sub (bodyOf Try.f8) [1, 1, 1, 1, 1, 1, 1, 1, 1, 1, 1]) 0 (fin Pg W 178 rv_8 R)))) (known [6, 150] ys (known [3, 15, 149, 178] [(.pointer (some za0)), (.pointer (some za1)), (.int .i64 zn2), (.tuple #[])] j)) s) [(.bool b404), (.int .i64 n405)]
def J_law07_ClockAlone_0 (W : World) (R : Ending → Hp → Prop) (b212 : Bool) (n205 : Int) : Hp → Prop :=
  BR b212
    (CALL Pg W F_law07_alive []
      (fun v213 => TYB v213 fun b215 =>
        R (.returned (.bool b215)))
        (fun e214 => R (.panicked e214)))
    (BR (n205 == 10)
      (CALL Pg W F_law07_alive []
        (fun v216 => TYB v216 fun b218 =>
          R (.returned (.bool b218)))
          (fun e217 => R (.panicked e217)))
      (R (.returned (.bool false))))
def J_law07_ClockAlone_1 (W : World) (R : Ending → Hp → Prop) (B13 : Nat) (B229 : Nat) : Hp → Prop :=
  RDI .i64 (Addr.add ⟨B13, 0, none⟩ 1) fun n250 =>
    L_law07_ClockAlone_0 W R ⟨B13, 0, none⟩ ⟨B229, 0, none⟩ n250 false 0
def J_law07_ClockAlone_2 (W : World) (R : Ending → Hp → Prop) (b209 : Bool) (n205 : Int) (B206 : Nat) (B13 : Nat) (n12 : Int) (n36 : Int) (n11 : Int) (l34 : Nat) : Hp → Prop :=
  BR b209
    (BR (n205 == 0)
      (RDI .i64 (Addr.add ⟨B206, 0, none⟩ 0) fun n210 =>
        RDI .i64 (Addr.add ⟨B206, 0, none⟩ 1) fun n211 =>
          J_law07_ClockAlone_0 W R (decide (n210 ≤ n211)) n205)
      (J_law07_ClockAlone_0 W R false n205))
    (RDL (Addr.add ⟨B13, 0, none⟩ 0) fun x219 l220 c221 =>
      RDI .i64 (Addr.add ⟨B13, 0, none⟩ 1) fun n222 =>
        RDL (Addr.add ⟨B13, 0, none⟩ 2) fun x223 l224 c225 =>
          RDL (Addr.add ⟨B13, 0, none⟩ 3) fun x226 l227 c228 =>
            NEWZ Pg 26 fun B229 =>
              WR (Addr.add ⟨B229, 0, none⟩ 0) (.slice x219 l220 c221) <|
                WR (Addr.add ⟨B229, 0, none⟩ 1) (.int .i64 n222) <|
                  WR (Addr.add ⟨B229, 0, none⟩ 2) (.slice x223 l224 c225) <|
                    WR (Addr.add ⟨B229, 0, none⟩ 3) (.slice x226 l227 c228) <|
                      RDL (Addr.add ⟨B13, 0, none⟩ 2) fun x230 l231 c232 =>
                        RDI .i64 (Addr.add ⟨B206, 0, none⟩ 0) fun n233 =>
                          CONJ [
                            NEW 61 [] fun B234 =>
                              ANDS (RDI .i64 (Addr.add ⟨B206, 0, none⟩ 0) fun n235 =>
                                fun _ => ((.int .i64 n235) : Value) = (.int .i64 n233)) <|
                                ANDS (RDL (Addr.add ⟨B13, 0, none⟩ 2) fun x236 l237 c238 =>
                                  fun _ => ((.slice x236 l237 c238) : Value) = (.slice x230 l231 c232)) <|
                                  CONJ [
                                    APP Pg 61 3 (some ⟨B234, 0, none⟩) 0 0 x230 l231 fun x239 l240 c241 =>
                                      ANDS (RDI .i64 (Addr.add ⟨B206, 0, none⟩ 0) fun n242 =>
                                        fun _ => ((.int .i64 n242) : Value) = (.int .i64 n233)) <|
                                        NEW 61 [(.int .i64 (Int.tmod (IntKind.wrap .i64 n12) n36)), (.int .i64 (Int.tmod (IntKind.wrap .i64 n11) (↑l34 : Int))), (.int .i64 n233)] fun B243 =>
                                          ANDS (RDL (Addr.add ⟨B13, 0, none⟩ 2) fun x244 l245 c246 =>
                                            fun _ => ((.slice x244 l245 c246) : Value) = (.slice x230 l231 c232)) <|
                                            APP Pg 61 3 x239 l240 c241 (some ⟨B243, 0, none⟩) 1 fun x247 l248 c249 =>
                                              WR (Addr.add (Addr.add ⟨B229, 0, none⟩ 2) 0) (.slice x247 l248 c249) <|
                                                J_law07_ClockAlone_1 W R B13 B229,
                                    NEW 61 [(.int .i64 (Int.tmod (IntKind.wrap .i64 n12) n36)), (.int .i64 (Int.tmod (IntKind.wrap .i64 n11) (↑l34 : Int))), (.int .i64 n233)] fun B251 =>
                                      ANDS (RDL (Addr.add ⟨B13, 0, none⟩ 2) fun x252 l253 c254 =>
                                        fun _ => ((.slice x252 l253 c254) : Value) = (.slice x230 l231 c232)) <|
                                        APP Pg 61 3 (some ⟨B234, 0, none⟩) 0 0 x230 l231 fun x255 l256 c257 =>
                                          ANDS (RDI .i64 (Addr.add ⟨B206, 0, none⟩ 0) fun n258 =>
                                            fun _ => ((.int .i64 n258) : Value) = (.int .i64 n233)) <|
                                            APP Pg 61 3 x255 l256 c257 (some ⟨B251, 0, none⟩) 1 fun x259 l260 c261 =>
                                              WR (Addr.add (Addr.add ⟨B229, 0, none⟩ 2) 0) (.slice x259 l260 c261) <|
                                                J_law07_ClockAlone_1 W R B13 B229],
                            NEW 61 [(.int .i64 (Int.tmod (IntKind.wrap .i64 n12) n36)), (.int .i64 (Int.tmod (IntKind.wrap .i64 n11) (↑l34 : Int))), (.int .i64 n233)] fun B262 =>
                              ANDS (RDL (Addr.add ⟨B13, 0, none⟩ 2) fun x263 l264 c265 =>
                                fun _ => ((.slice x263 l264 c265) : Value) = (.slice x230 l231 c232)) <|
                                NEW 61 [] fun B266 =>
                                  ANDS (RDI .i64 (Addr.add ⟨B206, 0, none⟩ 0) fun n267 =>
                                    fun _ => ((.int .i64 n267) : Value) = (.int .i64 n233)) <|
                                    ANDS (RDL (Addr.add ⟨B13, 0, none⟩ 2) fun x268 l269 c270 =>
                                      fun _ => ((.slice x268 l269 c270) : Value) = (.slice x230 l231 c232)) <|
                                      APP Pg 61 3 (some ⟨B266, 0, none⟩) 0 0 x230 l231 fun x271 l272 c273 =>
                                        ANDS (RDI .i64 (Addr.add ⟨B206, 0, none⟩ 0) fun n274 =>
                                          fun _ => ((.int .i64 n274) : Value) = (.int .i64 n233)) <|
                                          APP Pg 61 3 x271 l272 c273 (some ⟨B262, 0, none⟩) 1 fun x275 l276 c277 =>
                                            WR (Addr.add (Addr.add ⟨B229, 0, none⟩ 2) 0) (.slice x275 l276 c277) <|
                                              J_law07_ClockAlone_1 W R B13 B229])
def J_law07_ClockAlone_3 (W : World) (R : Ending → Hp → Prop) (b208 : Bool) (n205 : Int) (B206 : Nat) (B13 : Nat) (n12 : Int) (n36 : Int) (n11 : Int) (l34 : Nat) : Hp → Prop :=
  BR b208
    (J_law07_ClockAlone_2 W R true n205 B206 B13 n12 n36 n11 l34)
    (RDI .i64 (Addr.add ⟨B206, 0, none⟩ 0) fun n278 =>
      J_law07_ClockAlone_2 W R (decide (n278 > 2000)) n205 B206 B13 n12 n36 n11 l34)
def J_law07_ClockAlone_4 (W : World) (R : Ending → Hp → Prop) (b207 : Bool) (n205 : Int) (B206 : Nat) (B13 : Nat) (n12 : Int) (n36 : Int) (n11 : Int) (l34 : Nat) : Hp → Prop :=
  BR b207
    (J_law07_ClockAlone_3 W R true n205 B206 B13 n12 n36 n11 l34)
    (RDI .i64 (Addr.add ⟨B206, 0, none⟩ 0) fun n279 =>
      J_law07_ClockAlone_3 W R (decide (n279 < 0)) n205 B206 B13 n12 n36 n11 l34)
def J_law07_ClockAlone_5 (W : World) (R : Ending → Hp → Prop) (b180 : Bool) (B13 : Nat) (n11 : Int) (l34 : Nat) (n12 : Int) (n36 : Int) : Hp → Prop :=
  BR b180
    (R (.returned (.bool false)))
    (RDL (Addr.add ⟨B13, 0, none⟩ 0) fun x181 l182 c183 =>
      RDI .i64 (Addr.add ⟨B13, 0, none⟩ 1) fun n184 =>
        RDL (Addr.add ⟨B13, 0, none⟩ 2) fun x185 l186 c187 =>
          RDL (Addr.add ⟨B13, 0, none⟩ 3) fun x188 l189 c190 =>
            CALL Pg W F_clock_Shows [(.agg #[(.slice x181 l182 c183), (.int .i64 n184), (.slice x185 l186 c187), (.slice x188 l189 c190)]), (.int .i64 (Int.tmod (IntKind.wrap .i64 n11) (↑l34 : Int))), (.int .i64 (Int.tmod (IntKind.wrap .i64 n12) n36))]
              (fun v191 => TUP v191 fun q193 => HD q193 fun v194 r195 => AGG v194 fun q196 => HD q196 fun v197 r198 => TYI .i64 v197 fun n199 =>
                HD r198 fun v200 r201 => TYI .i64 v200 fun n202 =>
                  NL r201 <|
                    HD r195 fun v203 r204 => TYI .i64 v203 fun n205 =>
                      NL r204 <|
                        NEWZ Pg 34 fun B206 =>
                          WR (Addr.add ⟨B206, 0, none⟩ 0) (.int .i64 n199) <|
                            WR (Addr.add ⟨B206, 0, none⟩ 1) (.int .i64 n202) <|
                              BR (n205 != 0)
                                (J_law07_ClockAlone_4 W R true n205 B206 B13 n12 n36 n11 l34)
                                (RDI .i64 (Addr.add ⟨B206, 0, none⟩ 0) fun n280 =>
                                  RDI .i64 (Addr.add ⟨B206, 0, none⟩ 1) fun n281 =>
                                    J_law07_ClockAlone_4 W R (n280 != n281) n205 B206 B13 n12 n36 n11 l34))
                (fun e192 => R (.panicked e192)))
def J_law07_ClockAlone_6 (W : World) (R : Ending → Hp → Prop) (b179 : Bool) (B13 : Nat) (n11 : Int) (l34 : Nat) (n12 : Int) (n36 : Int) (n148 : Int) : Hp → Prop :=
  BR b179
    (J_law07_ClockAlone_5 W R true B13 n11 l34 n12 n36)
    (BR (n148 != 0)
      (J_law07_ClockAlone_5 W R (n148 != 10) B13 n11 l34 n12 n36)
      (J_law07_ClockAlone_5 W R false B13 n11 l34 n12 n36))
def J_law07_ClockAlone_7 (W : World) (R : Ending → Hp → Prop) (p113 : Option Addr) (n11 : Int) (l34 : Nat) (B13 : Nat) (n12 : Int) (n36 : Int) : Hp → Prop :=
  SO p113 fun a114 =>
    RDL (Addr.add a114 0) fun x115 l116 c117 =>
      RDI .i64 (Addr.add a114 1) fun n118 =>
        RDL (Addr.add a114 2) fun x119 l120 c121 =>
          RDL (Addr.add a114 3) fun x122 l123 c124 =>
            CALL Pg W F_clock_Goes [(.agg #[(.slice x115 l116 c117), (.int .i64 n118), (.slice x119 l120 c121), (.slice x122 l123 c124)]), (.int .i64 (Int.tmod (IntKind.wrap .i64 n11) (↑l34 : Int)))]
              (fun v125 => TUP v125 fun q127 => HD q127 fun v128 r129 => AGG v128 fun q130 => HD q130 fun v131 r132 => TYI .i64 v131 fun n133 =>
                HD r132 fun v134 r135 => TYI .i64 v134 fun n136 =>
                  NL r135 <|
                    HD r129 fun v137 r138 => AGG v137 fun q139 => HD q139 fun v140 r141 => TYI .i64 v140 fun n142 =>
                      HD r141 fun v143 r144 => TYI .i64 v143 fun n145 =>
                        NL r144 <|
                          HD r138 fun v146 r147 => TYI .i64 v146 fun n148 =>
                            NL r147 <|
                              NEWZ Pg 34 fun B149 =>
                                NEWZ Pg 34 fun B150 =>
                                  WR (Addr.add ⟨B149, 0, none⟩ 0) (.int .i64 n133) <|
                                    WR (Addr.add ⟨B149, 0, none⟩ 1) (.int .i64 n136) <|
                                      WR (Addr.add ⟨B150, 0, none⟩ 0) (.int .i64 n142) <|
                                        WR (Addr.add ⟨B150, 0, none⟩ 1) (.int .i64 n145) <|
                                          BR (n148 == 0)
                                            (RDI .i64 (Addr.add ⟨B149, 0, none⟩ 0) fun n151 =>
                                              RDI .i64 (Addr.add ⟨B149, 0, none⟩ 1) fun n152 =>
                                                RDL (Addr.add ⟨B13, 0, none⟩ 0) fun x153 l154 c155 =>
                                                  IXS x153 l154 (Int.tmod (IntKind.wrap .i64 n11) (↑l34 : Int)) 4 fun a156 =>
                                                    RDI .i64 (Addr.add (Addr.add a156 0) 0) fun n157 =>
                                                      RDI .i64 (Addr.add (Addr.add a156 0) 1) fun n158 =>
                                                        BR (!((n151 == n157) && (n152 == n158)))
                                                          (J_law07_ClockAlone_6 W R true B13 n11 l34 n12 n36 n148)
                                                          (RDI .i64 (Addr.add ⟨B150, 0, none⟩ 0) fun n282 =>
                                                            RDI .i64 (Addr.add ⟨B150, 0, none⟩ 1) fun n283 =>
                                                              RDL (Addr.add ⟨B13, 0, none⟩ 0) fun x284 l285 c286 =>
                                                                IXS x284 l285 (Int.tmod (IntKind.wrap .i64 n11) (↑l34 : Int)) 4 fun a287 =>
                                                                  RDI .i64 (Addr.add (Addr.add a287 2) 0) fun n288 =>
                                                                    RDI .i64 (Addr.add (Addr.add a287 2) 1) fun n289 =>
                                                                      J_law07_ClockAlone_6 W R (!((n282 == n288) && (n283 == n289))) B13 n11 l34 n12 n36 n148))
                                            (J_law07_ClockAlone_6 W R false B13 n11 l34 n12 n36 n148))
                (fun e126 => R (.panicked e126))
def J_law07_ClockAlone_8 (W : World) (R : Ending → Hp → Prop) (b29 : Bool) (B13 : Nat) (n11 : Int) (n12 : Int) : Hp → Prop :=
  BR b29
    (CALL Pg W F_law07_alive []
      (fun v30 => TYB v30 fun b32 =>
        R (.returned (.bool b32)))
        (fun e31 => R (.panicked e31)))
    (RDL (Addr.add ⟨B13, 0, none⟩ 0) fun x33 l34 c35 =>
      NZI (↑l34 : Int) <|
        RDI .i64 (Addr.add ⟨B13, 0, none⟩ 1) fun n36 =>
          NZI n36 <|
            ANDS (RDI .i64 (Addr.add ⟨B13, 0, none⟩ 1) fun n37 =>
              fun _ => ((.int .i64 n37) : Value) = (.int .i64 n36)) <|
              RDL (Addr.add ⟨B13, 0, none⟩ 0) fun x38 l39 c40 =>
                RDI .i64 (Addr.add ⟨B13, 0, none⟩ 1) fun n41 =>
                  RDL (Addr.add ⟨B13, 0, none⟩ 2) fun x42 l43 c44 =>
                    RDL (Addr.add ⟨B13, 0, none⟩ 3) fun x45 l46 c47 =>
                      RDL (Addr.add ⟨B13, 0, none⟩ 0) fun x48 l49 c50 =>
                        RDI .i64 (Addr.add ⟨B13, 0, none⟩ 1) fun n51 =>
                          RDL (Addr.add ⟨B13, 0, none⟩ 2) fun x52 l53 c54 =>
                            RDL (Addr.add ⟨B13, 0, none⟩ 3) fun x55 l56 c57 =>
                              CONJ [
                                CALL Pg W F_ref07_Without [(.agg #[(.slice x48 l49 c50), (.int .i64 n51), (.slice x52 l53 c54), (.slice x55 l56 c57)]), (.int .i64 (Int.tmod (IntKind.wrap .i64 n11) (↑l34 : Int)))]
                                  (fun v58 => TYI .i64 v58 fun n60 =>
                                    ANDS (RDL (Addr.add ⟨B13, 0, none⟩ 0) fun x61 l62 c63 =>
                                      RDI .i64 (Addr.add ⟨B13, 0, none⟩ 1) fun n64 =>
                                        RDL (Addr.add ⟨B13, 0, none⟩ 2) fun x65 l66 c67 =>
                                          RDL (Addr.add ⟨B13, 0, none⟩ 3) fun x68 l69 c70 =>
                                            fun _ => ((.agg #[(.slice x61 l62 c63), (.int .i64 n64), (.slice x65 l66 c67), (.slice x68 l69 c70)]) : Value) = (.agg #[(.slice x38 l39 c40), (.int .i64 n41), (.slice x42 l43 c44), (.slice x45 l46 c47)])) <|
                                      CONJ [
                                        CALL Pg W F_law07_part [(.agg #[(.slice x38 l39 c40), (.int .i64 n41), (.slice x42 l43 c44), (.slice x45 l46 c47)]), (.int .i64 n60)]
                                          (fun v71 => AGG v71 fun q73 => HD q73 fun v74 r75 => TYL v74 fun x76 l77 c78 =>
                                            HD r75 fun v79 r80 => TYI .i64 v79 fun n81 =>
                                              HD r80 fun v82 r83 => TYL v82 fun x84 l85 c86 =>
                                                HD r83 fun v87 r88 => TYL v87 fun x89 l90 c91 =>
                                                  NL r88 <|
                                                    NEWZ Pg 26 fun B92 =>
                                                      ANDS (RDL (Addr.add ⟨B13, 0, none⟩ 0) fun x93 l94 c95 =>
                                                        RDI .i64 (Addr.add ⟨B13, 0, none⟩ 1) fun n96 =>
                                                          RDL (Addr.add ⟨B13, 0, none⟩ 2) fun x97 l98 c99 =>
                                                            RDL (Addr.add ⟨B13, 0, none⟩ 3) fun x100 l101 c102 =>
                                                              fun _ => ((.agg #[(.slice x93 l94 c95), (.int .i64 n96), (.slice x97 l98 c99), (.slice x100 l101 c102)]) : Value) = (.agg #[(.slice x48 l49 c50), (.int .i64 n51), (.slice x52 l53 c54), (.slice x55 l56 c57)])) <|
                                                        ANDS (RDL (Addr.add ⟨B13, 0, none⟩ 0) fun x103 l104 c105 =>
                                                          RDI .i64 (Addr.add ⟨B13, 0, none⟩ 1) fun n106 =>
                                                            RDL (Addr.add ⟨B13, 0, none⟩ 2) fun x107 l108 c109 =>
                                                              RDL (Addr.add ⟨B13, 0, none⟩ 3) fun x110 l111 c112 =>
                                                                fun _ => ((.agg #[(.slice x103 l104 c105), (.int .i64 n106), (.slice x107 l108 c109), (.slice x110 l111 c112)]) : Value) = (.agg #[(.slice x38 l39 c40), (.int .i64 n41), (.slice x42 l43 c44), (.slice x45 l46 c47)])) <|
                                                          WR (Addr.add ⟨B92, 0, none⟩ 0) (.slice x76 l77 c78) <|
                                                            WR (Addr.add ⟨B92, 0, none⟩ 1) (.int .i64 n81) <|
                                                              WR (Addr.add ⟨B92, 0, none⟩ 2) (.slice x84 l85 c86) <|
                                                                WR (Addr.add ⟨B92, 0, none⟩ 3) (.slice x89 l90 c91) <|
                                                                  J_law07_ClockAlone_7 W R (some ⟨B92, 0, none⟩) n11 l34 B13 n12 n36)
                                            (fun e72 => R (.panicked e72)),
                                        NEWZ Pg 26 fun B290 =>
                                          ANDS (RDL (Addr.add ⟨B13, 0, none⟩ 0) fun x291 l292 c293 =>
                                            RDI .i64 (Addr.add ⟨B13, 0, none⟩ 1) fun n294 =>
                                              RDL (Addr.add ⟨B13, 0, none⟩ 2) fun x295 l296 c297 =>
                                                RDL (Addr.add ⟨B13, 0, none⟩ 3) fun x298 l299 c300 =>
                                                  fun _ => ((.agg #[(.slice x291 l292 c293), (.int .i64 n294), (.slice x295 l296 c297), (.slice x298 l299 c300)]) : Value) = (.agg #[(.slice x48 l49 c50), (.int .i64 n51), (.slice x52 l53 c54), (.slice x55 l56 c57)])) <|
                                            ANDS (RDL (Addr.add ⟨B13, 0, none⟩ 0) fun x301 l302 c303 =>
                                              RDI .i64 (Addr.add ⟨B13, 0, none⟩ 1) fun n304 =>
                                                RDL (Addr.add ⟨B13, 0, none⟩ 2) fun x305 l306 c307 =>
                                                  RDL (Addr.add ⟨B13, 0, none⟩ 3) fun x308 l309 c310 =>
                                                    fun _ => ((.agg #[(.slice x301 l302 c303), (.int .i64 n304), (.slice x305 l306 c307), (.slice x308 l309 c310)]) : Value) = (.agg #[(.slice x38 l39 c40), (.int .i64 n41), (.slice x42 l43 c44), (.slice x45 l46 c47)])) <|
                                              CALL Pg W F_law07_part [(.agg #[(.slice x38 l39 c40), (.int .i64 n41), (.slice x42 l43 c44), (.slice x45 l46 c47)]), (.int .i64 n60)]
                                                (fun v311 => AGG v311 fun q313 => HD q313 fun v314 r315 => TYL v314 fun x316 l317 c318 =>
                                                  HD r315 fun v319 r320 => TYI .i64 v319 fun n321 =>
                                                    HD r320 fun v322 r323 => TYL v322 fun x324 l325 c326 =>
                                                      HD r323 fun v327 r328 => TYL v327 fun x329 l330 c331 =>
                                                        NL r328 <|
                                                          WR (Addr.add ⟨B290, 0, none⟩ 0) (.slice x316 l317 c318) <|
                                                            WR (Addr.add ⟨B290, 0, none⟩ 1) (.int .i64 n321) <|
                                                              WR (Addr.add ⟨B290, 0, none⟩ 2) (.slice x324 l325 c326) <|
                                                                WR (Addr.add ⟨B290, 0, none⟩ 3) (.slice x329 l330 c331) <|
                                                                  J_law07_ClockAlone_7 W R (some ⟨B290, 0, none⟩) n11 l34 B13 n12 n36)
                                                  (fun e312 => R (.panicked e312))])
                                    (fun e59 => R (.panicked e59)),
                                NEWZ Pg 26 fun B332 =>
                                  ANDS (RDL (Addr.add ⟨B13, 0, none⟩ 0) fun x333 l334 c335 =>
                                    RDI .i64 (Addr.add ⟨B13, 0, none⟩ 1) fun n336 =>
                                      RDL (Addr.add ⟨B13, 0, none⟩ 2) fun x337 l338 c339 =>
                                        RDL (Addr.add ⟨B13, 0, none⟩ 3) fun x340 l341 c342 =>
                                          fun _ => ((.agg #[(.slice x333 l334 c335), (.int .i64 n336), (.slice x337 l338 c339), (.slice x340 l341 c342)]) : Value) = (.agg #[(.slice x48 l49 c50), (.int .i64 n51), (.slice x52 l53 c54), (.slice x55 l56 c57)])) <|
                                    ANDS (RDL (Addr.add ⟨B13, 0, none⟩ 0) fun x343 l344 c345 =>
                                      RDI .i64 (Addr.add ⟨B13, 0, none⟩ 1) fun n346 =>
                                        RDL (Addr.add ⟨B13, 0, none⟩ 2) fun x347 l348 c349 =>
                                          RDL (Addr.add ⟨B13, 0, none⟩ 3) fun x350 l351 c352 =>
                                            fun _ => ((.agg #[(.slice x343 l344 c345), (.int .i64 n346), (.slice x347 l348 c349), (.slice x350 l351 c352)]) : Value) = (.agg #[(.slice x38 l39 c40), (.int .i64 n41), (.slice x42 l43 c44), (.slice x45 l46 c47)])) <|
                                      CALL Pg W F_ref07_Without [(.agg #[(.slice x48 l49 c50), (.int .i64 n51), (.slice x52 l53 c54), (.slice x55 l56 c57)]), (.int .i64 (Int.tmod (IntKind.wrap .i64 n11) (↑l34 : Int)))]
                                        (fun v353 => TYI .i64 v353 fun n355 =>
                                          ANDS (RDL (Addr.add ⟨B13, 0, none⟩ 0) fun x356 l357 c358 =>
                                            RDI .i64 (Addr.add ⟨B13, 0, none⟩ 1) fun n359 =>
                                              RDL (Addr.add ⟨B13, 0, none⟩ 2) fun x360 l361 c362 =>
                                                RDL (Addr.add ⟨B13, 0, none⟩ 3) fun x363 l364 c365 =>
                                                  fun _ => ((.agg #[(.slice x356 l357 c358), (.int .i64 n359), (.slice x360 l361 c362), (.slice x363 l364 c365)]) : Value) = (.agg #[(.slice x38 l39 c40), (.int .i64 n41), (.slice x42 l43 c44), (.slice x45 l46 c47)])) <|
                                            CALL Pg W F_law07_part [(.agg #[(.slice x38 l39 c40), (.int .i64 n41), (.slice x42 l43 c44), (.slice x45 l46 c47)]), (.int .i64 n355)]
                                              (fun v366 => AGG v366 fun q368 => HD q368 fun v369 r370 => TYL v369 fun x371 l372 c373 =>
                                                HD r370 fun v374 r375 => TYI .i64 v374 fun n376 =>
                                                  HD r375 fun v377 r378 => TYL v377 fun x379 l380 c381 =>
                                                    HD r378 fun v382 r383 => TYL v382 fun x384 l385 c386 =>
                                                      NL r383 <|
                                                        WR (Addr.add ⟨B332, 0, none⟩ 0) (.slice x371 l372 c373) <|
                                                          WR (Addr.add ⟨B332, 0, none⟩ 1) (.int .i64 n376) <|
                                                            WR (Addr.add ⟨B332, 0, none⟩ 2) (.slice x379 l380 c381) <|
                                                              WR (Addr.add ⟨B332, 0, none⟩ 3) (.slice x384 l385 c386) <|
                                                                J_law07_ClockAlone_7 W R (some ⟨B332, 0, none⟩) n11 l34 B13 n12 n36)
                                                (fun e367 => R (.panicked e367)))
                                          (fun e354 => R (.panicked e354))])
def J_law07_ClockAlone_9 (W : World) (R : Ending → Hp → Prop) (b28 : Bool) (B13 : Nat) (n11 : Int) (n12 : Int) : Hp → Prop :=
  BR b28
    (J_law07_ClockAlone_8 W R true B13 n11 n12)
    (RDI .i64 (Addr.add ⟨B13, 0, none⟩ 1) fun n387 =>
      J_law07_ClockAlone_8 W R (n387 == 0) B13 n11 n12)
def J_law07_ClockAlone_10 (W : World) (R : Ending → Hp → Prop) (b27 : Bool) (B13 : Nat) (n11 : Int) (n12 : Int) : Hp → Prop :=
  BR b27
    (J_law07_ClockAlone_9 W R true B13 n11 n12)
    (RDL (Addr.add ⟨B13, 0, none⟩ 0) fun x388 l389 c390 =>
      J_law07_ClockAlone_9 W R ((↑l389 : Int) == 0) B13 n11 n12)
def J_law07_ClockAlone_11 (W : World) (R : Ending → Hp → Prop) (b459 : Bool) (za0 : Addr) (za1 : Addr) (zn2 : Int) (nx0 : List Value → Hp → Prop) (b404 : Bool) (n405 : Int) : Hp → Prop :=
  BR b459
    (R (.returned (.bool false)))
    (NX [(.pointer (some za0)), (.pointer (some za1)), (.int .i64 zn2), (.tuple #[])] [(.pointer (some za0)), (.pointer (some za1)), (.int .i64 zn2), (.tuple #[])] (nx0 [(.bool b404), (.int .i64 (IntKind.wrap .i64 (n405 + 1)))]))
def J_law07_ClockAlone_12 (W : World) (R : Ending → Hp → Prop) (b458 : Bool) (za0 : Addr) (za1 : Addr) (zn2 : Int) (nx0 : List Value → Hp → Prop) (b404 : Bool) (n405 : Int) (B431 : Nat) (B457 : Nat) : Hp → Prop :=
  BR b458
    (J_law07_ClockAlone_11 W R true za0 za1 zn2 nx0 b404 n405)
    (RDI .i64 (Addr.add ⟨B431, 0, none⟩ 0) fun n460 =>
      RDI .i64 (Addr.add ⟨B431, 0, none⟩ 1) fun n461 =>
        RDI .i64 (Addr.add ⟨B457, 0, none⟩ 0) fun n462 =>
          RDI .i64 (Addr.add ⟨B457, 0, none⟩ 1) fun n463 =>
            J_law07_ClockAlone_11 W R (!((n460 == n462) && (n461 == n463))) za0 za1 zn2 nx0 b404 n405)
def B_law07_ClockAlone_0 (W : World) (R : Ending → Hp → Prop) (za0 : Addr) (za1 : Addr) (zn2 : Int) (b404 : Bool) (n405 : Int) (nx0 : List Value → Hp → Prop) : Hp → Prop :=
  BR (decide (n405 < zn2))
    (RDL (Addr.add za0 0) fun x406 l407 c408 =>
      RDI .i64 (Addr.add za0 1) fun n409 =>
        RDL (Addr.add za0 2) fun x410 l411 c412 =>
          RDL (Addr.add za0 3) fun x413 l414 c415 =>
            CALL Pg W F_clock_When [(.agg #[(.slice x406 l407 c408), (.int .i64 n409), (.slice x410 l411 c412), (.slice x413 l414 c415)]), (.int .i64 n405)]
              (fun v416 => TUP v416 fun q418 => HD q418 fun v419 r420 => AGG v419 fun q421 => HD q421 fun v422 r423 => TYI .i64 v422 fun n424 =>
                HD r423 fun v425 r426 => TYI .i64 v425 fun n427 =>
                  NL r426 <|
                    HD r420 fun v428 r429 => TYI .i64 v428 fun n430 =>
                      NL r429 <|
                        NEWZ Pg 34 fun B431 =>
                          WR (Addr.add ⟨B431, 0, none⟩ 0) (.int .i64 n424) <|
                            WR (Addr.add ⟨B431, 0, none⟩ 1) (.int .i64 n427) <|
                              RDL (Addr.add za1 0) fun x432 l433 c434 =>
                                RDI .i64 (Addr.add za1 1) fun n435 =>
                                  RDL (Addr.add za1 2) fun x436 l437 c438 =>
                                    RDL (Addr.add za1 3) fun x439 l440 c441 =>
                                      CALL Pg W F_clock_When [(.agg #[(.slice x432 l433 c434), (.int .i64 n435), (.slice x436 l437 c438), (.slice x439 l440 c441)]), (.int .i64 n405)]
                                        (fun v442 => TUP v442 fun q444 => HD q444 fun v445 r446 => AGG v445 fun q447 => HD q447 fun v448 r449 => TYI .i64 v448 fun n450 =>
                                          HD r449 fun v451 r452 => TYI .i64 v451 fun n453 =>
                                            NL r452 <|
                                              HD r446 fun v454 r455 => TYI .i64 v454 fun n456 =>
                                                NL r455 <|
                                                  NEWZ Pg 34 fun B457 =>
                                                    WR (Addr.add ⟨B457, 0, none⟩ 0) (.int .i64 n450) <|
                                                      WR (Addr.add ⟨B457, 0, none⟩ 1) (.int .i64 n453) <|
                                                        BR (n430 != 0)
                                                          (J_law07_ClockAlone_12 W R true za0 za1 zn2 nx0 b404 n405 B431 B457)
                                                          (J_law07_ClockAlone_12 W R (n456 != 0) za0 za1 zn2 nx0 b404 n405 B431 B457))
                                          (fun e443 => R (.panicked e443)))
                (fun e417 => R (.panicked e417)))
    (CALL Pg W F_law07_alive []
      (fun v464 => TYB v464 fun b466 =>
        R (.returned (.bool b466)))
        (fun e465 => R (.panicked e465)))
theorem B_law07_ClockAlone_0_eq (W : World) (R : Ending → Hp → Prop) (za0 : Addr) (za1 : Addr) (zn2 : Int) (b404 : Bool) (n405 : Int) (nx0 : List Value → Hp → Prop) (j : Tm) : vc Pg W 178 rs_8 an_8 false (sub (bodyOf Try.f8) [1, 1, 1, 1, 1, 1, 1, 1, 1, 1, 0, 1, 0, 0]) 0 (KLoop [6, 150] [3, 15, 149, 178] [(.pointer (some za0)), (.pointer (some za1)), (.int .i64 zn2), (.tuple #[])] nx0 (KBlk 0 (KS Pg W 178 rs_8 an_8 false (sub (bodyOf Try.f8) [1, 1, 1, 1, 1, 1, 1, 1, 1, 1, 1]) 0 (fin Pg W 178 rv_8 R)))) (known [6, 150] [(.bool b404), (.int .i64 n405)] (known [3, 15, 149, 178] [(.pointer (some za0)), (.pointer (some za1)), (.int .i64 zn2), (.tuple #[])] j)) = B_law07_ClockAlone_0 W R za0 za1 zn2 b404 n405 nx0 := by kernel_rfl
def N_law07_ClockAlone_0 (I : Bool → Int → Hp → Prop) (μ : Bool → Int → Hp → Nat) (b4040 : Bool) (n4050 : Int) (s : Hp) (vs : List Value) : Hp → Prop := fun s' => ∃ b404 n405, vs = [(.bool b404), (.int .i64 n405)] ∧ I b404 n405 s' ∧ μ b404 n405 s' < μ b4040 n4050 s
theorem L_law07_ClockAlone_0_rule (W : World) (R : Ending → Hp → Prop) (za0 : Addr) (za1 : Addr) (zn2 : Int) (I : Bool → Int → Hp → Prop) (μ : Bool → Int → Hp → Nat) (b4040 : Bool) (n4050 : Int) (s : Hp) (h0 : I b4040 n4050 s)
    (hr : ∀ (b404 : Bool) (n405 : Int) (s : Hp), I b404 n405 s → B_law07_ClockAlone_0 W R za0 za1 zn2 b404 n405 (fun vs => N_law07_ClockAlone_0 I μ b404 n405 s vs) s) : L_law07_ClockAlone_0 W R za0 za1 zn2 b4040 n4050 s := by
  refine ⟨fun vs s => ∃ b404 n405, vs = [(.bool b404), (.int .i64 n405)] ∧ I b404 n405 s, fun vs s => (match vs with | [.bool b404, .int _ n405] => μ b404 n405 s | _ => 0), ⟨⟨⟨_, rfl⟩, ⟨⟨_, rfl⟩, trivial⟩⟩, ⟨_, _, rfl, h0⟩⟩, ?_⟩
  intro b404 n405 s hI j
  obtain ⟨b404', n405', hy, hI⟩ := hI
  have hI' : I b404 n405 s := by cases hy; exact hI
  have hh := hr b404 n405 s hI'
  rw [← B_law07_ClockAlone_0_eq W R za0 za1 zn2 b404 n405 _ j] at hh
  refine vc_mono ?_ _ _ hh
  exact KLoop_mono (fun vs s' h => by obtain ⟨b4041, n4051, rfl, h1, h2⟩ := h; exact ⟨⟨⟨_, rfl⟩, ⟨⟨_, rfl⟩, trivial⟩⟩, ⟨_, _, rfl, h1⟩, h2⟩)
def T_law07_ClockAlone (W : World) (x1 : Option Addr) (l2 : Nat) (c3 : Nat) (n4 : Int) (x5 : Option Addr) (l6 : Nat) (c7 : Nat) (x8 : Option Addr) (l9 : Nat) (c10 : Nat) (n11 : Int) (n12 : Int) (R : Ending → Hp → Prop) : Hp → Prop :=
  NEW 26 [(.slice x1 l2 c3), (.int .i64 n4), (.slice x5 l6 c7), (.slice x8 l9 c10)] fun B13 =>
    RDL (Addr.add ⟨B13, 0, none⟩ 0) fun x14 l15 c16 =>
      RDI .i64 (Addr.add ⟨B13, 0, none⟩ 1) fun n17 =>
        RDL (Addr.add ⟨B13, 0, none⟩ 2) fun x18 l19 c20 =>
          RDL (Addr.add ⟨B13, 0, none⟩ 3) fun x21 l22 c23 =>
            CALL Pg W F_law07_heavy [(.agg #[(.slice x14 l15 c16), (.int .i64 n17), (.slice x18 l19 c20), (.slice x21 l22 c23)]), (.int .i64 100), (.int .i64 7)]
              (fun v24 => TYB v24 fun b26 =>
                BR b26
                  (J_law07_ClockAlone_10 W R true B13 n11 n12)
                  (RDL (Addr.add ⟨B13, 0, none⟩ 0) fun x391 l392 c393 =>
                    RDI .i64 (Addr.add ⟨B13, 0, none⟩ 1) fun n394 =>
                      RDL (Addr.add ⟨B13, 0, none⟩ 2) fun x395 l396 c397 =>
                        RDL (Addr.add ⟨B13, 0, none⟩ 3) fun x398 l399 c400 =>
                          CALL Pg W F_ref07_Clock [(.agg #[(.slice x391 l392 c393), (.int .i64 n394), (.slice x395 l396 c397), (.slice x398 l399 c400)])]
                            (fun v401 => TYB v401 fun b403 =>
                              J_law07_ClockAlone_10 W R (!b403) B13 n11 n12)
                              (fun e402 => R (.panicked e402))))
                (fun e25 => R (.panicked e25))
theorem T_law07_ClockAlone_eq (W : World) (x1 : Option Addr) (l2 : Nat) (c3 : Nat) (n4 : Int) (x5 : Option Addr) (l6 : Nat) (c7 : Nat) (x8 : Option Addr) (l9 : Nat) (c10 : Nat) (n11 : Int) (n12 : Int) (R : Ending → Hp → Prop) : vfun Pg W an_8 Try.f8 [(.agg #[(.slice x1 l2 c3), (.int .i64 n4), (.slice x5 l6 c7), (.slice x8 l9 c10)]), (.int .u8 n11), (.int .u8 n12)] R = T_law07_ClockAlone W x1 l2 c3 n4 x5 l6 c7 x8 l9 c10 n11 n12 R := by kernel_rfl
theorem does_law07_ClockAlone (W : World) (x1 : Option Addr) (l2 : Nat) (c3 : Nat) (n4 : Int) (x5 : Option Addr) (l6 : Nat) (c7 : Nat) (x8 : Option Addr) (l9 : Nat) (c10 : Nat) (n11 : Int) (n12 : Int) (R : Ending → Hp → Prop) (s : Hp) (h : T_law07_ClockAlone W x1 l2 c3 n4 x5 l6 c7 x8 l9 c10 n11 n12 R s) : Does Pg W F_law07_ClockAlone #[(.agg #[(.slice x1 l2 c3), (.int .i64 n4), (.slice x5 l6 c7), (.slice x8 l9 c10)]), (.int .u8 n11), (.int .u8 n12)] s R :=
  does_of_vfun Pg W an_8 Try.func8 rfl (by kernel_rfl) (by rw [T_law07_ClockAlone_eq]; exact h)
end Go.Proofs.Ytknpmijgdfeliaa.G

/- Clock: ClockAlone. -/
set_option linter.unusedSimpArgs false
set_option linter.unusedVariables false
set_option maxRecDepth 20000
namespace Go.Proofs.Ytknpmijgdfeliaa.G
open Go.V
theorem qr_ok {c : Clk} {val : List Go' → (Int → Int) → Int} {lo hi err : Int} {is : Bool} (h : QR c is val lo hi err) (ho : okC c = true) (hi' : is = true) : (err = 10 ∧ ¬ CanC c (everyN c) ∧ lo = 0 ∧ hi = 0) ∨ (err = 0 ∧ CanC c (everyN c) ∧ SpanC c (everyN c) val lo hi) := by
  rcases h with ⟨h1, _⟩ | ⟨_, h1, _⟩ | ⟨_, _, h1, h2, h3, rfl⟩ | ⟨_, _, h1, h2, rfl⟩
  · rw [ho] at h1; cases h1
  · rw [hi'] at h1; cases h1
  · exact .inl ⟨rfl, h1, h2, h3⟩
  · exact .inr ⟨rfl, h1, h2⟩
theorem span_le {c : Clk} {S : Nat} {val : List Go' → (Int → Int) → Int} {lo hi : Int} (h : SpanC c S val lo hi) : lo ≤ hi := by
  obtain ⟨⟨g1, m1, t1, v1⟩, _, h3⟩ := h
  have := h3 _ _ t1
  omega
section
variable {W : World} {K : VK} {E : List PanicEntry → Hp → Prop} {s : Hp} {c : Clk} {x y z : Option Addr} {c1 c2 c3 : Nat}
/-- The loop over events of two clocks of which the same is true. -/
theorem alone_loop {c' : Clk} {x' y' z' : Option Addr} {d1 d2 d3 : Nat} {a0 a1 : Addr} (hc : ClV s c x y z) (hc' : ClV s c' x' y' z') (hok : okC c = true) (hok' : okC c' = true) (hn : c'.n = c.n) (he : ∀ g m, Truth c (everyN c) g m ↔ Truth c' (everyN c') g m) (hcan : CanC c (everyN c))
    (q1 : cellAt s (a0.add 0) = some (.slice x c.ws.length c1)) (q2 : cellAt s (a0.add 1) = some (.int .i64 c.n)) (q3 : cellAt s (a0.add 2) = some (.slice y c.rs.length c2)) (q4 : cellAt s (a0.add 3) = some (.slice z c.ls.length c3))
    (r1 : cellAt s (a1.add 0) = some (.slice x' c'.ws.length d1)) (r2 : cellAt s (a1.add 1) = some (.int .i64 c'.n)) (r3 : cellAt s (a1.add 2) = some (.slice y' c'.rs.length d2)) (r4 : cellAt s (a1.add 3) = some (.slice z' c'.ls.length d3))
    (h : ∀ s', Ext s s' → K (.bool true) s') : L_law07_ClockAlone_0 W (endK K E) a0 a1 c.n false 0 s := by
  have hv := okC_iff.1 hok
  have hn5 := hv.n5
  refine L_law07_ClockAlone_0_rule W _ a0 a1 c.n (fun _ n t => Ext s t ∧ ∃ k : Nat, n = k ∧ (k : Int) ≤ c.n) (fun _ n _ => (c.n - n).toNat) false 0 s ⟨Ext.refl _, 0, rfl, hv.n0⟩ ?_
  rintro b n t ⟨et, k, rfl, hk⟩
  generalize hnx : (fun vs => N_law07_ClockAlone_0 _ _ b (k : Int) t vs) = nx
  unfold B_law07_ClockAlone_0
  refine BR_dec (fun hlt => ?_) (fun hge => ?_)
  · refine ⟨_, _, _, et.cell q1, ⟨_, et.cell q2, ⟨_, _, _, et.cell q3, ⟨_, _, _, et.cell q4, ?_⟩⟩⟩⟩
    refine c_When (hc.ext et) fun t1 lo hi er f1 w1 => ?_
    try simp only [TUP_mk, AGG_mk, HD_mk, NL_mk, TYI_mk, TYB_mk, TYP_mk, TYL_mk, TYS_mk, TYM_mk, SO_mk, NX_mk, endK_mk, endK_mk', add_0]
    refine nw2 zc_34 rfl rfl fun t2 f2 y2 p1 p2 => ?_
    have e2 := (et.trans f1).trans f2
    refine ⟨_, _, _, e2.cell r1, ⟨_, e2.cell r2, ⟨_, _, _, e2.cell r3, ⟨_, _, _, e2.cell r4, ?_⟩⟩⟩⟩
    refine c_When (hc'.ext e2) fun t3 lo' hi' er' f3 w2 => ?_
    try simp only [TUP_mk, AGG_mk, HD_mk, NL_mk, TYI_mk, TYB_mk, TYP_mk, TYL_mk, TYS_mk, TYM_mk, SO_mk, NX_mk, endK_mk, endK_mk', add_0]
    refine nw2 zc_34 rfl rfl fun t4 f4 y4 p3 p4 => ?_
    have f34 := f3.trans f4
    have h1 := (qr_ok w1 hok (decide_eq_true ⟨by omega, hlt⟩)).resolve_left fun h => h.2.1 hcan
    have hcan' : CanC c' (everyN c') := by obtain ⟨g, m, h⟩ := hcan; exact ⟨g, m, (he g m).1 h⟩
    have h2 := (qr_ok w2 hok' (decide_eq_true ⟨by omega, by omega⟩)).resolve_left fun h => h.2.1 hcan'
    obtain ⟨rfl, _, s1⟩ := h1
    obtain ⟨rfl, _, s2⟩ := h2
    obtain ⟨rfl, rfl⟩ := span_uniq s1 s2 he
    refine BR_ff rfl ?_
    unfold J_law07_ClockAlone_12
    refine BR_ff rfl ⟨_, (f34.own p1).cell, ⟨_, (f34.own p2).cell, ⟨_, p3.cell, ⟨_, p4.cell, ?_⟩⟩⟩⟩
    unfold J_law07_ClockAlone_11
    refine BR_ff (by simp) ?_
    try simp only [TUP_mk, AGG_mk, HD_mk, NL_mk, TYI_mk, TYB_mk, TYP_mk, TYL_mk, TYS_mk, TYM_mk, SO_mk, NX_mk, endK_mk, endK_mk', add_0]
    rw [← hnx]
    refine ⟨_, _, rfl, ⟨e2.trans f34, k + 1, wrap_succ (by omega), by omega⟩, ?_⟩
    rw [wrap_succ (by omega)]
    show (c.n - ((k + 1 : Nat) : Int)).toNat < (c.n - (k : Int)).toNat
    omega
  · exact c_alive fun t2 e2 => h t2 (et.trans e2)
end
end Go.Proofs.Ytknpmijgdfeliaa.G

/- More of the functions' shallow texts, by gen.py. -/
set_option linter.unusedVariables false
set_option maxRecDepth 100000
namespace Go.Proofs.Ytknpmijgdfeliaa.G
open Go.V
def an_5 : Nat → Ann := fun b => match b with
  | 0 => { ms := [2, 62], ks := [.b, .i .i64], us := [3, 4, 5, 60, 61, 193], rt := false, ex := [] }
  | 2 => { ms := [2, 83], ks := [.b, .i .i64], us := [3, 4, 5, 10, 11, 60, 61, 62, 81, 82, 193], rt := false, ex := [] }
  | 4 => { ms := [2, 137], ks := [.b, .i .i64], us := [3, 4, 5, 10, 11, 60, 61, 62, 135, 136, 193], rt := false, ex := [] }
  | 6 => { ms := [2, 163], ks := [.b, .i .i64], us := [3, 161, 162, 193], rt := false, ex := [] }
  | _ => {}
abbrev rv_5 : List ResultVar := [.tmp 2]
abbrev rs_5 : List Nat := [193, 2]
def L_law07_ClockTrue_0 (W : World) (R : Ending → Hp → Prop) (za0 : Addr) (zp1 : Option Addr) (zl2 : Nat) (zl3 : Nat) (zp4 : Option Addr) (zl5 : Nat) (zl6 : Nat) (zn7 : Int) (b84 : Bool) (n85 : Int) : Hp → Prop :=
  LOOPN [.b, .i .i64] (fun ys next s => ∀ j : Tm, vc Pg W 193 rs_5 an_5 false (sub (bodyOf Try.f5) [1, 1, 1, 1, 1, 1, 0, 1, 0, 0]) 0 (KLoop [2, 62] [3, 4, 5, 60, 61, 193] [(.pointer (some za0)), (.slice zp1 zl2 zl3), (.slice zp4 zl5 zl6), (.slice zp4 zl5 zl6), (.int .i64 zn7), (.tuple #[])] next (KBlk 0 (KS Pg W 193 rs_5 an_5 false (sub (bodyOf Try.f5) [1, 1, 1, 1, 1, 1, 1]) 0 (fin Pg W 193 rv_5 R)))) (known [2, 62] ys (known [3, 4, 5, 60, 61, 193] [(.pointer (some za0)), (.slice zp1 zl2 zl3), (.slice zp4 zl5 zl6), (.slice zp4 zl5 zl6), (.int .i64 zn7), (.tuple #[])] j)) s) [(.bool b84), (.int .i64 n85)]
def L_law07_ClockTrue_1 (W : World) (R : Ending → Hp → Prop) (nx0 : List Value → Hp → Prop) (za0 : Addr) (zp1 : Option Addr) (zl2 : Nat) (zl3 : Nat) (zp4 : Option Addr) (zl5 : Nat) (zl6 : Nat) (zn7 : Int) (zn8 : Int) (zn9 : Int) (zn10 : Int) (b120 : Bool) (n121 : Int) : Hp → Prop :=
  LOOPN [.b, .i .i64] (fun ys next s => ∀ j : Tm, vc Pg W 193 rs_5 an_5 false (sub (bodyOf Try.f5) [1, 1, 1, 1, 1, 1, 0, 1, 0, 0, 1, 1, 0, 0, 1, 1, 1, 0, 1, 0, 0]) 2 (KLoop [2, 83] [3, 4, 5, 10, 11, 60, 61, 62, 81, 82, 193] [(.pointer (some za0)), (.slice zp1 zl2 zl3), (.slice zp4 zl5 zl6), (.int .i64 zn7), (.int .i64 zn8), (.slice zp4 zl5 zl6), (.int .i64 zn9), (.int .i64 zn7), (.slice zp4 zl5 zl6), (.int .i64 zn10), (.tuple #[])] next (KBlk 2 (KS Pg W 193 rs_5 an_5 false (sub (bodyOf Try.f5) [1, 1, 1, 1, 1, 1, 0, 1, 0, 0, 1, 1, 0, 0, 1, 1, 1, 1]) 1 (KBlk 1 (KS Pg W 193 rs_5 an_5 false (sub (bodyOf Try.f5) [1, 1, 1, 1, 1, 1, 0, 1, 0, 0, 1, 1, 1]) 0 (KLoop [2, 62] [3, 4, 5, 60, 61, 193] [(.pointer (some za0)), (.slice zp1 zl2 zl3), (.slice zp4 zl5 zl6), (.slice zp4 zl5 zl6), (.int .i64 zn9), (.tuple #[])] nx0 (KBlk 0 (KS Pg W 193 rs_5 an_5 false (sub (bodyOf Try.f5) [1, 1, 1, 1, 1, 1, 1]) 0 (fin Pg W 193 rv_5 R))))))))) (known [2, 83] ys (known [3, 4, 5, 10, 11, 60, 61, 62, 81, 82, 193] [(.pointer (some za0)), (.slice zp1 zl2 zl3), (.slice zp4 zl5 zl6), (.int .i64 zn7), (.int .i64 zn8), (.slice zp4 zl5 zl6), (.int .i64 zn9), (.int .i64 zn7), (.slice zp4 zl5 zl6), (.int .i64 zn10), (.tuple #[])] j)) s) [(.bool b120), (.int .i64 n121)]
def L_law07_ClockTrue_2 (W : World) (R : Ending → Hp → Prop) (za0 : Addr) (zp1 : Option Addr) (zl2 : Nat) (zl3 : Nat) (zn4 : Int) (b178 : Bool) (n179 : Int) : Hp → Prop :=
  LOOPN [.b, .i .i64] (fun ys next s => ∀ j : Tm, vc Pg W 193 rs_5 an_5 false (sub (bodyOf Try.f5) [1, 1, 1, 1, 1, 1, 1, 0, 1, 0, 0]) 6 (KLoop [2, 163] [3, 161, 162, 193] [(.pointer (some za0)), (.slice zp1 zl2 zl3), (.int .i64 zn4), (.tuple #[])] next (KBlk 6 (KS Pg W 193 rs_5 an_5 false (sub (bodyOf Try.f5) [1, 1, 1, 1, 1, 1, 1, 1]) 0 (fin Pg W 193 rv_5 R)))) (known [2, 163] ys (known [3, 161, 162, 193] [(.pointer (some za0)), (.slice zp1 zl2 zl3), (.int .i64 zn4), (.tuple #[])] j)) s) [(.bool b178), (.int .i64 n179)]
def L_law07_ClockTrue_3 (W : World) (R : Ending → Hp → Prop) (nx0 : List Value → Hp → Prop) (za0 : Addr) (zp1 : Option Addr) (zl2 : Nat) (zl3 : Nat) (zp4 : Option Addr) (zl5 : Nat) (zl6 : Nat) (zn7 : Int) (zn8 : Int) (zn9 : Int) (zn10 : Int) (b237 : Bool) (n238 : Int) : Hp → Prop :=
  LOOPN [.b, .i .i64] (fun ys next s => ∀ j : Tm, vc Pg W 193 rs_5 an_5 false (sub (bodyOf Try.f5) [1, 1, 1, 1, 1, 1, 0, 1, 0, 0, 1, 1, 0, 0, 1, 1, 1, 1, 1, 0, 0]) 4 (KLoop [2, 137] [3, 4, 5, 10, 11, 60, 61, 62, 135, 136, 193] [(.pointer (some za0)), (.slice zp1 zl2 zl3), (.slice zp4 zl5 zl6), (.int .i64 zn7), (.int .i64 zn8), (.slice zp4 zl5 zl6), (.int .i64 zn9), (.int .i64 zn7), (.slice zp1 zl2 zl3), (.int .i64 zn10), (.tuple #[])] next (KBlk 4 (KBlk 1 (KS Pg W 193 rs_5 an_5 false (sub (bodyOf Try.f5) [1, 1, 1, 1, 1, 1, 0, 1, 0, 0, 1, 1, 1]) 0 (KLoop [2, 62] [3, 4, 5, 60, 61, 193] [(.pointer (some za0)), (.slice zp1 zl2 zl3), (.slice zp4 zl5 zl6), (.slice zp4 zl5 zl6), (.int .i64 zn9), (.tuple #[])] nx0 (KBlk 0 (KS Pg W 193 rs_5 an_5 false (sub (bodyOf Try.f5) [1, 1, 1, 1, 1, 1, 1]) 0 (fin Pg W 193 rv_5 R)))))))) (known [2, 137] ys (known [3, 4, 5, 10, 11, 60, 61, 62, 135, 136, 193] [(.pointer (some za0)), (.slice zp1 zl2 zl3), (.slice zp4 zl5 zl6), (.int .i64 zn7), (.int .i64 zn8), (.slice zp4 zl5 zl6), (.int .i64 zn9), (.int .i64 zn7), (.slice zp1 zl2 zl3), (.int .i64 zn10), (.tuple #[])] j)) s) [(.bool b237), (.int .i64 n238)]
def J_law07_ClockTrue_0 (W : World) (R : Ending → Hp → Prop) (b83 : Bool) (B43 : Nat) (x35 : Option Addr) (l36 : Nat) (c37 : Nat) (x40 : Option Addr) (l41 : Nat) (c42 : Nat) : Hp → Prop :=
  BR b83
    (R (.returned (.bool false)))
    (L_law07_ClockTrue_0 W R ⟨B43, 0, none⟩ x35 l36 c37 x40 l41 c42 (↑l41 : Int) false 0)
def J_law07_ClockTrue_1 (W : World) (R : Ending → Hp → Prop) (b82 : Bool) (B43 : Nat) (x35 : Option Addr) (l36 : Nat) (c37 : Nat) (x40 : Option Addr) (l41 : Nat) (c42 : Nat) (n81 : Int) : Hp → Prop :=
  BR b82
    (J_law07_ClockTrue_0 W R true B43 x35 l36 c37 x40 l41 c42)
    (J_law07_ClockTrue_0 W R (n81 != 0) B43 x35 l36 c37 x40 l41 c42)
def J_law07_ClockTrue_2 (W : World) (R : Ending → Hp → Prop) (b114 : Bool) (nx0 : List Value → Hp → Prop) (za0 : Addr) (zp1 : Option Addr) (zl2 : Nat) (zl3 : Nat) (zp4 : Option Addr) (zl5 : Nat) (zl6 : Nat) (n85 : Int) (n87 : Int) (zn7 : Int) (b84 : Bool) : Hp → Prop :=
  BR b114
    (R (.returned (.bool false)))
    (L_law07_ClockTrue_1 W R nx0 za0 zp1 zl2 zl3 zp4 zl5 zl6 n85 n87 zn7 (↑zl5 : Int) b84 0)
def J_law07_ClockTrue_3 (W : World) (R : Ending → Hp → Prop) (b172 : Bool) (za0 : Addr) (zp1 : Option Addr) (zl2 : Nat) (zl3 : Nat) (zp4 : Option Addr) (zl5 : Nat) (zl6 : Nat) (zn7 : Int) (zn8 : Int) (zn9 : Int) (zn10 : Int) (nx1 : List Value → Hp → Prop) (b120 : Bool) (n121 : Int) : Hp → Prop :=
  BR b172
    (R (.returned (.bool false)))
    (NX [(.pointer (some za0)), (.slice zp1 zl2 zl3), (.slice zp4 zl5 zl6), (.int .i64 zn7), (.int .i64 zn8), (.slice zp4 zl5 zl6), (.int .i64 zn9), (.int .i64 zn7), (.slice zp4 zl5 zl6), (.int .i64 zn10), (.tuple #[])] [(.pointer (some za0)), (.slice zp1 zl2 zl3), (.slice zp4 zl5 zl6), (.int .i64 zn7), (.int .i64 zn8), (.slice zp4 zl5 zl6), (.int .i64 zn9), (.int .i64 zn7), (.slice zp4 zl5 zl6), (.int .i64 zn10), (.tuple #[])] (nx1 [(.bool b120), (.int .i64 (IntKind.wrap .i64 (n121 + 1)))]))
def J_law07_ClockTrue_4 (W : World) (R : Ending → Hp → Prop) (b171 : Bool) (za0 : Addr) (zp1 : Option Addr) (zl2 : Nat) (zl3 : Nat) (zp4 : Option Addr) (zl5 : Nat) (zl6 : Nat) (zn7 : Int) (zn8 : Int) (zn9 : Int) (zn10 : Int) (nx1 : List Value → Hp → Prop) (b120 : Bool) (n121 : Int) (n165 : Int) (n123 : Int) : Hp → Prop :=
  BR b171
    (J_law07_ClockTrue_3 W R true za0 zp1 zl2 zl3 zp4 zl5 zl6 zn7 zn8 zn9 zn10 nx1 b120 n121)
    (BR (n165 == 0)
      (J_law07_ClockTrue_3 W R (decide (zn8 < n123)) za0 zp1 zl2 zl3 zp4 zl5 zl6 zn7 zn8 zn9 zn10 nx1 b120 n121)
      (J_law07_ClockTrue_3 W R false za0 zp1 zl2 zl3 zp4 zl5 zl6 zn7 zn8 zn9 zn10 nx1 b120 n121))
def J_law07_ClockTrue_5 (W : World) (R : Ending → Hp → Prop) (b170 : Bool) (za0 : Addr) (zp1 : Option Addr) (zl2 : Nat) (zl3 : Nat) (zp4 : Option Addr) (zl5 : Nat) (zl6 : Nat) (zn7 : Int) (zn8 : Int) (zn9 : Int) (zn10 : Int) (nx1 : List Value → Hp → Prop) (b120 : Bool) (n121 : Int) (n165 : Int) (n123 : Int) : Hp → Prop :=
  BR b170
    (J_law07_ClockTrue_4 W R true za0 zp1 zl2 zl3 zp4 zl5 zl6 zn7 zn8 zn9 zn10 nx1 b120 n121 n165 n123)
    (BR (n165 == 2)
      (J_law07_ClockTrue_4 W R (decide (zn8 ≥ n123)) za0 zp1 zl2 zl3 zp4 zl5 zl6 zn7 zn8 zn9 zn10 nx1 b120 n121 n165 n123)
      (J_law07_ClockTrue_4 W R false za0 zp1 zl2 zl3 zp4 zl5 zl6 zn7 zn8 zn9 zn10 nx1 b120 n121 n165 n123))
def J_law07_ClockTrue_6 (W : World) (R : Ending → Hp → Prop) (b169 : Bool) (za0 : Addr) (zp1 : Option Addr) (zl2 : Nat) (zl3 : Nat) (zp4 : Option Addr) (zl5 : Nat) (zl6 : Nat) (zn7 : Int) (zn8 : Int) (zn9 : Int) (zn10 : Int) (nx1 : List Value → Hp → Prop) (b120 : Bool) (n121 : Int) (n165 : Int) (n123 : Int) (n168 : Int) : Hp → Prop :=
  BR b169
    (J_law07_ClockTrue_5 W R true za0 zp1 zl2 zl3 zp4 zl5 zl6 zn7 zn8 zn9 zn10 nx1 b120 n121 n165 n123)
    (J_law07_ClockTrue_5 W R (n168 != 0) za0 zp1 zl2 zl3 zp4 zl5 zl6 zn7 zn8 zn9 zn10 nx1 b120 n121 n165 n123)
def J_law07_ClockTrue_7 (W : World) (R : Ending → Hp → Prop) (b221 : Bool) (za0 : Addr) (zp1 : Option Addr) (zl2 : Nat) (zl3 : Nat) (zn4 : Int) (nx2 : List Value → Hp → Prop) (b178 : Bool) (n179 : Int) : Hp → Prop :=
  BR b221
    (R (.returned (.bool false)))
    (NX [(.pointer (some za0)), (.slice zp1 zl2 zl3), (.int .i64 zn4), (.tuple #[])] [(.pointer (some za0)), (.slice zp1 zl2 zl3), (.int .i64 zn4), (.tuple #[])] (nx2 [(.bool b178), (.int .i64 (IntKind.wrap .i64 (n179 + 1)))]))
def J_law07_ClockTrue_8 (W : World) (R : Ending → Hp → Prop) (b220 : Bool) (za0 : Addr) (zp1 : Option Addr) (zl2 : Nat) (zl3 : Nat) (zn4 : Int) (nx2 : List Value → Hp → Prop) (b178 : Bool) (n179 : Int) (B183 : Nat) (B219 : Nat) : Hp → Prop :=
  BR b220
    (J_law07_ClockTrue_7 W R true za0 zp1 zl2 zl3 zn4 nx2 b178 n179)
    (RDI .i64 (Addr.add ⟨B183, 0, none⟩ 1) fun n222 =>
      RDI .i64 (Addr.add ⟨B219, 0, none⟩ 0) fun n223 =>
        RDI .i64 (Addr.add ⟨B219, 0, none⟩ 1) fun n224 =>
          CALL Pg W F_law07_inside [(.int .i64 n222), (.agg #[(.int .i64 n223), (.int .i64 n224)])]
            (fun v225 => TYB v225 fun b227 =>
              J_law07_ClockTrue_7 W R (!b227) za0 zp1 zl2 zl3 zn4 nx2 b178 n179)
              (fun e226 => R (.panicked e226)))
def J_law07_ClockTrue_9 (W : World) (R : Ending → Hp → Prop) (b269 : Bool) (za0 : Addr) (zp1 : Option Addr) (zl2 : Nat) (zl3 : Nat) (zp4 : Option Addr) (zl5 : Nat) (zl6 : Nat) (zn7 : Int) (zn8 : Int) (zn9 : Int) (zn10 : Int) (nx3 : List Value → Hp → Prop) (b237 : Bool) (n238 : Int) : Hp → Prop :=
  BR b269
    (R (.returned (.bool false)))
    (NX [(.pointer (some za0)), (.slice zp1 zl2 zl3), (.slice zp4 zl5 zl6), (.int .i64 zn7), (.int .i64 zn8), (.slice zp4 zl5 zl6), (.int .i64 zn9), (.int .i64 zn7), (.slice zp1 zl2 zl3), (.int .i64 zn10), (.tuple #[])] [(.pointer (some za0)), (.slice zp1 zl2 zl3), (.slice zp4 zl5 zl6), (.int .i64 zn7), (.int .i64 zn8), (.slice zp4 zl5 zl6), (.int .i64 zn9), (.int .i64 zn7), (.slice zp1 zl2 zl3), (.int .i64 zn10), (.tuple #[])] (nx3 [(.bool b237), (.int .i64 (IntKind.wrap .i64 (n238 + 1)))]))
def B_law07_ClockTrue_0 (W : World) (R : Ending → Hp → Prop) (za0 : Addr) (zp1 : Option Addr) (zl2 : Nat) (zl3 : Nat) (zp4 : Option Addr) (zl5 : Nat) (zl6 : Nat) (zn7 : Int) (b84 : Bool) (n85 : Int) (nx0 : List Value → Hp → Prop) : Hp → Prop :=
  BR (decide (n85 < zn7))
    (IXS zp4 zl5 n85 1 fun a86 =>
      RDI .i64 a86 fun n87 =>
        RDL (Addr.add za0 0) fun x88 l89 c90 =>
          RDI .i64 (Addr.add za0 1) fun n91 =>
            RDL (Addr.add za0 2) fun x92 l93 c94 =>
              RDL (Addr.add za0 3) fun x95 l96 c97 =>
                CALL Pg W F_clock_When [(.agg #[(.slice x88 l89 c90), (.int .i64 n91), (.slice x92 l93 c94), (.slice x95 l96 c97)]), (.int .i64 n85)]
                  (fun v98 => TUP v98 fun q100 => HD q100 fun v101 r102 => AGG v101 fun q103 => HD q103 fun v104 r105 => TYI .i64 v104 fun n106 =>
                    HD r105 fun v107 r108 => TYI .i64 v107 fun n109 =>
                      NL r108 <|
                        HD r102 fun v110 r111 => TYI .i64 v110 fun n112 =>
                          NL r111 <|
                            NEWZ Pg 34 fun B113 =>
                              WR (Addr.add ⟨B113, 0, none⟩ 0) (.int .i64 n106) <|
                                WR (Addr.add ⟨B113, 0, none⟩ 1) (.int .i64 n109) <|
                                  BR (n112 != 0)
                                    (J_law07_ClockTrue_2 W R true nx0 za0 zp1 zl2 zl3 zp4 zl5 zl6 n85 n87 zn7 b84)
                                    (RDI .i64 (Addr.add ⟨B113, 0, none⟩ 0) fun n115 =>
                                      RDI .i64 (Addr.add ⟨B113, 0, none⟩ 1) fun n116 =>
                                        CALL Pg W F_law07_inside [(.int .i64 n87), (.agg #[(.int .i64 n115), (.int .i64 n116)])]
                                          (fun v117 => TYB v117 fun b119 =>
                                            J_law07_ClockTrue_2 W R (!b119) nx0 za0 zp1 zl2 zl3 zp4 zl5 zl6 n85 n87 zn7 b84)
                                            (fun e118 => R (.panicked e118))))
                    (fun e99 => R (.panicked e99)))
    (L_law07_ClockTrue_2 W R za0 zp1 zl2 zl3 (↑zl2 : Int) b84 0)
theorem B_law07_ClockTrue_0_eq (W : World) (R : Ending → Hp → Prop) (za0 : Addr) (zp1 : Option Addr) (zl2 : Nat) (zl3 : Nat) (zp4 : Option Addr) (zl5 : Nat) (zl6 : Nat) (zn7 : Int) (b84 : Bool) (n85 : Int) (nx0 : List Value → Hp → Prop) (j : Tm) : vc Pg W 193 rs_5 an_5 false (sub (bodyOf Try.f5) [1, 1, 1, 1, 1, 1, 0, 1, 0, 0]) 0 (KLoop [2, 62] [3, 4, 5, 60, 61, 193] [(.pointer (some za0)), (.slice zp1 zl2 zl3), (.slice zp4 zl5 zl6), (.slice zp4 zl5 zl6), (.int .i64 zn7), (.tuple #[])] nx0 (KBlk 0 (KS Pg W 193 rs_5 an_5 false (sub (bodyOf Try.f5) [1, 1, 1, 1, 1, 1, 1]) 0 (fin Pg W 193 rv_5 R)))) (known [2, 62] [(.bool b84), (.int .i64 n85)] (known [3, 4, 5, 60, 61, 193] [(.pointer (some za0)), (.slice zp1 zl2 zl3), (.slice zp4 zl5 zl6), (.slice zp4 zl5 zl6), (.int .i64 zn7), (.tuple #[])] j)) = B_law07_ClockTrue_0 W R za0 zp1 zl2 zl3 zp4 zl5 zl6 zn7 b84 n85 nx0 := by kernel_rfl
def N_law07_ClockTrue_0 (I : Bool → Int → Hp → Prop) (μ : Bool → Int → Hp → Nat) (b840 : Bool) (n850 : Int) (s : Hp) (vs : List Value) : Hp → Prop := fun s' => ∃ b84 n85, vs = [(.bool b84), (.int .i64 n85)] ∧ I b84 n85 s' ∧ μ b84 n85 s' < μ b840 n850 s
theorem L_law07_ClockTrue_0_rule (W : World) (R : Ending → Hp → Prop) (za0 : Addr) (zp1 : Option Addr) (zl2 : Nat) (zl3 : Nat) (zp4 : Option Addr) (zl5 : Nat) (zl6 : Nat) (zn7 : Int) (I : Bool → Int → Hp → Prop) (μ : Bool → Int → Hp → Nat) (b840 : Bool) (n850 : Int) (s : Hp) (h0 : I b840 n850 s)
    (hr : ∀ (b84 : Bool) (n85 : Int) (s : Hp), I b84 n85 s → B_law07_ClockTrue_0 W R za0 zp1 zl2 zl3 zp4 zl5 zl6 zn7 b84 n85 (fun vs => N_law07_ClockTrue_0 I μ b84 n85 s vs) s) : L_law07_ClockTrue_0 W R za0 zp1 zl2 zl3 zp4 zl5 zl6 zn7 b840 n850 s := by
  refine ⟨fun vs s => ∃ b84 n85, vs = [(.bool b84), (.int .i64 n85)] ∧ I b84 n85 s, fun vs s => (match vs with | [.bool b84, .int _ n85] => μ b84 n85 s | _ => 0), ⟨⟨⟨_, rfl⟩, ⟨⟨_, rfl⟩, trivial⟩⟩, ⟨_, _, rfl, h0⟩⟩, ?_⟩
  intro b84 n85 s hI j
  obtain ⟨b84', n85', hy, hI⟩ := hI
  have hI' : I b84 n85 s := by cases hy; exact hI
  have hh := hr b84 n85 s hI'
  rw [← B_law07_ClockTrue_0_eq W R za0 zp1 zl2 zl3 zp4 zl5 zl6 zn7 b84 n85 _ j] at hh
  refine vc_mono ?_ _ _ hh
  exact KLoop_mono (fun vs s' h => by obtain ⟨b841, n851, rfl, h1, h2⟩ := h; exact ⟨⟨⟨_, rfl⟩, ⟨⟨_, rfl⟩, trivial⟩⟩, ⟨_, _, rfl, h1⟩, h2⟩)
def B_law07_ClockTrue_1 (W : World) (R : Ending → Hp → Prop) (nx0 : List Value → Hp → Prop) (za0 : Addr) (zp1 : Option Addr) (zl2 : Nat) (zl3 : Nat) (zp4 : Option Addr) (zl5 : Nat) (zl6 : Nat) (zn7 : Int) (zn8 : Int) (zn9 : Int) (zn10 : Int) (b120 : Bool) (n121 : Int) (nx1 : List Value → Hp → Prop) : Hp → Prop :=
  BR (decide (n121 < zn10))
    (IXS zp4 zl5 n121 1 fun a122 =>
      RDI .i64 a122 fun n123 =>
        RDL (Addr.add za0 0) fun x124 l125 c126 =>
          RDI .i64 (Addr.add za0 1) fun n127 =>
            RDL (Addr.add za0 2) fun x128 l129 c130 =>
              RDL (Addr.add za0 3) fun x131 l132 c133 =>
                CALL Pg W F_clock_Lasted [(.agg #[(.slice x124 l125 c126), (.int .i64 n127), (.slice x128 l129 c130), (.slice x131 l132 c133)]), (.int .i64 zn7), (.int .i64 n121)]
                  (fun v134 => TUP v134 fun q136 => HD q136 fun v137 r138 => AGG v137 fun q139 => HD q139 fun v140 r141 => TYI .i64 v140 fun n142 =>
                    HD r141 fun v143 r144 => TYI .i64 v143 fun n145 =>
                      NL r144 <|
                        HD r138 fun v146 r147 => TYI .i64 v146 fun n148 =>
                          NL r147 <|
                            NEWZ Pg 34 fun B149 =>
                              WR (Addr.add ⟨B149, 0, none⟩ 0) (.int .i64 n142) <|
                                WR (Addr.add ⟨B149, 0, none⟩ 1) (.int .i64 n145) <|
                                  RDL (Addr.add za0 0) fun x150 l151 c152 =>
                                    RDI .i64 (Addr.add za0 1) fun n153 =>
                                      RDL (Addr.add za0 2) fun x154 l155 c156 =>
                                        RDL (Addr.add za0 3) fun x157 l158 c159 =>
                                          CALL Pg W F_clock_First [(.agg #[(.slice x150 l151 c152), (.int .i64 n153), (.slice x154 l155 c156), (.slice x157 l158 c159)]), (.int .i64 zn7), (.int .i64 n121)]
                                            (fun v160 => TUP v160 fun q162 => HD q162 fun v163 r164 => TYI .i64 v163 fun n165 =>
                                              HD r164 fun v166 r167 => TYI .i64 v166 fun n168 =>
                                                NL r167 <|
                                                  BR (n148 != 0)
                                                    (J_law07_ClockTrue_6 W R true za0 zp1 zl2 zl3 zp4 zl5 zl6 zn7 zn8 zn9 zn10 nx1 b120 n121 n165 n123 n168)
                                                    (RDI .i64 (Addr.add ⟨B149, 0, none⟩ 0) fun n173 =>
                                                      RDI .i64 (Addr.add ⟨B149, 0, none⟩ 1) fun n174 =>
                                                        CALL Pg W F_law07_inside [(.int .i64 (IntKind.wrap .i64 (n123 - zn8))), (.agg #[(.int .i64 n173), (.int .i64 n174)])]
                                                          (fun v175 => TYB v175 fun b177 =>
                                                            J_law07_ClockTrue_6 W R (!b177) za0 zp1 zl2 zl3 zp4 zl5 zl6 zn7 zn8 zn9 zn10 nx1 b120 n121 n165 n123 n168)
                                                            (fun e176 => R (.panicked e176))))
                                              (fun e161 => R (.panicked e161)))
                    (fun e135 => R (.panicked e135)))
    (L_law07_ClockTrue_3 W R nx0 za0 zp1 zl2 zl3 zp4 zl5 zl6 zn7 zn8 zn9 (↑zl2 : Int) b120 0)
theorem B_law07_ClockTrue_1_eq (W : World) (R : Ending → Hp → Prop) (nx0 : List Value → Hp → Prop) (za0 : Addr) (zp1 : Option Addr) (zl2 : Nat) (zl3 : Nat) (zp4 : Option Addr) (zl5 : Nat) (zl6 : Nat) (zn7 : Int) (zn8 : Int) (zn9 : Int) (zn10 : Int) (b120 : Bool) (n121 : Int) (nx1 : List Value → Hp → Prop) (j : Tm) : vc Pg W 193 rs_5 an_5 false (sub (bodyOf Try.f5) [1, 1, 1, 1, 1, 1, 0, 1, 0, 0, 1, 1, 0, 0, 1, 1, 1, 0, 1, 0, 0]) 2 (KLoop [2, 83] [3, 4, 5, 10, 11, 60, 61, 62, 81, 82, 193] [(.pointer (some za0)), (.slice zp1 zl2 zl3), (.slice zp4 zl5 zl6), (.int .i64 zn7), (.int .i64 zn8), (.slice zp4 zl5 zl6), (.int .i64 zn9), (.int .i64 zn7), (.slice zp4 zl5 zl6), (.int .i64 zn10), (.tuple #[])] nx1 (KBlk 2 (KS Pg W 193 rs_5 an_5 false (sub (bodyOf Try.f5) [1, 1, 1, 1, 1, 1, 0, 1, 0, 0, 1, 1, 0, 0, 1, 1, 1, 1]) 1 (KBlk 1 (KS Pg W 193 rs_5 an_5 false (sub (bodyOf Try.f5) [1, 1, 1, 1, 1, 1, 0, 1, 0, 0, 1, 1, 1]) 0 (KLoop [2, 62] [3, 4, 5, 60, 61, 193] [(.pointer (some za0)), (.slice zp1 zl2 zl3), (.slice zp4 zl5 zl6), (.slice zp4 zl5 zl6), (.int .i64 zn9), (.tuple #[])] nx0 (KBlk 0 (KS Pg W 193 rs_5 an_5 false (sub (bodyOf Try.f5) [1, 1, 1, 1, 1, 1, 1]) 0 (fin Pg W 193 rv_5 R))))))))) (known [2, 83] [(.bool b120), (.int .i64 n121)] (known [3, 4, 5, 10, 11, 60, 61, 62, 81, 82, 193] [(.pointer (some za0)), (.slice zp1 zl2 zl3), (.slice zp4 zl5 zl6), (.int .i64 zn7), (.int .i64 zn8), (.slice zp4 zl5 zl6), (.int .i64 zn9), (.int .i64 zn7), (.slice zp4 zl5 zl6), (.int .i64 zn10), (.tuple #[])] j)) = B_law07_ClockTrue_1 W R nx0 za0 zp1 zl2 zl3 zp4 zl5 zl6 zn7 zn8 zn9 zn10 b120 n121 nx1 := by kernel_rfl
def N_law07_ClockTrue_1 (I : Bool → Int → Hp → Prop) (μ : Bool → Int → Hp → Nat) (b1200 : Bool) (n1210 : Int) (s : Hp) (vs : List Value) : Hp → Prop := fun s' => ∃ b120 n121, vs = [(.bool b120), (.int .i64 n121)] ∧ I b120 n121 s' ∧ μ b120 n121 s' < μ b1200 n1210 s
theorem L_law07_ClockTrue_1_rule (W : World) (R : Ending → Hp → Prop) (nx0 : List Value → Hp → Prop) (za0 : Addr) (zp1 : Option Addr) (zl2 : Nat) (zl3 : Nat) (zp4 : Option Addr) (zl5 : Nat) (zl6 : Nat) (zn7 : Int) (zn8 : Int) (zn9 : Int) (zn10 : Int) (I : Bool → Int → Hp → Prop) (μ : Bool → Int → Hp → Nat) (b1200 : Bool) (n1210 : Int) (s : Hp) (h0 : I b1200 n1210 s)
    (hr : ∀ (b120 : Bool) (n121 : Int) (s : Hp), I b120 n121 s → B_law07_ClockTrue_1 W R nx0 za0 zp1 zl2 zl3 zp4 zl5 zl6 zn7 zn8 zn9 zn10 b120 n121 (fun vs => N_law07_ClockTrue_1 I μ b120 n121 s vs) s) : L_law07_ClockTrue_1 W R nx0 za0 zp1 zl2 zl3 zp4 zl5 zl6 zn7 zn8 zn9 zn10 b1200 n1210 s := by
  refine ⟨fun vs s => ∃ b120 n121, vs = [(.bool b120), (.int .i64 n121)] ∧ I b120 n121 s, fun vs s => (match vs with | [.bool b120, .int _ n121] => μ b120 n121 s | _ => 0), ⟨⟨⟨_, rfl⟩, ⟨⟨_, rfl⟩, trivial⟩⟩, ⟨_, _, rfl, h0⟩⟩, ?_⟩
  intro b120 n121 s hI j
  obtain ⟨b120', n121', hy, hI⟩ := hI
  have hI' : I b120 n121 s := by cases hy; exact hI
  have hh := hr b120 n121 s hI'
  rw [← B_law07_ClockTrue_1_eq W R nx0 za0 zp1 zl2 zl3 zp4 zl5 zl6 zn7 zn8 zn9 zn10 b120 n121 _ j] at hh
  refine vc_mono ?_ _ _ hh
  exact KLoop_mono (fun vs s' h => by obtain ⟨b1201, n1211, rfl, h1, h2⟩ := h; exact ⟨⟨⟨_, rfl⟩, ⟨⟨_, rfl⟩, trivial⟩⟩, ⟨_, _, rfl, h1⟩, h2⟩)
def B_law07_ClockTrue_2 (W : World) (R : Ending → Hp → Prop) (za0 : Addr) (zp1 : Option Addr) (zl2 : Nat) (zl3 : Nat) (zn4 : Int) (b178 : Bool) (n179 : Int) (nx2 : List Value → Hp → Prop) : Hp → Prop :=
  BR (decide (n179 < zn4))
    (IXS zp1 zl2 n179 2 fun a180 =>
      RDI .i64 (Addr.add a180 0) fun n181 =>
        RDI .i64 (Addr.add a180 1) fun n182 =>
          NEWZ Pg 55 fun B183 =>
            WR (Addr.add ⟨B183, 0, none⟩ 0) (.int .i64 n181) <|
              WR (Addr.add ⟨B183, 0, none⟩ 1) (.int .i64 n182) <|
                RDL (Addr.add za0 0) fun x184 l185 c186 =>
                  RDI .i64 (Addr.add za0 1) fun n187 =>
                    RDL (Addr.add za0 2) fun x188 l189 c190 =>
                      RDL (Addr.add za0 3) fun x191 l192 c193 =>
                        CALL Pg W F_clock_Goes [(.agg #[(.slice x184 l185 c186), (.int .i64 n187), (.slice x188 l189 c190), (.slice x191 l192 c193)]), (.int .i64 n179)]
                          (fun v194 => TUP v194 fun q196 => HD q196 fun v197 r198 => AGG v197 fun q199 => HD q199 fun v200 r201 => TYI .i64 v200 fun n202 =>
                            HD r201 fun v203 r204 => TYI .i64 v203 fun n205 =>
                              NL r204 <|
                                HD r198 fun v206 r207 => AGG v206 fun q208 => HD q208 fun v209 r210 => TYI .i64 v209 fun n211 =>
                                  HD r210 fun v212 r213 => TYI .i64 v212 fun n214 =>
                                    NL r213 <|
                                      HD r207 fun v215 r216 => TYI .i64 v215 fun n217 =>
                                        NL r216 <|
                                          NEWZ Pg 34 fun B218 =>
                                            NEWZ Pg 34 fun B219 =>
                                              WR (Addr.add ⟨B218, 0, none⟩ 0) (.int .i64 n202) <|
                                                WR (Addr.add ⟨B218, 0, none⟩ 1) (.int .i64 n205) <|
                                                  WR (Addr.add ⟨B219, 0, none⟩ 0) (.int .i64 n211) <|
                                                    WR (Addr.add ⟨B219, 0, none⟩ 1) (.int .i64 n214) <|
                                                      BR (n217 != 0)
                                                        (J_law07_ClockTrue_8 W R true za0 zp1 zl2 zl3 zn4 nx2 b178 n179 B183 B219)
                                                        (RDI .i64 (Addr.add ⟨B183, 0, none⟩ 0) fun n228 =>
                                                          RDI .i64 (Addr.add ⟨B218, 0, none⟩ 0) fun n229 =>
                                                            RDI .i64 (Addr.add ⟨B218, 0, none⟩ 1) fun n230 =>
                                                              CALL Pg W F_law07_inside [(.int .i64 n228), (.agg #[(.int .i64 n229), (.int .i64 n230)])]
                                                                (fun v231 => TYB v231 fun b233 =>
                                                                  J_law07_ClockTrue_8 W R (!b233) za0 zp1 zl2 zl3 zn4 nx2 b178 n179 B183 B219)
                                                                  (fun e232 => R (.panicked e232))))
                            (fun e195 => R (.panicked e195)))
    (CALL Pg W F_law07_alive []
      (fun v234 => TYB v234 fun b236 =>
        R (.returned (.bool b236)))
        (fun e235 => R (.panicked e235)))
theorem B_law07_ClockTrue_2_eq (W : World) (R : Ending → Hp → Prop) (za0 : Addr) (zp1 : Option Addr) (zl2 : Nat) (zl3 : Nat) (zn4 : Int) (b178 : Bool) (n179 : Int) (nx2 : List Value → Hp → Prop) (j : Tm) : vc Pg W 193 rs_5 an_5 false (sub (bodyOf Try.f5) [1, 1, 1, 1, 1, 1, 1, 0, 1, 0, 0]) 6 (KLoop [2, 163] [3, 161, 162, 193] [(.pointer (some za0)), (.slice zp1 zl2 zl3), (.int .i64 zn4), (.tuple #[])] nx2 (KBlk 6 (KS Pg W 193 rs_5 an_5 false (sub (bodyOf Try.f5) [1, 1, 1, 1, 1, 1, 1, 1]) 0 (fin Pg W 193 rv_5 R)))) (known [2, 163] [(.bool b178), (.int .i64 n179)] (known [3, 161, 162, 193] [(.pointer (some za0)), (.slice zp1 zl2 zl3), (.int .i64 zn4), (.tuple #[])] j)) = B_law07_ClockTrue_2 W R za0 zp1 zl2 zl3 zn4 b178 n179 nx2 := by kernel_rfl
def N_law07_ClockTrue_2 (I : Bool → Int → Hp → Prop) (μ : Bool → Int → Hp → Nat) (b1780 : Bool) (n1790 : Int) (s : Hp) (vs : List Value) : Hp → Prop := fun s' => ∃ b178 n179, vs = [(.bool b178), (.int .i64 n179)] ∧ I b178 n179 s' ∧ μ b178 n179 s' < μ b1780 n1790 s
theorem L_law07_ClockTrue_2_rule (W : World) (R : Ending → Hp → Prop) (za0 : Addr) (zp1 : Option Addr) (zl2 : Nat) (zl3 : Nat) (zn4 : Int) (I : Bool → Int → Hp → Prop) (μ : Bool → Int → Hp → Nat) (b1780 : Bool) (n1790 : Int) (s : Hp) (h0 : I b1780 n1790 s)
    (hr : ∀ (b178 : Bool) (n179 : Int) (s : Hp), I b178 n179 s → B_law07_ClockTrue_2 W R za0 zp1 zl2 zl3 zn4 b178 n179 (fun vs => N_law07_ClockTrue_2 I μ b178 n179 s vs) s) : L_law07_ClockTrue_2 W R za0 zp1 zl2 zl3 zn4 b1780 n1790 s := by
  refine ⟨fun vs s => ∃ b178 n179, vs = [(.bool b178), (.int .i64 n179)] ∧ I b178 n179 s, fun vs s => (match vs with | [.bool b178, .int _ n179] => μ b178 n179 s | _ => 0), ⟨⟨⟨_, rfl⟩, ⟨⟨_, rfl⟩, trivial⟩⟩, ⟨_, _, rfl, h0⟩⟩, ?_⟩
  intro b178 n179 s hI j
  obtain ⟨b178', n179', hy, hI⟩ := hI
  have hI' : I b178 n179 s := by cases hy; exact hI
  have hh := hr b178 n179 s hI'
  rw [← B_law07_ClockTrue_2_eq W R za0 zp1 zl2 zl3 zn4 b178 n179 _ j] at hh
  refine vc_mono ?_ _ _ hh
  exact KLoop_mono (fun vs s' h => by obtain ⟨b1781, n1791, rfl, h1, h2⟩ := h; exact ⟨⟨⟨_, rfl⟩, ⟨⟨_, rfl⟩, trivial⟩⟩, ⟨_, _, rfl, h1⟩, h2⟩)
def B_law07_ClockTrue_3 (W : World) (R : Ending → Hp → Prop) (nx0 : List Value → Hp → Prop) (za0 : Addr) (zp1 : Option Addr) (zl2 : Nat) (zl3 : Nat) (zp4 : Option Addr) (zl5 : Nat) (zl6 : Nat) (zn7 : Int) (zn8 : Int) (zn9 : Int) (zn10 : Int) (b237 : Bool) (n238 : Int) (nx3 : List Value → Hp → Prop) : Hp → Prop :=
  BR (decide (n238 < zn10))
    (IXS zp1 zl2 n238 2 fun a239 =>
      RDI .i64 (Addr.add a239 0) fun n240 =>
        RDI .i64 (Addr.add a239 1) fun n241 =>
          NEWZ Pg 55 fun B242 =>
            WR (Addr.add ⟨B242, 0, none⟩ 0) (.int .i64 n240) <|
              WR (Addr.add ⟨B242, 0, none⟩ 1) (.int .i64 n241) <|
                RDL (Addr.add za0 0) fun x243 l244 c245 =>
                  RDI .i64 (Addr.add za0 1) fun n246 =>
                    RDL (Addr.add za0 2) fun x247 l248 c249 =>
                      RDL (Addr.add za0 3) fun x250 l251 c252 =>
                        CALL Pg W F_clock_Shows [(.agg #[(.slice x243 l244 c245), (.int .i64 n246), (.slice x247 l248 c249), (.slice x250 l251 c252)]), (.int .i64 n238), (.int .i64 zn7)]
                          (fun v253 => TUP v253 fun q255 => HD q255 fun v256 r257 => AGG v256 fun q258 => HD q258 fun v259 r260 => TYI .i64 v259 fun n261 =>
                            HD r260 fun v262 r263 => TYI .i64 v262 fun n264 =>
                              NL r263 <|
                                HD r257 fun v265 r266 => TYI .i64 v265 fun n267 =>
                                  NL r266 <|
                                    NEWZ Pg 34 fun B268 =>
                                      WR (Addr.add ⟨B268, 0, none⟩ 0) (.int .i64 n261) <|
                                        WR (Addr.add ⟨B268, 0, none⟩ 1) (.int .i64 n264) <|
                                          BR (n267 != 0)
                                            (J_law07_ClockTrue_9 W R true za0 zp1 zl2 zl3 zp4 zl5 zl6 zn7 zn8 zn9 zn10 nx3 b237 n238)
                                            (RDI .i64 (Addr.add ⟨B242, 0, none⟩ 0) fun n270 =>
                                              RDI .i64 (Addr.add ⟨B242, 0, none⟩ 1) fun n271 =>
                                                RDI .i64 (Addr.add ⟨B268, 0, none⟩ 0) fun n272 =>
                                                  RDI .i64 (Addr.add ⟨B268, 0, none⟩ 1) fun n273 =>
                                                    CALL Pg W F_ref07_Show [(.agg #[(.int .i64 n270), (.int .i64 n271)]), (.int .i64 zn8)]
                                                      (fun v274 => TYI .i64 v274 fun n276 =>
                                                        ANDS (RDI .i64 (Addr.add ⟨B268, 0, none⟩ 0) fun n279 =>
                                                          RDI .i64 (Addr.add ⟨B268, 0, none⟩ 1) fun n280 =>
                                                            fun _ => ((.agg #[(.int .i64 n279), (.int .i64 n280)]) : Value) = (.agg #[(.int .i64 n272), (.int .i64 n273)])) <|
                                                          CALL Pg W F_law07_inside [(.int .i64 n276), (.agg #[(.int .i64 n272), (.int .i64 n273)])]
                                                            (fun v281 => TYB v281 fun b283 =>
                                                              J_law07_ClockTrue_9 W R (!b283) za0 zp1 zl2 zl3 zp4 zl5 zl6 zn7 zn8 zn9 zn10 nx3 b237 n238)
                                                              (fun e282 => R (.panicked e282)))
                                                        (fun e275 => R (.panicked e275))))
                            (fun e254 => R (.panicked e254)))
    (NX [(.pointer (some za0)), (.slice zp1 zl2 zl3), (.slice zp4 zl5 zl6), (.slice zp4 zl5 zl6), (.int .i64 zn9), (.tuple #[])] [(.pointer (some za0)), (.slice zp1 zl2 zl3), (.slice zp4 zl5 zl6), (.slice zp4 zl5 zl6), (.int .i64 zn9), (.tuple #[])] (nx0 [(.bool b237), (.int .i64 (IntKind.wrap .i64 (zn7 + 1)))]))
theorem B_law07_ClockTrue_3_eq (W : World) (R : Ending → Hp → Prop) (nx0 : List Value → Hp → Prop) (za0 : Addr) (zp1 : Option Addr) (zl2 : Nat) (zl3 : Nat) (zp4 : Option Addr) (zl5 : Nat) (zl6 : Nat) (zn7 : Int) (zn8 : Int) (zn9 : Int) (zn10 : Int) (b237 : Bool) (n238 : Int) (nx3 : List Value → Hp → Prop) (j : Tm) : vc Pg W 193 rs_5 an_5 false (sub (bodyOf Try.f5) [1, 1, 1, 1, 1, 1, 0, 1, 0, 0, 1, 1, 0, 0, 1, 1, 1, 1, 1, 0, 0]) 4 (KLoop [2, 137] [3, 4, 5, 10, 11, 60, 61, 62, 135, 136, 193] [(.pointer (some za0)), (.slice zp1 zl2 zl3), (.slice zp4 zl5 zl6), (.int .i64 zn7), (.int .i64 zn8), (.slice zp4 zl5 zl6), (.int .i64 zn9), (.int .i64 zn7), (.slice zp1 zl2 zl3), (.int .i64 zn10), (.tuple #[])] nx3 (KBlk 4 (KBlk 1 (KS Pg W 193 rs_5 an_5 false (sub (bodyOf Try.f5) [1, 1, 1, 1, 1, 1, 0, 1, 0, 0, 1, 1, 1]) 0 (KLoop [2, 62] [3, 4, 5, 60, 61, 193] [(.pointer (some za0)), (.slice zp1 zl2 zl3), (.slice zp4 zl5 zl6), (.slice zp4 zl5 zl6), (.int .i64 zn9), (.tuple #[])] nx0 (KBlk 0 (KS Pg W 193 rs_5 an_5 false (sub (bodyOf Try.f5) [1, 1, 1, 1, 1, 1, 1]) 0 (fin Pg W 193 rv_5 R)))))))) (known [2, 137] [(.bool b237), (.int .i64 n238)] (known [3, 4, 5, 10, 11, 60, 61, 62, 135, 136, 193] [(.pointer (some za0)), (.slice zp1 zl2 zl3), (.slice zp4 zl5 zl6), (.int .i64 zn7), (.int .i64 zn8), (.slice zp4 zl5 zl6), (.int .i64 zn9), (.int .i64 zn7), (.slice zp1 zl2 zl3), (.int .i64 zn10), (.tuple #[])] j)) = B_law07_ClockTrue_3 W R nx0 za0 zp1 zl2 zl3 zp4 zl5 zl6 zn7 zn8 zn9 zn10 b237 n238 nx3 := by kernel_rfl
def N_law07_ClockTrue_3 (I : Bool → Int → Hp → Prop) (μ : Bool → Int → Hp → Nat) (b2370 : Bool) (n2380 : Int) (s : Hp) (vs : List Value) : Hp → Prop := fun s' => ∃ b237 n238, vs = [(.bool b237), (.int .i64 n238)] ∧ I b237 n238 s' ∧ μ b237 n238 s' < μ b2370 n2380 s
theorem L_law07_ClockTrue_3_rule (W : World) (R : Ending → Hp → Prop) (nx0 : List Value → Hp → Prop) (za0 : Addr) (zp1 : Option Addr) (zl2 : Nat) (zl3 : Nat) (zp4 : Option Addr) (zl5 : Nat) (zl6 : Nat) (zn7 : Int) (zn8 : Int) (zn9 : Int) (zn10 : Int) (I : Bool → Int → Hp → Prop) (μ : Bool → Int → Hp → Nat) (b2370 : Bool) (n2380 : Int) (s : Hp) (h0 : I b2370 n2380 s)
    (hr : ∀ (b237 : Bool) (n238 : Int) (s : Hp), I b237 n238 s → B_law07_ClockTrue_3 W R nx0 za0 zp1 zl2 zl3 zp4 zl5 zl6 zn7 zn8 zn9 zn10 b237 n238 (fun vs => N_law07_ClockTrue_3 I μ b237 n238 s vs) s) : L_law07_ClockTrue_3 W R nx0 za0 zp1 zl2 zl3 zp4 zl5 zl6 zn7 zn8 zn9 zn10 b2370 n2380 s := by
  refine ⟨fun vs s => ∃ b237 n238, vs = [(.bool b237), (.int .i64 n238)] ∧ I b237 n238 s, fun vs s => (match vs with | [.bool b237, .int _ n238] => μ b237 n238 s | _ => 0), ⟨⟨⟨_, rfl⟩, ⟨⟨_, rfl⟩, trivial⟩⟩, ⟨_, _, rfl, h0⟩⟩, ?_⟩
  intro b237 n238 s hI j
  obtain ⟨b237', n238', hy, hI⟩ := hI
  have hI' : I b237 n238 s := by cases hy; exact hI
  have hh := hr b237 n238 s hI'
  rw [← B_law07_ClockTrue_3_eq W R nx0 za0 zp1 zl2 zl3 zp4 zl5 zl6 zn7 zn8 zn9 zn10 b237 n238 _ j] at hh
  refine vc_mono ?_ _ _ hh
  exact KLoop_mono (fun vs s' h => by obtain ⟨b2371, n2381, rfl, h1, h2⟩ := h; exact ⟨⟨⟨_, rfl⟩, ⟨⟨_, rfl⟩, trivial⟩⟩, ⟨_, _, rfl, h1⟩, h2⟩)
def T_law07_ClockTrue (W : World) (x1 : Option Addr) (l2 : Nat) (c3 : Nat) (R : Ending → Hp → Prop) : Hp → Prop :=
  BR ((↑l2 : Int) == 0)
    (CALL Pg W F_law07_alive []
      (fun v4 => TYB v4 fun b6 =>
        R (.returned (.bool b6)))
        (fun e5 => R (.panicked e5)))
    (CALL Pg W F_law07_draws [(.slice x1 l2 c3)]
      (fun v7 => CALL Pg W F_law07_made [v7]
        (fun v9 => TUP v9 fun q11 => HD q11 fun v12 r13 => AGG v12 fun q14 => HD q14 fun v15 r16 => TYL v15 fun x17 l18 c19 =>
          HD r16 fun v20 r21 => TYI .i64 v20 fun n22 =>
            HD r21 fun v23 r24 => TYL v23 fun x25 l26 c27 =>
              HD r24 fun v28 r29 => TYL v28 fun x30 l31 c32 =>
                NL r29 <|
                  HD r13 fun v33 r34 => TYL v33 fun x35 l36 c37 =>
                    HD r34 fun v38 r39 => TYL v38 fun x40 l41 c42 =>
                      NL r39 <|
                        NEWZ Pg 26 fun B43 =>
                          WR (Addr.add ⟨B43, 0, none⟩ 0) (.slice x17 l18 c19) <|
                            WR (Addr.add ⟨B43, 0, none⟩ 1) (.int .i64 n22) <|
                              WR (Addr.add ⟨B43, 0, none⟩ 2) (.slice x25 l26 c27) <|
                                WR (Addr.add ⟨B43, 0, none⟩ 3) (.slice x30 l31 c32) <|
                                  RDL (Addr.add ⟨B43, 0, none⟩ 0) fun x44 l45 c46 =>
                                    RDI .i64 (Addr.add ⟨B43, 0, none⟩ 1) fun n47 =>
                                      RDL (Addr.add ⟨B43, 0, none⟩ 2) fun x48 l49 c50 =>
                                        RDL (Addr.add ⟨B43, 0, none⟩ 3) fun x51 l52 c53 =>
                                          CALL Pg W F_clock_Wrong [(.agg #[(.slice x44 l45 c46), (.int .i64 n47), (.slice x48 l49 c50), (.slice x51 l52 c53)])]
                                            (fun v54 => TUP v54 fun q56 => HD q56 fun v57 r58 => TYI .i64 v57 fun n59 =>
                                              HD r58 fun v60 r61 => TYI .i64 v60 fun n62 =>
                                                NL r61 <|
                                                  RDL (Addr.add ⟨B43, 0, none⟩ 0) fun x63 l64 c65 =>
                                                    RDI .i64 (Addr.add ⟨B43, 0, none⟩ 1) fun n66 =>
                                                      RDL (Addr.add ⟨B43, 0, none⟩ 2) fun x67 l68 c69 =>
                                                        RDL (Addr.add ⟨B43, 0, none⟩ 3) fun x70 l71 c72 =>
                                                          CALL Pg W F_clock_Drop [(.agg #[(.slice x63 l64 c65), (.int .i64 n66), (.slice x67 l68 c69), (.slice x70 l71 c72)])]
                                                            (fun v73 => TUP v73 fun q75 => HD q75 fun v76 r77 => TYI .i64 v76 fun n78 =>
                                                              HD r77 fun v79 r80 => TYI .i64 v79 fun n81 =>
                                                                NL r80 <|
                                                                  BR (n62 != 4)
                                                                    (J_law07_ClockTrue_1 W R true B43 x35 l36 c37 x40 l41 c42 n81)
                                                                    (J_law07_ClockTrue_1 W R (n78 != 0) B43 x35 l36 c37 x40 l41 c42 n81))
                                                              (fun e74 => R (.panicked e74)))
                                              (fun e55 => R (.panicked e55)))
          (fun e10 => R (.panicked e10)))
        (fun e8 => R (.panicked e8)))
theorem T_law07_ClockTrue_eq (W : World) (x1 : Option Addr) (l2 : Nat) (c3 : Nat) (R : Ending → Hp → Prop) : vfun Pg W an_5 Try.f5 [(.slice x1 l2 c3)] R = T_law07_ClockTrue W x1 l2 c3 R := by kernel_rfl
theorem does_law07_ClockTrue (W : World) (x1 : Option Addr) (l2 : Nat) (c3 : Nat) (R : Ending → Hp → Prop) (s : Hp) (h : T_law07_ClockTrue W x1 l2 c3 R s) : Does Pg W F_law07_ClockTrue #[(.slice x1 l2 c3)] s R :=
  does_of_vfun Pg W an_5 Try.func5 rfl (by kernel_rfl) (by rw [T_law07_ClockTrue_eq]; exact h)
end Go.Proofs.Ytknpmijgdfeliaa.G

/- Clock: ClockTrue. -/
set_option linter.unusedSimpArgs false
set_option linter.unusedVariables false
set_option maxRecDepth 20000
namespace Go.Proofs.Ytknpmijgdfeliaa.G
open Go.V
/-- Numbers of 16 bits, as an argument. -/
def U16 (s : Hp) (x : Option Addr) (l : Nat) : Prop := ∀ i, i < l → ∃ (y : Addr) (v : Nat), x = some y ∧ cellAt s (y.add (i * 1)) = some (.int .u16 (v : Int)) ∧ v < 65536
theorem zc_47 : zc Pg 47 = [.slice none 0 0] := by kernel_rfl
section
variable {W : World} {K : VK} {E : List PanicEntry → Hp → Prop} {s : Hp}
theorem c_draws {x : Option Addr} {l c : Nat} (hx : U16 s x l) (hl : 0 < l) (h : ∀ s' a b, Ext s s' → s.size ≤ a.block → DrO s'.size s' a b 0 → K (drV a b) s') : CALL Pg W F_law07_draws [.slice x l c] K E s := by
  refine does_law07_draws W x l c _ s ?_
  unfold T_law07_draws
  refine ne1 fun s1 e1 z1 o1 => ?_
  refine nw1 zc_3 rfl fun s2 e2 z2 o2 => ?_
  have e12 := e1.trans e2
  refine h s2 ⟨s1.size, 0, none⟩ ⟨s.size, 0, none⟩ e12 (by show s.size ≤ s1.size; omega) ⟨by omega, o2, ⟨x, l, c, (e2.own o1).cell, hl, fun i hi => ?_⟩, by show s1.size ≠ s.size; omega, by show s1.size < s2.size; omega, by show s.size < s2.size; omega⟩
  obtain ⟨y, v, h1, h2, h3⟩ := hx i hi
  have hlt := cell_lt h2
  rw [add_blk] at hlt
  exact ⟨y, v, h1, by show y.block ≠ s1.size; omega, by show y.block < s2.size; omega, e12.cell h2, h3⟩
theorem c_inside {n lo hi : Int} (h0 : lo ≤ n) (h1 : n ≤ hi) (h : ∀ s', Ext s s' → K (.bool true) s') : CALL Pg W F_law07_inside [.int .i64 n, .agg #[.int .i64 lo, .int .i64 hi]] K E s := by
  refine does_law07_inside W n lo hi _ s ?_
  unfold T_law07_inside
  refine ne2 fun s1 e1 z1 o1 o2 => ⟨_, o1.cell, BR_tt (decide_eq_true h0) ⟨_, o2.cell, ?_⟩⟩
  dsimp only
  rw [decide_eq_true h1]
  exact h s1 e1
/-- What a question answers, where there is a truth. -/
theorem qr_in {c : Clk} {val : List Go' → (Int → Int) → Int} {lo hi err : Int} {is : Bool} {g : List Go'} {m : Int → Int} (h : QR c is val lo hi err) (hv : VdC c) (hi' : is = true) (ht : Truth c (everyN c) g m) : err = 0 ∧ lo ≤ val g m ∧ val g m ≤ hi := by
  rcases qr_ok h (okC_iff.2 hv) hi' with ⟨_, h1, _⟩ | ⟨h1, _, h2⟩
  · exact absurd ⟨g, m, ht⟩ h1
  · exact ⟨h1, h2.2.2 g m ht⟩
theorem w_ClockTrue {x : Option Addr} {l cc : Nat} (hx : U16 s x l) (h : ∀ s', Ext s s' → K (.bool true) s') : CALL Pg W F_law07_ClockTrue [.slice x l cc] K E s := by
  refine does_law07_ClockTrue W x l cc _ s ?_
  unfold T_law07_ClockTrue
  refine BR_eq (fun hl => c_alive fun t e => h t e) (fun hl => ?_)
  refine c_draws hx (by omega) fun s1 a b e1 ha hd => ?_
  try simp only [TUP_mk, AGG_mk, HD_mk, NL_mk, TYI_mk, TYB_mk, TYP_mk, TYL_mk, TYS_mk, TYM_mk, SO_mk, NX_mk, endK_mk, endK_mk', add_0]
  refine c_made hd fun s2 c gl ml wx gx mx rx lx wc rc lc gc mc k2 hc hg hm hmade => ?_
  unfold clkV
  try simp only [TUP_mk, AGG_mk, HD_mk, NL_mk, TYI_mk, TYB_mk, TYP_mk, TYL_mk, TYS_mk, TYM_mk, SO_mk, NX_mk, endK_mk, endK_mk', add_0]
  have e2 : Ext s s2 := ⟨Nat.le_trans e1.1 k2.1, fun q hq => by
    rw [k2.2 q (by have := e1.1; omega) (fun hh => by have : q = a.block := hh; omega)]; exact e1.2 q hq⟩
  refine nw4 zc_26 rfl rfl rfl rfl fun s3 e3 z3 o0 o1 o2 o3 => ?_
  have hv := hmade.ok
  have hT := hmade.truth
  have hlen := hmade.len
  have hn5 := hv.n5
  have hw2 := hv.w2
  have hgl : gl.length = c.ws.length := hmade.goes.len
  have hC : ∀ t, Ext s3 t → ClV t c wx rx lx := fun t e => hc.ext (e3.trans e)
  have hG : ∀ t, Ext s3 t → RowAt t gx (goV gl) := fun t e => hg.ext (e3.trans e)
  have hM : ∀ t, Ext s3 t → RowAt t mx (miV ml) := fun t e => hm.ext (e3.trans e)
  have hat : ∀ i (hi : i < ml.length), atM (mAt ml) (i : Int) = ml[i] := fun i hi => by
    unfold atM; rw [if_neg (by omega), mAt_get hi]
  have hgat : ∀ i (hi : i < gl.length), gl.getD ((i : Int)).toNat (0, 0) = gl[i] := fun i hi => by rw [Int.toNat_natCast]; simp [List.getD, hi]
  -- how watches go
  have hL2 : ∀ t bb, Ext s3 t → L_law07_ClockTrue_2 W (endK K E) ⟨s2.size, 0, none⟩ gx gl.length gc (gl.length : Int) bb 0 t := by
    intro t bb et
    refine L_law07_ClockTrue_2_rule W _ _ _ _ _ _ (fun _ n u => Ext s3 u ∧ ∃ j : Nat, n = j ∧ j ≤ gl.length) (fun _ n _ => ((gl.length : Int) - n).toNat) bb 0 t ⟨et, 0, rfl, Nat.zero_le _⟩ ?_
    rintro bb n u ⟨eu, j, rfl, hj⟩
    unfold B_law07_ClockTrue_2
    refine BR_dec (fun hlt => ?_) (fun hge => ?_)
    · have hjl : j < gl.length := by omega
      obtain ⟨ag, hxg, g1, g2⟩ := row_go (hG u eu) j hjl
      rw [hxg]
      refine IXS_nat hjl ⟨_, g1, ⟨_, g2, ?_⟩⟩
      refine nw2 zc_55 rfl rfl fun u1 f1 y1 p0 p1 => ?_
      have eu1 := eu.trans f1
      refine ⟨_, _, _, (eu1.own o0).cell, ⟨_, (eu1.own o1).cell, ⟨_, _, _, (eu1.own o2).cell, ⟨_, _, _, (eu1.own o3).cell, ?_⟩⟩⟩⟩
      refine c_Goes (hC u1 eu1) (by omega) fun u2 zl zh rl rh er f2 hz hr => ?_
      try simp only [TUP_mk, AGG_mk, HD_mk, NL_mk, TYI_mk, TYB_mk, TYP_mk, TYL_mk, TYS_mk, TYM_mk, SO_mk, NX_mk, endK_mk, endK_mk', add_0]
      refine nz2 zc_34 fun u3 f3 y3 q0 q1 => ?_
      refine nz2 zc_34 fun u4 f4 y4 r0 r1 => ?_
      refine wrB (f4.own q0) (f4.own q1) rfl rfl fun u5 k5 y5 q0' q1' => ?_
      have n1 : ¬ u3.size = u2.size := by omega
      have n2 : ¬ u2.size = u3.size := by omega
      refine wrB (k5.own n1 r0) (k5.own n1 r1) rfl rfl fun u6 k6 y6 r0' r1' => ?_
      have q0'' := k6.own n2 q0'
      have q1'' := k6.own n2 q1'
      have f16 : Ext u1 u6 := kp_nil (kp_nil ((f2.trans f3).trans f4) (fun q hq => by have : q = u2.size := hq; have := f2.1; omega) k5) (fun q hq => by have : q = u3.size := hq; have := (f2.trans f3).1; omega) k6
      have his : decide ((0 : Int) ≤ (j : Int) ∧ (j : Int) < c.ws.length) = true := decide_eq_true ⟨by omega, by omega⟩
      obtain ⟨rfl, hz1, hz2⟩ := qr_in hz hv his hT
      obtain ⟨_, hr1, hr2⟩ := qr_in hr hv his hT
      unfold zeroV at hz1 hz2
      unfold rateV at hr1 hr2
      rw [hgat j hjl] at hz1 hz2 hr1 hr2
      refine BR_ff rfl ⟨_, (f16.own p0).cell, ⟨_, q0''.cell, ⟨_, q1''.cell, ?_⟩⟩⟩
      refine c_inside hz1 hz2 fun u7 f7 => ?_
      try simp only [TUP_mk, AGG_mk, HD_mk, NL_mk, TYI_mk, TYB_mk, TYP_mk, TYL_mk, TYS_mk, TYM_mk, SO_mk, NX_mk, endK_mk, endK_mk', add_0]
      unfold J_law07_ClockTrue_8
      refine BR_ff rfl ⟨_, ((f16.trans f7).own p1).cell, ⟨_, (f7.own r0').cell, ⟨_, (f7.own r1').cell, ?_⟩⟩⟩
      refine c_inside hr1 hr2 fun u8 f8 => ?_
      try simp only [TUP_mk, AGG_mk, HD_mk, NL_mk, TYI_mk, TYB_mk, TYP_mk, TYL_mk, TYS_mk, TYM_mk, SO_mk, NX_mk, endK_mk, endK_mk', add_0]
      unfold J_law07_ClockTrue_7
      refine BR_ff rfl ?_
      try simp only [TUP_mk, AGG_mk, HD_mk, NL_mk, TYI_mk, TYB_mk, TYP_mk, TYL_mk, TYS_mk, TYM_mk, SO_mk, NX_mk, endK_mk, endK_mk', add_0]
      exact ⟨_, _, rfl, ⟨(eu1.trans f16).trans (f7.trans f8), j + 1, wrap_succ (by omega), hjl⟩, ms_succ hjl (by omega)⟩
    · exact c_alive fun u2 f2 => h u2 (e2.trans ((e3.trans eu).trans f2))
  -- what watches show
  have hL3 : ∀ (nx0 : List Value → Hp → Prop) (t : Hp) (i : Nat) (N : Int) (bb : Bool), Ext s3 t → ∀ (hi : i < ml.length), (∀ t' b', Ext s3 t' → nx0 [.bool b', .int .i64 (IntKind.wrap .i64 ((i : Int) + 1))] t') →
      L_law07_ClockTrue_3 W (endK K E) nx0 ⟨s2.size, 0, none⟩ gx gl.length gc mx ml.length mc (i : Int) ml[i] N (gl.length : Int) bb 0 t := by
    intro nx0 t i N bb et hi hnx
    refine L_law07_ClockTrue_3_rule W _ _ _ _ _ _ _ _ _ _ _ _ _ (fun _ n u => Ext s3 u ∧ ∃ j : Nat, n = j ∧ j ≤ gl.length) (fun _ n _ => ((gl.length : Int) - n).toNat) bb 0 t ⟨et, 0, rfl, Nat.zero_le _⟩ ?_
    rintro bb n u ⟨eu, j, rfl, hj⟩
    unfold B_law07_ClockTrue_3
    refine BR_dec (fun hlt => ?_) (fun hge => ?_)
    · have hjl : j < gl.length := by omega
      obtain ⟨ag, hxg, g1, g2⟩ := row_go (hG u eu) j hjl
      rw [hxg]
      refine IXS_nat hjl ⟨_, g1, ⟨_, g2, ?_⟩⟩
      refine nw2 zc_55 rfl rfl fun u1 f1 y1 p0 p1 => ?_
      have eu1 := eu.trans f1
      refine ⟨_, _, _, (eu1.own o0).cell, ⟨_, (eu1.own o1).cell, ⟨_, _, _, (eu1.own o2).cell, ⟨_, _, _, (eu1.own o3).cell, ?_⟩⟩⟩⟩
      refine c_Shows (hC u1 eu1) (by omega) fun u2 lo hi' er f2 hq => ?_
      try simp only [TUP_mk, AGG_mk, HD_mk, NL_mk, TYI_mk, TYB_mk, TYP_mk, TYL_mk, TYS_mk, TYM_mk, SO_mk, NX_mk, endK_mk, endK_mk', add_0]
      refine nw2 zc_34 rfl rfl fun u3 f3 y3 q0 q1 => ?_
      have f13 := f2.trans f3
      have his : (decide ((0 : Int) ≤ (j : Int) ∧ (j : Int) < c.ws.length) && decide ((0 : Int) ≤ (i : Int) ∧ (i : Int) < c.n)) = true := by
        rw [decide_eq_true (show (0 : Int) ≤ (j : Int) ∧ (j : Int) < c.ws.length by omega), decide_eq_true (show (0 : Int) ≤ (i : Int) ∧ (i : Int) < c.n by omega)]; rfl
      obtain ⟨rfl, h1, h2⟩ := qr_in hq hv his hT
      unfold showV at h1 h2
      rw [hgat j hjl, hat i hi] at h1 h2
      have bg := hmade.gb _ (List.getElem_mem hjl)
      have bm := hmade.mb _ (List.getElem_mem hi)
      refine BR_ff rfl ⟨_, (f13.own p0).cell, ⟨_, (f13.own p1).cell, ⟨_, q0.cell, ⟨_, q1.cell, ?_⟩⟩⟩⟩
      refine f_Show (by omega) (by omega) (by omega) fun u4 f4 => ?_
      try simp only [TUP_mk, AGG_mk, HD_mk, NL_mk, TYI_mk, TYB_mk, TYP_mk, TYL_mk, TYS_mk, TYM_mk, SO_mk, NX_mk, endK_mk, endK_mk', add_0]
      refine ANDS_i ⟨_, (f4.own q0).cell, ⟨_, (f4.own q1).cell, rfl⟩⟩ ?_
      refine c_inside h1 h2 fun u5 f5 => ?_
      try simp only [TUP_mk, AGG_mk, HD_mk, NL_mk, TYI_mk, TYB_mk, TYP_mk, TYL_mk, TYS_mk, TYM_mk, SO_mk, NX_mk, endK_mk, endK_mk', add_0]
      unfold J_law07_ClockTrue_9
      refine BR_ff rfl ?_
      try simp only [TUP_mk, AGG_mk, HD_mk, NL_mk, TYI_mk, TYB_mk, TYP_mk, TYL_mk, TYS_mk, TYM_mk, SO_mk, NX_mk, endK_mk, endK_mk', add_0]
      exact ⟨_, _, rfl, ⟨(eu1.trans f13).trans (f4.trans f5), j + 1, wrap_succ (by omega), hjl⟩, ms_succ hjl (by omega)⟩
    · try simp only [TUP_mk, AGG_mk, HD_mk, NL_mk, TYI_mk, TYB_mk, TYP_mk, TYL_mk, TYS_mk, TYM_mk, SO_mk, NX_mk, endK_mk, endK_mk', add_0]
      exact hnx u bb eu
  -- how long it was
  have hL1 : ∀ (nx0 : List Value → Hp → Prop) (t : Hp) (i : Nat) (bb : Bool), Ext s3 t → ∀ (hi : i < ml.length), (∀ t' b', Ext s3 t' → nx0 [.bool b', .int .i64 (IntKind.wrap .i64 ((i : Int) + 1))] t') →
      L_law07_ClockTrue_1 W (endK K E) nx0 ⟨s2.size, 0, none⟩ gx gl.length gc mx ml.length mc (i : Int) ml[i] (ml.length : Int) (ml.length : Int) bb 0 t := by
    intro nx0 t i bb et hi hnx
    refine L_law07_ClockTrue_1_rule W _ _ _ _ _ _ _ _ _ _ _ _ _ (fun _ n u => Ext s3 u ∧ ∃ j : Nat, n = j ∧ j ≤ ml.length) (fun _ n _ => ((ml.length : Int) - n).toNat) bb 0 t ⟨et, 0, rfl, Nat.zero_le _⟩ ?_
    rintro bb n u ⟨eu, j, rfl, hj⟩
    generalize hnx1 : (fun vs => N_law07_ClockTrue_1 _ _ bb (j : Int) u vs) = nx1
    unfold B_law07_ClockTrue_1
    refine BR_dec (fun hlt => ?_) (fun hge => ?_)
    · have hjl : j < ml.length := by omega
      obtain ⟨am, hxm, g1⟩ := row_mi (hM u eu) j hjl
      rw [hxm]
      refine IXS_nat hjl ⟨_, g1, ⟨_, _, _, (eu.own o0).cell, ⟨_, (eu.own o1).cell, ⟨_, _, _, (eu.own o2).cell, ⟨_, _, _, (eu.own o3).cell, ?_⟩⟩⟩⟩⟩
      refine c_Lasted (hC u eu) fun u2 lo hi' er f2 hq => ?_
      try simp only [TUP_mk, AGG_mk, HD_mk, NL_mk, TYI_mk, TYB_mk, TYP_mk, TYL_mk, TYS_mk, TYM_mk, SO_mk, NX_mk, endK_mk, endK_mk', add_0]
      refine nw2 zc_34 rfl rfl fun u3 f3 y3 q0 q1 => ?_
      have f13 := f2.trans f3
      have e3' := eu.trans f13
      refine ⟨_, _, _, (e3'.own o0).cell, ⟨_, (e3'.own o1).cell, ⟨_, _, _, (e3'.own o2).cell, ⟨_, _, _, (e3'.own o3).cell, ?_⟩⟩⟩⟩
      refine c_First (hC u3 e3') fun u4 lo2 hi2 er2 f4 hq2 => ?_
      try simp only [TUP_mk, AGG_mk, HD_mk, NL_mk, TYI_mk, TYB_mk, TYP_mk, TYL_mk, TYS_mk, TYM_mk, SO_mk, NX_mk, endK_mk, endK_mk', add_0]
      have his : (decide ((0 : Int) ≤ (i : Int) ∧ (i : Int) < c.n) && decide ((0 : Int) ≤ (j : Int) ∧ (j : Int) < c.n)) = true := by
        rw [decide_eq_true (show (0 : Int) ≤ (i : Int) ∧ (i : Int) < c.n by omega), decide_eq_true (show (0 : Int) ≤ (j : Int) ∧ (j : Int) < c.n by omega)]; rfl
      obtain ⟨rfl, h1, h2⟩ := qr_in hq hv his hT
      obtain ⟨rfl, h3, h4⟩ := qr_in hq2 hv his hT
      unfold laterV at h1 h2 h3 h4
      rw [hat i hi, hat j hjl] at h1 h2 h3 h4
      have bi := hmade.mb _ (List.getElem_mem hi)
      have bj := hmade.mb _ (List.getElem_mem hjl)
      have hfin : ∀ u5, Ext s3 u5 → J_law07_ClockTrue_3 W (endK K E) false ⟨s2.size, 0, none⟩ gx gl.length gc (some am) ml.length mc (i : Int) ml[i] (ml.length : Int) (ml.length : Int) nx1 bb (j : Int) u5 := fun u5 e5 => by
        unfold J_law07_ClockTrue_3
        refine BR_ff rfl ?_
        try simp only [TUP_mk, AGG_mk, HD_mk, NL_mk, TYI_mk, TYB_mk, TYP_mk, TYL_mk, TYS_mk, TYM_mk, SO_mk, NX_mk, endK_mk, endK_mk', add_0]
        rw [← hnx1]
        exact ⟨_, _, rfl, ⟨e5, j + 1, wrap_succ (by omega), hjl⟩, ms_succ hjl (by omega)⟩
      clear hnx1
      refine BR_ff rfl ⟨_, (f4.own q0).cell, ⟨_, (f4.own q1).cell, ?_⟩⟩
      rw [wrap_i64 (n := ml[j] - ml[i]) (by omega) (by omega)]
      refine c_inside h1 h2 fun u5 f5 => ?_
      try simp only [TUP_mk, AGG_mk, HD_mk, NL_mk, TYI_mk, TYB_mk, TYP_mk, TYL_mk, TYS_mk, TYM_mk, SO_mk, NX_mk, endK_mk, endK_mk', add_0]
      have e5 := e3'.trans (f4.trans f5)
      unfold J_law07_ClockTrue_6
      refine BR_ff rfl ?_
      unfold J_law07_ClockTrue_5
      refine BR_ff rfl ?_
      have hJ4 : J_law07_ClockTrue_4 W (endK K E) false ⟨s2.size, 0, none⟩ gx gl.length gc (some am) ml.length mc (i : Int) ml[i] (ml.length : Int) (ml.length : Int) nx1 bb (j : Int) (firstN lo2 hi2 0) ml[j] u5 := by
        unfold J_law07_ClockTrue_4
        refine BR_ff rfl (BR_eq (fun hf => ?_) (fun _ => hfin u5 e5))
        have : hi2 ≤ 0 := by
          unfold firstN at hf
          by_cases hp : hi2 ≤ 0
          · exact hp
          · rw [if_neg (by omega)] at hf
            split at hf <;> omega
        rw [decide_eq_false (show ¬ ml[i] < ml[j] by omega)]
        exact hfin u5 e5
      refine BR_eq (fun hf => ?_) (fun _ => hJ4)
      have : 0 < lo2 := by
        unfold firstN at hf
        split at hf
        · omega
        · split at hf
          · assumption
          · omega
      rw [decide_eq_false (show ¬ ml[i] ≥ ml[j] by omega)]
      exact hJ4
    · exact hL3 nx0 u i _ bb eu hi hnx
  have hL0 : ∀ t, Ext s3 t → L_law07_ClockTrue_0 W (endK K E) ⟨s2.size, 0, none⟩ gx gl.length gc mx ml.length mc (ml.length : Int) false 0 t := by
    intro t et
    refine L_law07_ClockTrue_0_rule W _ _ _ _ _ _ _ _ _ (fun _ n u => Ext s3 u ∧ ∃ j : Nat, n = j ∧ j ≤ ml.length) (fun _ n _ => ((ml.length : Int) - n).toNat) false 0 t ⟨et, 0, rfl, Nat.zero_le _⟩ ?_
    rintro bb n u ⟨eu, j, rfl, hj⟩
    generalize hnx0 : (fun vs => N_law07_ClockTrue_0 _ _ bb (j : Int) u vs) = nx0
    unfold B_law07_ClockTrue_0
    refine BR_dec (fun hlt => ?_) (fun hge => hL2 u bb eu)
    have hjl : j < ml.length := by omega
    obtain ⟨am, hxm, g1⟩ := row_mi (hM u eu) j hjl
    have hnx : ∀ t' b', Ext s3 t' → nx0 [.bool b', .int .i64 (IntKind.wrap .i64 ((j : Int) + 1))] t' := fun t' b' e' => by
      rw [← hnx0]
      exact ⟨_, _, rfl, ⟨e', j + 1, wrap_succ (by omega), hjl⟩, ms_succ hjl (by omega)⟩
    clear hnx0
    rw [hxm]
    refine IXS_nat hjl ⟨_, g1, ⟨_, _, _, (eu.own o0).cell, ⟨_, (eu.own o1).cell, ⟨_, _, _, (eu.own o2).cell, ⟨_, _, _, (eu.own o3).cell, ?_⟩⟩⟩⟩⟩
    refine c_When (hC u eu) fun u2 lo hi' er f2 hq => ?_
    try simp only [TUP_mk, AGG_mk, HD_mk, NL_mk, TYI_mk, TYB_mk, TYP_mk, TYL_mk, TYS_mk, TYM_mk, SO_mk, NX_mk, endK_mk, endK_mk', add_0]
    refine nw2 zc_34 rfl rfl fun u3 f3 y3 q0 q1 => ?_
    obtain ⟨rfl, h1, h2⟩ := qr_in hq hv (decide_eq_true ⟨by omega, by omega⟩) hT
    unfold laterV at h1 h2
    rw [hat j hjl] at h1 h2
    have ha1 : atM (mAt ml) (-1) = 0 := if_pos rfl
    rw [ha1, Int.sub_zero] at h1 h2
    refine BR_ff rfl ⟨_, q0.cell, ⟨_, q1.cell, ?_⟩⟩
    refine c_inside h1 h2 fun u4 f4 => ?_
    try simp only [TUP_mk, AGG_mk, HD_mk, NL_mk, TYI_mk, TYB_mk, TYP_mk, TYL_mk, TYS_mk, TYM_mk, SO_mk, NX_mk, endK_mk, endK_mk', add_0]
    unfold J_law07_ClockTrue_2
    refine BR_ff rfl ?_
    rw [← hxm]
    exact hL1 nx0 u4 j bb (eu.trans ((f2.trans f3).trans f4)) hjl hnx
  have hcan : CanC c (everyN c) := ⟨gl, mAt ml, hT⟩
  refine ⟨_, _, _, o0.cell, ⟨_, o1.cell, ⟨_, _, _, o2.cell, ⟨_, _, _, o3.cell, ?_⟩⟩⟩⟩
  refine c_Wrong (hC s3 (Ext.refl _)) fun s4 w er e4 hw => ?_
  try simp only [TUP_mk, AGG_mk, HD_mk, NL_mk, TYI_mk, TYB_mk, TYP_mk, TYL_mk, TYS_mk, TYM_mk, SO_mk, NX_mk, endK_mk, endK_mk', add_0]
  refine ⟨_, _, _, (e4.own o0).cell, ⟨_, (e4.own o1).cell, ⟨_, _, _, (e4.own o2).cell, ⟨_, _, _, (e4.own o3).cell, ?_⟩⟩⟩⟩
  refine c_Drop (hC s4 e4) fun s5 d er2 e5 hdr => ?_
  try simp only [TUP_mk, AGG_mk, HD_mk, NL_mk, TYI_mk, TYB_mk, TYP_mk, TYL_mk, TYS_mk, TYM_mk, SO_mk, NX_mk, endK_mk, endK_mk', add_0]
  have hok := okC_iff.2 hv
  have hw4 : er = 4 := by
    rcases hw with ⟨h1, _⟩ | ⟨_, _, _, h1⟩ | ⟨_, h1, _⟩
    · rw [hok] at h1; cases h1
    · exact h1
    · exact absurd hcan h1
  have hd0 : d = 0 ∧ er2 = 0 := by
    rcases hdr with ⟨h1, _⟩ | ⟨_, h1, _⟩ | ⟨_, _, h1, n, rfl, hn, _, hmin⟩
    · rw [hok] at h1; cases h1
    · exact absurd (hcan.congr fun i _ hb => by simp at hb) h1
    · refine ⟨?_, h1⟩
      have h0 : setLe n 0 := hmin 0 (Nat.zero_le _) (by unfold coN; rw [Nat.sub_zero]; exact hcan)
      have hp : popN 0 = 0 := by decide
      rcases h0 with h0 | h0 <;> omega
  obtain ⟨rfl, rfl⟩ := hd0
  subst hw4
  refine BR_ff rfl ?_
  unfold J_law07_ClockTrue_1
  refine BR_ff rfl ?_
  unfold J_law07_ClockTrue_0
  exact BR_ff rfl (hL0 s5 (e4.trans e5))
end
end Go.Proofs.Ytknpmijgdfeliaa.G

/- ClockTrue, from any arguments. -/
set_option maxRecDepth 20000
namespace Go.Proofs.Ytknpmijgdfeliaa.G
open Go.V
section
variable {s : Hp}
theorem rds_47 (n : Nat) (cs : List Value) : Rds Pg s (n + 1) 47 cs = (∃ a l c, cs = [.slice a l c] ∧ l ≤ c ∧ c ≤ maxLen ∧ (a = none → l = 0 ∧ c = 0) ∧ ∀ i, i < l → ∃ b es, a = some b ∧ es.length = 1 ∧ (∀ j v, es[j]? = some v → cellAt s ((b.add (i * 1)).add j) = some v) ∧ Rds Pg s n 98 es) := by kernel_rfl
theorem ag_47 : isAg Pg 47 = false := by kernel_rfl
theorem u16_wf {m : Int} (h : (Lit.int .u16 m).wf = true) : 0 ≤ m ∧ m ≤ 65535 := by
  simp [Lit.wf, IntKind.min, IntKind.max, IntKind.bits, IntKind.signed] at h; omega
theorem u16_rd {v : Value} (h : RdV Pg s 47 v) : ∃ x l c, v = .slice x l c ∧ U16 s x l := by
  obtain ⟨cs, rfl, h⟩ := h
  rw [ag_47, rds_47] at *
  obtain ⟨a, l, c, rfl, _, _, _, h⟩ := h
  refine ⟨a, l, c, rfl, fun i hi => ?_⟩
  obtain ⟨b, es, h1, h2, h3, h4⟩ := h i hi
  rw [rds_98] at h4
  obtain ⟨m, rfl, hw⟩ := h4
  obtain ⟨w1, w2⟩ := u16_wf hw
  obtain ⟨n, rfl⟩ := Int.eq_ofNat_of_zero_le w1
  have := h3 0 _ rfl
  rw [add_0] at this
  exact ⟨b, n, h1, this, by omega⟩
end
theorem v_ClockTrue {W : World} {s : Hp} {v0 : Value} (k0 : RdV Pg s 47 v0) : CALL Pg W F_law07_ClockTrue [v0] (fun v s' => v = .bool true ∧ Ext s s') (fun _ _ => False) s := by
  obtain ⟨x, l, c, rfl, hx⟩ := u16_rd k0
  exact w_ClockTrue hx fun s' e => ⟨rfl, e⟩
end Go.Proofs.Ytknpmijgdfeliaa.G

/- The row of the statement ClockTrue. -/
namespace Go.Proofs.Ytknpmijgdfeliaa.clockTrue
open Go.ChangeShapes Go.WideShapes Go.ChangeAt Go.RowKit Go.V
set_option linter.unusedVariables false
theorem own : ownKnob Try.prog.godebug = none := by kernel_rfl
theorem laidOut : laidOutB Try.prog = true := by kernel_rfl
set_option maxRecDepth 100000 in
theorem lifted (os : Os) (started : os.Started) (H : Type) (enc : TypeId × Value → H) :
    ReturnsInHanded {} Try.checked os 5 .any (Rows.clockTrueSpec.pre6 enc Try.prog Try.f5 Rows.clockTrueRow.domain false) (Rows.clockTrueSpec.post enc Try.prog Try.f5 false true false false) := by
  refine returnsInHanded_of_change_sized (C := Try.checked) own started (by kernel_rfl) Try.func5
    (ChangeSpec.witness6 (enc := enc) (C := Try.checked) false ⟨#[], #[(.slice none 0 0)], []⟩ 8 (by kernel_rfl) (by kernel_rfl) (by kernel_rfl) (by kernel_rfl)) ?_
  intro W base args ds gs before hval0 hW hcnd hsz0 _
  have hsz : (DataW.weightsEach Try.prog (Try.f5.params.toList ++ Rows.clockTrueSpec.plain.varTypes Try.prog) (ds ++ gs)).all (· ≤ reachBytes) = true := hsz0
  have hval : ∀ (j : Nat) t v, Try.f5.params[j]? = some t → args[j]? = some v → Value.okWide Try.prog W .any base t v := hval0
  have hW' := hW
  obtain ⟨p, q, hA0, hV, rfl, hfz, hnd⟩ := hW
  have hA : DataW.TrodAll enc Try.prog W 0 (fun _ => true) true Try.f5.params.toList args.toList ds p := hA0
  rw [Try.params5] at hA hval hsz
  obtain ⟨v0, vs0, d0, ds0, p0, q0, hargs, rfl, rfl, h0, r0⟩ := trodAll_cons hA
  obtain ⟨rfl, rfl, rfl⟩ := trodAll_nil r0
  obtain rfl : args = #[v0] := by cases args; simp_all
  obtain ⟨rfl, rfl⟩ := trodVars_none hV
  have k0 := trod_rdV (hval 0 47 v0 rfl rfl) h0
  have lt0 : ∀ x ∈ p0, x.block < W.heap.size := by obtain ⟨m, hm⟩ := h0; exact DataW.trod_lt m _ _ _ hm
  refine (calls_of_does (does_of_call (G.v_ClockTrue (W := W) (s := W.heap) k0))).mono fun e W' ⟨he, bel⟩ => ?_
  subst he
  exact ⟨_, rfl, _, _, _, [], _, [], hW', trodAll_mk1 (shut_bool Try.underlying4 _), (trodAll_cons_mk (Below.trod laidOut (by kernel_rfl) (of_decide_eq_true (by kernel_rfl)) h0 bel lt0) trodAll_mk0), rfl, bel.frame _, fun h => by cases h⟩
theorem over : Rows.clockTrueRow.holds Try.pinned (OpenSpec.ofChange Rows.clockTrueSpec) :=
  OpenClaim.holds_of_wide 5 Try.f5 rfl rfl rfl rfl rfl rfl rfl ⟨rfl, rfl, rfl, rfl, rfl⟩ rfl rfl rfl rfl rfl (by kernel_rfl) Try.func5 (by kernel_rfl)
    (of_decide_eq_true (by kernel_rfl)) (by unfold Func.isWrapper; first | (rw [if_pos (by decide +kernel)]; kernel_rfl) | (rw [if_neg (by decide +kernel)]; exact ⟨rfl, rfl⟩))
    (fun os started H enc _ => lifted os started H enc)
theorem proved : Rows.ClockTrueSaid := over
end Go.Proofs.Ytknpmijgdfeliaa.clockTrue
namespace Go.Proofs.Ytknpmijgdfeliaa
/-- The row, under a short name. -/
theorem clockTrue_holds : Rows.ClockTrueSaid := clockTrue.proved
end Go.Proofs.Ytknpmijgdfeliaa
