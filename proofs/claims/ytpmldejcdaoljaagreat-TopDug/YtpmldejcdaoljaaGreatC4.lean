import Derived.Test.YtpmldejcdaoljaaGreatC3
/- Lemmas: contracts over the visible heap, and that they are sound; no condition. -/
set_option linter.unusedVariables false
set_option linter.unusedSimpArgs false
set_option maxRecDepth 100000
namespace Go.Proofs.YtpmldejcdaoljaaGreat.G
open Go.V
def an_3 : Nat → Ann := fun b => match b with
 | _ => {}
def J_top_TopDug_0 (W : World) (R : Ending → Hp → Prop) (b398 : Bool) (n373 n9 n10 n1 : Int) : Hp → Prop :=
 BR b398
 (BR ((n373 == 0) == (decide ((IntKind.wrap .i64 ((Int.tmod (IntKind.wrap .i64 n9) 10001) - (IntKind.wrap .i64 (Int.tdiv (IntKind.wrap .i64 ((IntKind.wrap .i64 ((Int.tmod (IntKind.wrap .i64 n10) 101) * (Int.tmod (IntKind.wrap .i64 n1) 1001))) + 99)) 100)))) < 0)))
 (CALL Pg W F_top_alive11 []
 (fun v399 => TYB v399 fun b401 =>
 R (.returned (.bool b401)))
 (fun e400 => R (.panicked e400)))
 (R (.returned (.bool false))))
 (R (.returned (.bool false)))
def J_top_TopDug_1 (W : World) (R : Ending → Hp → Prop) (b395 : Bool) (n373 n9 n10 n1 : Int) : Hp → Prop :=
 BR b395
 (J_top_TopDug_0 W R ((n373 == 2) == (decide ((IntKind.wrap .i64 ((Int.tmod (IntKind.wrap .i64 n9) 10001) - (IntKind.wrap .i64 (Int.tdiv (IntKind.wrap .i64 ((IntKind.wrap .i64 ((Int.tmod (IntKind.wrap .i64 n10) 101) * (Int.tmod (IntKind.wrap .i64 n1) 1001))) + 99)) 100)))) ≥ 0))) n373 n9 n10 n1)
 (J_top_TopDug_0 W R false n373 n9 n10 n1)
def J_top_TopDug_2 (W : World) (R : Ending → Hp → Prop) (b392 : Bool) (n376 n373 n9 n10 n1 : Int) : Hp → Prop :=
 BR b392
 (J_top_TopDug_1 W R (n376 == 0) n373 n9 n10 n1)
 (J_top_TopDug_1 W R false n373 n9 n10 n1)
def J_top_TopDug_3 (W : World) (R : Ending → Hp → Prop) (b292 : Bool) (n9 n10 : Int) (B58 : Nat) (n4 n1 : Int) : Hp → Prop :=
 BR b292
 (R (.returned (.bool false)))
 (CALL Pg W F_top_span04 [(.int .i64 (Int.tmod (IntKind.wrap .i64 n9) 10001)), (.int .i64 (Int.tmod (IntKind.wrap .i64 n9) 10001))]
 (fun v293 => AGG v293 fun q295 => HD q295 fun v296 r297 => TYI .i64 v296 fun n298 =>
 HD r297 fun v299 r300 => TYI .i64 v299 fun n301 =>
 NL r300 <|
 CALL Pg W F_top_span04 [(.int .i64 (Int.tmod (IntKind.wrap .i64 n10) 101)), (.int .i64 (Int.tmod (IntKind.wrap .i64 n10) 101))]
 (fun v302 => AGG v302 fun q304 => HD q304 fun v305 r306 => TYI .i64 v305 fun n307 =>
 HD r306 fun v308 r309 => TYI .i64 v308 fun n310 =>
 NL r309 <|
 NEWZ Pg 44 fun B311 =>
 WR (Addr.add ⟨B311, 0, none⟩ 0) (.int .i64 n298) <|
 WR (Addr.add ⟨B311, 0, none⟩ 1) (.int .i64 n301) <|
 WR (Addr.add ⟨B311, 0, none⟩ 2) (.int .i64 n307) <|
 WR (Addr.add ⟨B311, 0, none⟩ 3) (.int .i64 n310) <|
 WR (Addr.add ⟨B311, 0, none⟩ 4) (.int .i64 0) <|
 WR (Addr.add ⟨B311, 0, none⟩ 5) (.int .i64 0) <|
 WR (Addr.add ⟨B311, 0, none⟩ 6) (.int .i64 (Int.tmod (IntKind.wrap .i64 n9) 10001)) <|
 RDI .i64 (Addr.add ⟨B58, 0, none⟩ 0) fun n312 =>
 RDI .i64 (Addr.add ⟨B58, 0, none⟩ 1) fun n313 =>
 RDI .i64 (Addr.add ⟨B58, 0, none⟩ 2) fun n314 =>
 RDL (Addr.add ⟨B58, 0, none⟩ 3) fun x315 l316 c317 =>
 NEW 46 [(.int .i64 (Int.tmod (IntKind.wrap .i64 n4) 41)), (.int .i64 (Int.tmod (IntKind.wrap .i64 n4) 41)), (.int .i64 0)] fun B318 =>
 NEWZ Pg 49 fun B319 =>
 WR (Addr.add ⟨B319, 0, none⟩ 0) (.int .i64 n312) <|
 WR (Addr.add ⟨B319, 0, none⟩ 1) (.int .i64 n313) <|
 WR (Addr.add ⟨B319, 0, none⟩ 2) (.int .i64 n314) <|
 WR (Addr.add ⟨B319, 0, none⟩ 3) (.slice x315 l316 c317) <|
 WR (Addr.add ⟨B319, 0, none⟩ 4) (.slice (some ⟨B318, 0, none⟩) 1 1) <|
 RDI .i64 (Addr.add ⟨B311, 0, none⟩ 0) fun n320 =>
 RDI .i64 (Addr.add ⟨B311, 0, none⟩ 1) fun n321 =>
 RDI .i64 (Addr.add ⟨B311, 0, none⟩ 2) fun n322 =>
 RDI .i64 (Addr.add ⟨B311, 0, none⟩ 3) fun n323 =>
 RDI .i64 (Addr.add ⟨B311, 0, none⟩ 4) fun n324 =>
 RDI .i64 (Addr.add ⟨B311, 0, none⟩ 5) fun n325 =>
 RDI .i64 (Addr.add ⟨B311, 0, none⟩ 6) fun n326 =>
 RDI .i64 (Addr.add ⟨B319, 0, none⟩ 0) fun n327 =>
 RDI .i64 (Addr.add ⟨B319, 0, none⟩ 1) fun n328 =>
 RDI .i64 (Addr.add ⟨B319, 0, none⟩ 2) fun n329 =>
 RDL (Addr.add ⟨B319, 0, none⟩ 3) fun x330 l331 c332 =>
 RDL (Addr.add ⟨B319, 0, none⟩ 4) fun x333 l334 c335 =>
 CALL Pg W F_team_Left [(.agg #[(.int .i64 n320), (.int .i64 n321), (.int .i64 n322), (.int .i64 n323), (.int .i64 n324), (.int .i64 n325), (.int .i64 n326)]), (.agg #[(.int .i64 n327), (.int .i64 n328), (.int .i64 n329), (.slice x330 l331 c332), (.slice x333 l334 c335)]), (.int .i64 1)]
 (fun v336 => TUP v336 fun q338 => HD q338 fun v339 r340 => AGG v339 fun q341 => HD q341 fun v342 r343 => TYI .i64 v342 fun n344 =>
 HD r343 fun v345 r346 => TYI .i64 v345 fun n347 =>
 NL r346 <|
 HD r340 fun v348 r349 => TYI .i64 v348 fun n350 =>
 NL r349 <|
 NEWZ Pg 27 fun B351 =>
 WR (Addr.add ⟨B351, 0, none⟩ 0) (.int .i64 n344) <|
 WR (Addr.add ⟨B351, 0, none⟩ 1) (.int .i64 n347) <|
 RDI .i64 (Addr.add ⟨B311, 0, none⟩ 0) fun n352 =>
 RDI .i64 (Addr.add ⟨B311, 0, none⟩ 1) fun n353 =>
 RDI .i64 (Addr.add ⟨B311, 0, none⟩ 2) fun n354 =>
 RDI .i64 (Addr.add ⟨B311, 0, none⟩ 3) fun n355 =>
 RDI .i64 (Addr.add ⟨B311, 0, none⟩ 4) fun n356 =>
 RDI .i64 (Addr.add ⟨B311, 0, none⟩ 5) fun n357 =>
 RDI .i64 (Addr.add ⟨B311, 0, none⟩ 6) fun n358 =>
 RDI .i64 (Addr.add ⟨B319, 0, none⟩ 0) fun n359 =>
 RDI .i64 (Addr.add ⟨B319, 0, none⟩ 1) fun n360 =>
 RDI .i64 (Addr.add ⟨B319, 0, none⟩ 2) fun n361 =>
 RDL (Addr.add ⟨B319, 0, none⟩ 3) fun x362 l363 c364 =>
 RDL (Addr.add ⟨B319, 0, none⟩ 4) fun x365 l366 c367 =>
 CALL Pg W F_team_Comes [(.agg #[(.int .i64 n352), (.int .i64 n353), (.int .i64 n354), (.int .i64 n355), (.int .i64 n356), (.int .i64 n357), (.int .i64 n358)]), (.agg #[(.int .i64 n359), (.int .i64 n360), (.int .i64 n361), (.slice x362 l363 c364), (.slice x365 l366 c367)])]
 (fun v368 => TUP v368 fun q370 => HD q370 fun v371 r372 => TYI .i64 v371 fun n373 =>
 HD r372 fun v374 r375 => TYI .i64 v374 fun n376 =>
 NL r375 <|
 RDI .i64 (Addr.add ⟨B351, 0, none⟩ 0) fun n377 =>
 RDI .i64 (Addr.add ⟨B351, 0, none⟩ 1) fun n378 =>
 CALL Pg W F_top_span04 [(.int .i64 (IntKind.wrap .i64 ((Int.tmod (IntKind.wrap .i64 n9) 10001) - (IntKind.wrap .i64 (Int.tdiv (IntKind.wrap .i64 ((IntKind.wrap .i64 ((Int.tmod (IntKind.wrap .i64 n10) 101) * (Int.tmod (IntKind.wrap .i64 n1) 1001))) + 99)) 100))))), (.int .i64 (IntKind.wrap .i64 ((Int.tmod (IntKind.wrap .i64 n9) 10001) - (IntKind.wrap .i64 (Int.tdiv (IntKind.wrap .i64 ((IntKind.wrap .i64 ((Int.tmod (IntKind.wrap .i64 n10) 101) * (Int.tmod (IntKind.wrap .i64 n1) 1001))) + 99)) 100)))))]
 (fun v379 => AGG v379 fun q381 => HD q381 fun v382 r383 => TYI .i64 v382 fun n384 =>
 HD r383 fun v385 r386 => TYI .i64 v385 fun n387 =>
 NL r386 <|
 ANDS (RDI .i64 (Addr.add ⟨B351, 0, none⟩ 0) fun n388 =>
 RDI .i64 (Addr.add ⟨B351, 0, none⟩ 1) fun n389 =>
 fun _ => ((.agg #[(.int .i64 n388), (.int .i64 n389)]) : Value) = (.agg #[(.int .i64 n377), (.int .i64 n378)])) <|
 BR ((n377 == n384) && (n378 == n387))
 (J_top_TopDug_2 W R (n350 == 0) n376 n373 n9 n10 n1)
 (J_top_TopDug_2 W R false n376 n373 n9 n10 n1))
 (fun e380 => R (.panicked e380)))
 (fun e369 => R (.panicked e369)))
 (fun e337 => R (.panicked e337)))
 (fun e303 => R (.panicked e303)))
 (fun e294 => R (.panicked e294)))
def J_top_TopDug_4 (W : World) (R : Ending → Hp → Prop) (b291 : Bool) (n9 n10 : Int) (B58 : Nat) (n4 n1 n267 : Int) : Hp → Prop :=
 BR b291
 (J_top_TopDug_3 W R true n9 n10 B58 n4 n1)
 (J_top_TopDug_3 W R (n267 != 0) n9 n10 B58 n4 n1)
def J_top_TopDug_5 (W : World) (R : Ending → Hp → Prop) (b285 : Bool) (n9 n10 : Int) (B58 : Nat) (n4 n1 n267 : Int) (p266 : Option Addr) (n153 n62 : Int) : Hp → Prop :=
 BR b285
 (J_top_TopDug_4 W R true n9 n10 B58 n4 n1 n267)
 (SO p266 fun a402 =>
 RDI .i64 (Addr.add a402 0) fun n403 =>
 RDI .i64 (Addr.add a402 1) fun n404 =>
 CALL Pg W F_top_span04 [(.int .i64 (IntKind.wrap .i64 (10 + (IntKind.wrap .i64 ((IntKind.wrap .i64 (n153 * (IntKind.wrap .i64 (Int.tdiv (Int.tmod (IntKind.wrap .i64 n1) 1001) 100)))) + n62))))), (.int .i64 (IntKind.wrap .i64 (20 + (IntKind.wrap .i64 ((IntKind.wrap .i64 (n153 * (IntKind.wrap .i64 (Int.tdiv (Int.tmod (IntKind.wrap .i64 n1) 1001) 100)))) + n62)))))]
 (fun v405 => AGG v405 fun q407 => HD q407 fun v408 r409 => TYI .i64 v408 fun n410 =>
 HD r409 fun v411 r412 => TYI .i64 v411 fun n413 =>
 NL r412 <|
 ANDS (SO p266 fun a417 =>
 RDI .i64 (Addr.add a417 0) fun n418 =>
 RDI .i64 (Addr.add a417 1) fun n419 =>
 fun _ => ((.agg #[(.int .i64 n418), (.int .i64 n419)]) : Value) = (.agg #[(.int .i64 n403), (.int .i64 n404)])) <|
 J_top_TopDug_4 W R (!((n403 == n410) && (n404 == n413))) n9 n10 B58 n4 n1 n267)
 (fun e406 => R (.panicked e406)))
def J_top_TopDug_6 (W : World) (R : Ending → Hp → Prop) (p209 : Option Addr) (n153 n1 n62 n9 n10 : Int) (B58 : Nat) (n4 n267 : Int) (p266 : Option Addr) (n210 : Int) : Hp → Prop :=
 SO p209 fun a268 =>
 RDI .i64 (Addr.add a268 0) fun n269 =>
 RDI .i64 (Addr.add a268 1) fun n270 =>
 CALL Pg W F_top_span04 [(.int .i64 (IntKind.wrap .i64 ((IntKind.wrap .i64 (n153 * (IntKind.wrap .i64 (Int.tdiv (Int.tmod (IntKind.wrap .i64 n1) 1001) 100)))) + n62))), (.int .i64 (IntKind.wrap .i64 ((IntKind.wrap .i64 (n153 * (IntKind.wrap .i64 (Int.tdiv (Int.tmod (IntKind.wrap .i64 n1) 1001) 100)))) + n62)))]
 (fun v271 => AGG v271 fun q273 => HD q273 fun v274 r275 => TYI .i64 v274 fun n276 =>
 HD r275 fun v277 r278 => TYI .i64 v277 fun n279 =>
 NL r278 <|
 ANDS (SO p209 fun a280 =>
 RDI .i64 (Addr.add a280 0) fun n281 =>
 RDI .i64 (Addr.add a280 1) fun n282 =>
 fun _ => ((.agg #[(.int .i64 n281), (.int .i64 n282)]) : Value) = (.agg #[(.int .i64 n269), (.int .i64 n270)])) <|
 BR (!((n269 == n276) && (n270 == n279)))
 (J_top_TopDug_5 W R true n9 n10 B58 n4 n1 n267 p266 n153 n62)
 (J_top_TopDug_5 W R (n210 != 0) n9 n10 B58 n4 n1 n267 p266 n153 n62))
 (fun e272 => R (.panicked e272))
def J_top_TopDug_7 (W : World) (R : Ending → Hp → Prop) (B11 B58 : Nat) (n4 : Int) (p209 : Option Addr) (n153 n1 n62 n9 n10 n210 : Int) : Hp → Prop :=
 RDI .i64 (Addr.add ⟨B11, 0, none⟩ 0) fun n211 =>
 RDI .i64 (Addr.add ⟨B11, 0, none⟩ 1) fun n212 =>
 RDI .i64 (Addr.add ⟨B11, 0, none⟩ 2) fun n213 =>
 RDI .i64 (Addr.add ⟨B11, 0, none⟩ 3) fun n214 =>
 RDI .i64 (Addr.add ⟨B58, 0, none⟩ 0) fun n215 =>
 RDI .i64 (Addr.add ⟨B58, 0, none⟩ 1) fun n216 =>
 RDI .i64 (Addr.add ⟨B58, 0, none⟩ 2) fun n217 =>
 RDL (Addr.add ⟨B58, 0, none⟩ 3) fun x218 l219 c220 =>
 CONJ [
 CALL Pg W F_top_span04 [(.int .i64 10), (.int .i64 20)]
 (fun v221 => AGG v221 fun q223 => HD q223 fun v224 r225 => TYI .i64 v224 fun n226 =>
 HD r225 fun v227 r228 => TYI .i64 v227 fun n229 =>
 NL r228 <|
 ANDS (RDI .i64 (Addr.add ⟨B58, 0, none⟩ 0) fun n230 =>
 RDI .i64 (Addr.add ⟨B58, 0, none⟩ 1) fun n231 =>
 RDI .i64 (Addr.add ⟨B58, 0, none⟩ 2) fun n232 =>
 RDL (Addr.add ⟨B58, 0, none⟩ 3) fun x233 l234 c235 =>
 fun _ => ((.agg #[(.int .i64 n230), (.int .i64 n231), (.int .i64 n232), (.slice x233 l234 c235)]) : Value) = (.agg #[(.int .i64 n215), (.int .i64 n216), (.int .i64 n217), (.slice x218 l219 c220)])) <|
 ANDS (RDI .i64 (Addr.add ⟨B11, 0, none⟩ 0) fun n236 =>
 RDI .i64 (Addr.add ⟨B11, 0, none⟩ 1) fun n237 =>
 RDI .i64 (Addr.add ⟨B11, 0, none⟩ 2) fun n238 =>
 RDI .i64 (Addr.add ⟨B11, 0, none⟩ 3) fun n239 =>
 fun _ => ((.agg #[(.int .i64 n236), (.int .i64 n237), (.int .i64 n238), (.int .i64 n239)]) : Value) = (.agg #[(.int .i64 n211), (.int .i64 n212), (.int .i64 n213), (.int .i64 n214)])) <|
 CONJ [
 CALL Pg W F_even_Even [(.agg #[(.int .i64 n211), (.int .i64 n212), (.int .i64 n213), (.int .i64 n214)]), (.agg #[(.int .i64 n215), (.int .i64 n216), (.int .i64 n217), (.slice x218 l219 c220), (.int .i64 (Int.tmod (IntKind.wrap .i64 n4) 41)), (.int .i64 n226), (.int .i64 n229)])]
 (fun v240 => TUP v240 fun q242 => HD q242 fun v243 r244 => AGG v243 fun q245 => HD q245 fun v246 r247 => TYI .i64 v246 fun n248 =>
 HD r247 fun v249 r250 => TYI .i64 v249 fun n251 =>
 NL r250 <|
 HD r244 fun v252 r253 => TYI .i64 v252 fun n254 =>
 NL r253 <|
 NEWZ Pg 27 fun B255 =>
 ANDS (RDI .i64 (Addr.add ⟨B58, 0, none⟩ 0) fun n256 =>
 RDI .i64 (Addr.add ⟨B58, 0, none⟩ 1) fun n257 =>
 RDI .i64 (Addr.add ⟨B58, 0, none⟩ 2) fun n258 =>
 RDL (Addr.add ⟨B58, 0, none⟩ 3) fun x259 l260 c261 =>
 fun _ => ((.agg #[(.int .i64 n256), (.int .i64 n257), (.int .i64 n258), (.slice x259 l260 c261)]) : Value) = (.agg #[(.int .i64 n215), (.int .i64 n216), (.int .i64 n217), (.slice x218 l219 c220)])) <|
 ANDS (RDI .i64 (Addr.add ⟨B11, 0, none⟩ 0) fun n262 =>
 RDI .i64 (Addr.add ⟨B11, 0, none⟩ 1) fun n263 =>
 RDI .i64 (Addr.add ⟨B11, 0, none⟩ 2) fun n264 =>
 RDI .i64 (Addr.add ⟨B11, 0, none⟩ 3) fun n265 =>
 fun _ => ((.agg #[(.int .i64 n262), (.int .i64 n263), (.int .i64 n264), (.int .i64 n265)]) : Value) = (.agg #[(.int .i64 n211), (.int .i64 n212), (.int .i64 n213), (.int .i64 n214)])) <|
 WR (Addr.add ⟨B255, 0, none⟩ 0) (.int .i64 n248) <|
 WR (Addr.add ⟨B255, 0, none⟩ 1) (.int .i64 n251) <|
 J_top_TopDug_6 W R p209 n153 n1 n62 n9 n10 B58 n4 n254 (some ⟨B255, 0, none⟩) n210)
 (fun e241 => R (.panicked e241)),
 NEWZ Pg 27 fun B420 =>
 ANDS (RDI .i64 (Addr.add ⟨B58, 0, none⟩ 0) fun n421 =>
 RDI .i64 (Addr.add ⟨B58, 0, none⟩ 1) fun n422 =>
 RDI .i64 (Addr.add ⟨B58, 0, none⟩ 2) fun n423 =>
 RDL (Addr.add ⟨B58, 0, none⟩ 3) fun x424 l425 c426 =>
 fun _ => ((.agg #[(.int .i64 n421), (.int .i64 n422), (.int .i64 n423), (.slice x424 l425 c426)]) : Value) = (.agg #[(.int .i64 n215), (.int .i64 n216), (.int .i64 n217), (.slice x218 l219 c220)])) <|
 ANDS (RDI .i64 (Addr.add ⟨B11, 0, none⟩ 0) fun n427 =>
 RDI .i64 (Addr.add ⟨B11, 0, none⟩ 1) fun n428 =>
 RDI .i64 (Addr.add ⟨B11, 0, none⟩ 2) fun n429 =>
 RDI .i64 (Addr.add ⟨B11, 0, none⟩ 3) fun n430 =>
 fun _ => ((.agg #[(.int .i64 n427), (.int .i64 n428), (.int .i64 n429), (.int .i64 n430)]) : Value) = (.agg #[(.int .i64 n211), (.int .i64 n212), (.int .i64 n213), (.int .i64 n214)])) <|
 CALL Pg W F_even_Even [(.agg #[(.int .i64 n211), (.int .i64 n212), (.int .i64 n213), (.int .i64 n214)]), (.agg #[(.int .i64 n215), (.int .i64 n216), (.int .i64 n217), (.slice x218 l219 c220), (.int .i64 (Int.tmod (IntKind.wrap .i64 n4) 41)), (.int .i64 n226), (.int .i64 n229)])]
 (fun v431 => TUP v431 fun q433 => HD q433 fun v434 r435 => AGG v434 fun q436 => HD q436 fun v437 r438 => TYI .i64 v437 fun n439 =>
 HD r438 fun v440 r441 => TYI .i64 v440 fun n442 =>
 NL r441 <|
 HD r435 fun v443 r444 => TYI .i64 v443 fun n445 =>
 NL r444 <|
 WR (Addr.add ⟨B420, 0, none⟩ 0) (.int .i64 n439) <|
 WR (Addr.add ⟨B420, 0, none⟩ 1) (.int .i64 n442) <|
 J_top_TopDug_6 W R p209 n153 n1 n62 n9 n10 B58 n4 n445 (some ⟨B420, 0, none⟩) n210)
 (fun e432 => R (.panicked e432))])
 (fun e222 => R (.panicked e222)),
 NEWZ Pg 27 fun B446 =>
 ANDS (RDI .i64 (Addr.add ⟨B58, 0, none⟩ 0) fun n447 =>
 RDI .i64 (Addr.add ⟨B58, 0, none⟩ 1) fun n448 =>
 RDI .i64 (Addr.add ⟨B58, 0, none⟩ 2) fun n449 =>
 RDL (Addr.add ⟨B58, 0, none⟩ 3) fun x450 l451 c452 =>
 fun _ => ((.agg #[(.int .i64 n447), (.int .i64 n448), (.int .i64 n449), (.slice x450 l451 c452)]) : Value) = (.agg #[(.int .i64 n215), (.int .i64 n216), (.int .i64 n217), (.slice x218 l219 c220)])) <|
 ANDS (RDI .i64 (Addr.add ⟨B11, 0, none⟩ 0) fun n453 =>
 RDI .i64 (Addr.add ⟨B11, 0, none⟩ 1) fun n454 =>
 RDI .i64 (Addr.add ⟨B11, 0, none⟩ 2) fun n455 =>
 RDI .i64 (Addr.add ⟨B11, 0, none⟩ 3) fun n456 =>
 fun _ => ((.agg #[(.int .i64 n453), (.int .i64 n454), (.int .i64 n455), (.int .i64 n456)]) : Value) = (.agg #[(.int .i64 n211), (.int .i64 n212), (.int .i64 n213), (.int .i64 n214)])) <|
 CALL Pg W F_top_span04 [(.int .i64 10), (.int .i64 20)]
 (fun v457 => AGG v457 fun q459 => HD q459 fun v460 r461 => TYI .i64 v460 fun n462 =>
 HD r461 fun v463 r464 => TYI .i64 v463 fun n465 =>
 NL r464 <|
 ANDS (RDI .i64 (Addr.add ⟨B58, 0, none⟩ 0) fun n466 =>
 RDI .i64 (Addr.add ⟨B58, 0, none⟩ 1) fun n467 =>
 RDI .i64 (Addr.add ⟨B58, 0, none⟩ 2) fun n468 =>
 RDL (Addr.add ⟨B58, 0, none⟩ 3) fun x469 l470 c471 =>
 fun _ => ((.agg #[(.int .i64 n466), (.int .i64 n467), (.int .i64 n468), (.slice x469 l470 c471)]) : Value) = (.agg #[(.int .i64 n215), (.int .i64 n216), (.int .i64 n217), (.slice x218 l219 c220)])) <|
 ANDS (RDI .i64 (Addr.add ⟨B11, 0, none⟩ 0) fun n472 =>
 RDI .i64 (Addr.add ⟨B11, 0, none⟩ 1) fun n473 =>
 RDI .i64 (Addr.add ⟨B11, 0, none⟩ 2) fun n474 =>
 RDI .i64 (Addr.add ⟨B11, 0, none⟩ 3) fun n475 =>
 fun _ => ((.agg #[(.int .i64 n472), (.int .i64 n473), (.int .i64 n474), (.int .i64 n475)]) : Value) = (.agg #[(.int .i64 n211), (.int .i64 n212), (.int .i64 n213), (.int .i64 n214)])) <|
 CALL Pg W F_even_Even [(.agg #[(.int .i64 n211), (.int .i64 n212), (.int .i64 n213), (.int .i64 n214)]), (.agg #[(.int .i64 n215), (.int .i64 n216), (.int .i64 n217), (.slice x218 l219 c220), (.int .i64 (Int.tmod (IntKind.wrap .i64 n4) 41)), (.int .i64 n462), (.int .i64 n465)])]
 (fun v476 => TUP v476 fun q478 => HD q478 fun v479 r480 => AGG v479 fun q481 => HD q481 fun v482 r483 => TYI .i64 v482 fun n484 =>
 HD r483 fun v485 r486 => TYI .i64 v485 fun n487 =>
 NL r486 <|
 HD r480 fun v488 r489 => TYI .i64 v488 fun n490 =>
 NL r489 <|
 WR (Addr.add ⟨B446, 0, none⟩ 0) (.int .i64 n484) <|
 WR (Addr.add ⟨B446, 0, none⟩ 1) (.int .i64 n487) <|
 J_top_TopDug_6 W R p209 n153 n1 n62 n9 n10 B58 n4 n490 (some ⟨B446, 0, none⟩) n210)
 (fun e477 => R (.panicked e477)))
 (fun e458 => R (.panicked e458))]
def J_top_TopDug_8 (W : World) (R : Ending → Hp → Prop) (b152 : Bool) (B11 B58 : Nat) (n4 n1 n62 n9 n10 : Int) : Hp → Prop :=
 BR b152
 (R (.returned (.bool false)))
 (RDI .i64 (Addr.add ⟨B11, 0, none⟩ 0) fun n153 =>
 RDI .i64 (Addr.add ⟨B11, 0, none⟩ 0) fun n154 =>
 RDI .i64 (Addr.add ⟨B11, 0, none⟩ 1) fun n155 =>
 RDI .i64 (Addr.add ⟨B11, 0, none⟩ 2) fun n156 =>
 RDI .i64 (Addr.add ⟨B11, 0, none⟩ 3) fun n157 =>
 RDI .i64 (Addr.add ⟨B58, 0, none⟩ 0) fun n158 =>
 RDI .i64 (Addr.add ⟨B58, 0, none⟩ 1) fun n159 =>
 RDI .i64 (Addr.add ⟨B58, 0, none⟩ 2) fun n160 =>
 RDL (Addr.add ⟨B58, 0, none⟩ 3) fun x161 l162 c163 =>
 CONJ [
 CALL Pg W F_top_span04 [(.int .i64 10), (.int .i64 20)]
 (fun v164 => AGG v164 fun q166 => HD q166 fun v167 r168 => TYI .i64 v167 fun n169 =>
 HD r168 fun v170 r171 => TYI .i64 v170 fun n172 =>
 NL r171 <|
 ANDS (RDI .i64 (Addr.add ⟨B58, 0, none⟩ 0) fun n173 =>
 RDI .i64 (Addr.add ⟨B58, 0, none⟩ 1) fun n174 =>
 RDI .i64 (Addr.add ⟨B58, 0, none⟩ 2) fun n175 =>
 RDL (Addr.add ⟨B58, 0, none⟩ 3) fun x176 l177 c178 =>
 fun _ => ((.agg #[(.int .i64 n173), (.int .i64 n174), (.int .i64 n175), (.slice x176 l177 c178)]) : Value) = (.agg #[(.int .i64 n158), (.int .i64 n159), (.int .i64 n160), (.slice x161 l162 c163)])) <|
 ANDS (RDI .i64 (Addr.add ⟨B11, 0, none⟩ 0) fun n179 =>
 RDI .i64 (Addr.add ⟨B11, 0, none⟩ 1) fun n180 =>
 RDI .i64 (Addr.add ⟨B11, 0, none⟩ 2) fun n181 =>
 RDI .i64 (Addr.add ⟨B11, 0, none⟩ 3) fun n182 =>
 fun _ => ((.agg #[(.int .i64 n179), (.int .i64 n180), (.int .i64 n181), (.int .i64 n182)]) : Value) = (.agg #[(.int .i64 n154), (.int .i64 n155), (.int .i64 n156), (.int .i64 n157)])) <|
 CONJ [
 CALL Pg W F_even_Gives [(.agg #[(.int .i64 n154), (.int .i64 n155), (.int .i64 n156), (.int .i64 n157)]), (.agg #[(.int .i64 n158), (.int .i64 n159), (.int .i64 n160), (.slice x161 l162 c163), (.int .i64 (Int.tmod (IntKind.wrap .i64 n4) 41)), (.int .i64 n169), (.int .i64 n172)])]
 (fun v183 => TUP v183 fun q185 => HD q185 fun v186 r187 => AGG v186 fun q188 => HD q188 fun v189 r190 => TYI .i64 v189 fun n191 =>
 HD r190 fun v192 r193 => TYI .i64 v192 fun n194 =>
 NL r193 <|
 HD r187 fun v195 r196 => TYI .i64 v195 fun n197 =>
 NL r196 <|
 NEWZ Pg 27 fun B198 =>
 ANDS (RDI .i64 (Addr.add ⟨B58, 0, none⟩ 0) fun n199 =>
 RDI .i64 (Addr.add ⟨B58, 0, none⟩ 1) fun n200 =>
 RDI .i64 (Addr.add ⟨B58, 0, none⟩ 2) fun n201 =>
 RDL (Addr.add ⟨B58, 0, none⟩ 3) fun x202 l203 c204 =>
 fun _ => ((.agg #[(.int .i64 n199), (.int .i64 n200), (.int .i64 n201), (.slice x202 l203 c204)]) : Value) = (.agg #[(.int .i64 n158), (.int .i64 n159), (.int .i64 n160), (.slice x161 l162 c163)])) <|
 ANDS (RDI .i64 (Addr.add ⟨B11, 0, none⟩ 0) fun n205 =>
 RDI .i64 (Addr.add ⟨B11, 0, none⟩ 1) fun n206 =>
 RDI .i64 (Addr.add ⟨B11, 0, none⟩ 2) fun n207 =>
 RDI .i64 (Addr.add ⟨B11, 0, none⟩ 3) fun n208 =>
 fun _ => ((.agg #[(.int .i64 n205), (.int .i64 n206), (.int .i64 n207), (.int .i64 n208)]) : Value) = (.agg #[(.int .i64 n154), (.int .i64 n155), (.int .i64 n156), (.int .i64 n157)])) <|
 WR (Addr.add ⟨B198, 0, none⟩ 0) (.int .i64 n191) <|
 WR (Addr.add ⟨B198, 0, none⟩ 1) (.int .i64 n194) <|
 J_top_TopDug_7 W R B11 B58 n4 (some ⟨B198, 0, none⟩) n153 n1 n62 n9 n10 n197)
 (fun e184 => R (.panicked e184)),
 NEWZ Pg 27 fun B491 =>
 ANDS (RDI .i64 (Addr.add ⟨B58, 0, none⟩ 0) fun n492 =>
 RDI .i64 (Addr.add ⟨B58, 0, none⟩ 1) fun n493 =>
 RDI .i64 (Addr.add ⟨B58, 0, none⟩ 2) fun n494 =>
 RDL (Addr.add ⟨B58, 0, none⟩ 3) fun x495 l496 c497 =>
 fun _ => ((.agg #[(.int .i64 n492), (.int .i64 n493), (.int .i64 n494), (.slice x495 l496 c497)]) : Value) = (.agg #[(.int .i64 n158), (.int .i64 n159), (.int .i64 n160), (.slice x161 l162 c163)])) <|
 ANDS (RDI .i64 (Addr.add ⟨B11, 0, none⟩ 0) fun n498 =>
 RDI .i64 (Addr.add ⟨B11, 0, none⟩ 1) fun n499 =>
 RDI .i64 (Addr.add ⟨B11, 0, none⟩ 2) fun n500 =>
 RDI .i64 (Addr.add ⟨B11, 0, none⟩ 3) fun n501 =>
 fun _ => ((.agg #[(.int .i64 n498), (.int .i64 n499), (.int .i64 n500), (.int .i64 n501)]) : Value) = (.agg #[(.int .i64 n154), (.int .i64 n155), (.int .i64 n156), (.int .i64 n157)])) <|
 CALL Pg W F_even_Gives [(.agg #[(.int .i64 n154), (.int .i64 n155), (.int .i64 n156), (.int .i64 n157)]), (.agg #[(.int .i64 n158), (.int .i64 n159), (.int .i64 n160), (.slice x161 l162 c163), (.int .i64 (Int.tmod (IntKind.wrap .i64 n4) 41)), (.int .i64 n169), (.int .i64 n172)])]
 (fun v502 => TUP v502 fun q504 => HD q504 fun v505 r506 => AGG v505 fun q507 => HD q507 fun v508 r509 => TYI .i64 v508 fun n510 =>
 HD r509 fun v511 r512 => TYI .i64 v511 fun n513 =>
 NL r512 <|
 HD r506 fun v514 r515 => TYI .i64 v514 fun n516 =>
 NL r515 <|
 WR (Addr.add ⟨B491, 0, none⟩ 0) (.int .i64 n510) <|
 WR (Addr.add ⟨B491, 0, none⟩ 1) (.int .i64 n513) <|
 J_top_TopDug_7 W R B11 B58 n4 (some ⟨B491, 0, none⟩) n153 n1 n62 n9 n10 n516)
 (fun e503 => R (.panicked e503))])
 (fun e165 => R (.panicked e165)),
 NEWZ Pg 27 fun B517 =>
 ANDS (RDI .i64 (Addr.add ⟨B58, 0, none⟩ 0) fun n518 =>
 RDI .i64 (Addr.add ⟨B58, 0, none⟩ 1) fun n519 =>
 RDI .i64 (Addr.add ⟨B58, 0, none⟩ 2) fun n520 =>
 RDL (Addr.add ⟨B58, 0, none⟩ 3) fun x521 l522 c523 =>
 fun _ => ((.agg #[(.int .i64 n518), (.int .i64 n519), (.int .i64 n520), (.slice x521 l522 c523)]) : Value) = (.agg #[(.int .i64 n158), (.int .i64 n159), (.int .i64 n160), (.slice x161 l162 c163)])) <|
 ANDS (RDI .i64 (Addr.add ⟨B11, 0, none⟩ 0) fun n524 =>
 RDI .i64 (Addr.add ⟨B11, 0, none⟩ 1) fun n525 =>
 RDI .i64 (Addr.add ⟨B11, 0, none⟩ 2) fun n526 =>
 RDI .i64 (Addr.add ⟨B11, 0, none⟩ 3) fun n527 =>
 fun _ => ((.agg #[(.int .i64 n524), (.int .i64 n525), (.int .i64 n526), (.int .i64 n527)]) : Value) = (.agg #[(.int .i64 n154), (.int .i64 n155), (.int .i64 n156), (.int .i64 n157)])) <|
 CALL Pg W F_top_span04 [(.int .i64 10), (.int .i64 20)]
 (fun v528 => AGG v528 fun q530 => HD q530 fun v531 r532 => TYI .i64 v531 fun n533 =>
 HD r532 fun v534 r535 => TYI .i64 v534 fun n536 =>
 NL r535 <|
 ANDS (RDI .i64 (Addr.add ⟨B58, 0, none⟩ 0) fun n537 =>
 RDI .i64 (Addr.add ⟨B58, 0, none⟩ 1) fun n538 =>
 RDI .i64 (Addr.add ⟨B58, 0, none⟩ 2) fun n539 =>
 RDL (Addr.add ⟨B58, 0, none⟩ 3) fun x540 l541 c542 =>
 fun _ => ((.agg #[(.int .i64 n537), (.int .i64 n538), (.int .i64 n539), (.slice x540 l541 c542)]) : Value) = (.agg #[(.int .i64 n158), (.int .i64 n159), (.int .i64 n160), (.slice x161 l162 c163)])) <|
 ANDS (RDI .i64 (Addr.add ⟨B11, 0, none⟩ 0) fun n543 =>
 RDI .i64 (Addr.add ⟨B11, 0, none⟩ 1) fun n544 =>
 RDI .i64 (Addr.add ⟨B11, 0, none⟩ 2) fun n545 =>
 RDI .i64 (Addr.add ⟨B11, 0, none⟩ 3) fun n546 =>
 fun _ => ((.agg #[(.int .i64 n543), (.int .i64 n544), (.int .i64 n545), (.int .i64 n546)]) : Value) = (.agg #[(.int .i64 n154), (.int .i64 n155), (.int .i64 n156), (.int .i64 n157)])) <|
 CALL Pg W F_even_Gives [(.agg #[(.int .i64 n154), (.int .i64 n155), (.int .i64 n156), (.int .i64 n157)]), (.agg #[(.int .i64 n158), (.int .i64 n159), (.int .i64 n160), (.slice x161 l162 c163), (.int .i64 (Int.tmod (IntKind.wrap .i64 n4) 41)), (.int .i64 n533), (.int .i64 n536)])]
 (fun v547 => TUP v547 fun q549 => HD q549 fun v550 r551 => AGG v550 fun q552 => HD q552 fun v553 r554 => TYI .i64 v553 fun n555 =>
 HD r554 fun v556 r557 => TYI .i64 v556 fun n558 =>
 NL r557 <|
 HD r551 fun v559 r560 => TYI .i64 v559 fun n561 =>
 NL r560 <|
 WR (Addr.add ⟨B517, 0, none⟩ 0) (.int .i64 n555) <|
 WR (Addr.add ⟨B517, 0, none⟩ 1) (.int .i64 n558) <|
 J_top_TopDug_7 W R B11 B58 n4 (some ⟨B517, 0, none⟩) n153 n1 n62 n9 n10 n561)
 (fun e548 => R (.panicked e548)))
 (fun e529 => R (.panicked e529))])
def J_top_TopDug_9 (W : World) (R : Ending → Hp → Prop) (b151 : Bool) (B11 B58 : Nat) (n4 n1 n62 n9 n10 n120 : Int) : Hp → Prop :=
 BR b151
 (J_top_TopDug_8 W R true B11 B58 n4 n1 n62 n9 n10)
 (J_top_TopDug_8 W R (n120 != 0) B11 B58 n4 n1 n62 n9 n10)
def J_top_TopDug_10 (W : World) (R : Ending → Hp → Prop) (b143 : Bool) (B11 B58 : Nat) (n4 n1 n62 n9 n10 n120 : Int) (B121 B84 : Nat) : Hp → Prop :=
 BR b143
 (J_top_TopDug_9 W R true B11 B58 n4 n1 n62 n9 n10 n120)
 (RDI .i64 (Addr.add ⟨B121, 0, none⟩ 0) fun n562 =>
 RDI .i64 (Addr.add ⟨B121, 0, none⟩ 1) fun n563 =>
 RDI .i64 (Addr.add ⟨B84, 0, none⟩ 0) fun n564 =>
 RDI .i64 (Addr.add ⟨B84, 0, none⟩ 1) fun n565 =>
 J_top_TopDug_9 W R (!((n562 == n564) && (n563 == n565))) B11 B58 n4 n1 n62 n9 n10 n120)
def J_top_TopDug_11 (W : World) (R : Ending → Hp → Prop) (b140 : Bool) (B11 B58 : Nat) (n4 n1 n62 n9 n10 n120 : Int) (B121 B84 : Nat) (n99 : Int) : Hp → Prop :=
 BR b140
 (J_top_TopDug_10 W R true B11 B58 n4 n1 n62 n9 n10 n120 B121 B84)
 (J_top_TopDug_10 W R (n99 != 0) B11 B58 n4 n1 n62 n9 n10 n120 B121 B84)
def J_top_TopDug_12 (W : World) (R : Ending → Hp → Prop) (b137 : Bool) (B11 B58 : Nat) (n4 n1 n62 n9 n10 n120 : Int) (B121 B84 : Nat) (n99 n61 n96 : Int) : Hp → Prop :=
 BR b137
 (J_top_TopDug_11 W R true B11 B58 n4 n1 n62 n9 n10 n120 B121 B84 n99)
 (NNI n61 <|
 J_top_TopDug_11 W R (n96 != (shlv .i64 1 n61)) B11 B58 n4 n1 n62 n9 n10 n120 B121 B84 n99)
def J_top_TopDug_13 (W : World) (R : Ending → Hp → Prop) (B58 : Nat) (n4 n1 : Int) (B11 : Nat) (n62 n9 n10 n61 : Int) : Hp → Prop :=
 RDI .i64 (Addr.add ⟨B58, 0, none⟩ 0) fun n63 =>
 RDI .i64 (Addr.add ⟨B58, 0, none⟩ 1) fun n64 =>
 RDI .i64 (Addr.add ⟨B58, 0, none⟩ 2) fun n65 =>
 RDL (Addr.add ⟨B58, 0, none⟩ 3) fun x66 l67 c68 =>
 CALL Pg W F_soil_Hard [(.agg #[(.int .i64 n63), (.int .i64 n64), (.int .i64 n65), (.slice x66 l67 c68)]), (.int .i64 (Int.tmod (IntKind.wrap .i64 n4) 41))]
 (fun v69 => TUP v69 fun q71 => HD q71 fun v72 r73 => AGG v72 fun q74 => HD q74 fun v75 r76 => TYI .i64 v75 fun n77 =>
 HD r76 fun v78 r79 => TYI .i64 v78 fun n80 =>
 NL r79 <|
 HD r73 fun v81 r82 => TYI .i64 v81 fun n83 =>
 NL r82 <|
 NEWZ Pg 27 fun B84 =>
 WR (Addr.add ⟨B84, 0, none⟩ 0) (.int .i64 n77) <|
 WR (Addr.add ⟨B84, 0, none⟩ 1) (.int .i64 n80) <|
 RDI .i64 (Addr.add ⟨B58, 0, none⟩ 0) fun n85 =>
 RDI .i64 (Addr.add ⟨B58, 0, none⟩ 1) fun n86 =>
 RDI .i64 (Addr.add ⟨B58, 0, none⟩ 2) fun n87 =>
 RDL (Addr.add ⟨B58, 0, none⟩ 3) fun x88 l89 c90 =>
 CALL Pg W F_soil_Class [(.agg #[(.int .i64 n85), (.int .i64 n86), (.int .i64 n87), (.slice x88 l89 c90)]), (.int .i64 (Int.tmod (IntKind.wrap .i64 n4) 41))]
 (fun v91 => TUP v91 fun q93 => HD q93 fun v94 r95 => TYI .i64 v94 fun n96 =>
 HD r95 fun v97 r98 => TYI .i64 v97 fun n99 =>
 NL r98 <|
 RDI .i64 (Addr.add ⟨B58, 0, none⟩ 0) fun n100 =>
 RDI .i64 (Addr.add ⟨B58, 0, none⟩ 1) fun n101 =>
 RDI .i64 (Addr.add ⟨B58, 0, none⟩ 2) fun n102 =>
 RDL (Addr.add ⟨B58, 0, none⟩ 3) fun x103 l104 c105 =>
 CALL Pg W F_soil_Work [(.agg #[(.int .i64 n100), (.int .i64 n101), (.int .i64 n102), (.slice x103 l104 c105)]), (.int .i64 (Int.tmod (IntKind.wrap .i64 n4) 41)), (.int .i64 (Int.tmod (IntKind.wrap .i64 n4) 41))]
 (fun v106 => TUP v106 fun q108 => HD q108 fun v109 r110 => AGG v109 fun q111 => HD q111 fun v112 r113 => TYI .i64 v112 fun n114 =>
 HD r113 fun v115 r116 => TYI .i64 v115 fun n117 =>
 NL r116 <|
 HD r110 fun v118 r119 => TYI .i64 v118 fun n120 =>
 NL r119 <|
 NEWZ Pg 27 fun B121 =>
 WR (Addr.add ⟨B121, 0, none⟩ 0) (.int .i64 n114) <|
 WR (Addr.add ⟨B121, 0, none⟩ 1) (.int .i64 n117) <|
 RDI .i64 (Addr.add ⟨B84, 0, none⟩ 0) fun n122 =>
 RDI .i64 (Addr.add ⟨B84, 0, none⟩ 1) fun n123 =>
 CALL Pg W F_top_span04 [(.int .i64 (Int.tmod (IntKind.wrap .i64 n1) 1001)), (.int .i64 (Int.tmod (IntKind.wrap .i64 n1) 1001))]
 (fun v124 => AGG v124 fun q126 => HD q126 fun v127 r128 => TYI .i64 v127 fun n129 =>
 HD r128 fun v130 r131 => TYI .i64 v130 fun n132 =>
 NL r131 <|
 ANDS (RDI .i64 (Addr.add ⟨B84, 0, none⟩ 0) fun n133 =>
 RDI .i64 (Addr.add ⟨B84, 0, none⟩ 1) fun n134 =>
 fun _ => ((.agg #[(.int .i64 n133), (.int .i64 n134)]) : Value) = (.agg #[(.int .i64 n122), (.int .i64 n123)])) <|
 BR (!((n122 == n129) && (n123 == n132)))
 (J_top_TopDug_12 W R true B11 B58 n4 n1 n62 n9 n10 n120 B121 B84 n99 n61 n96)
 (J_top_TopDug_12 W R (n83 != 0) B11 B58 n4 n1 n62 n9 n10 n120 B121 B84 n99 n61 n96))
 (fun e125 => R (.panicked e125)))
 (fun e107 => R (.panicked e107)))
 (fun e92 => R (.panicked e92)))
 (fun e70 => R (.panicked e70))
def J_top_TopDug_14 (W : World) (R : Ending → Hp → Prop) (b17 : Bool) (n2 n1 n3 n4 : Int) (B11 : Nat) (n9 n10 : Int) : Hp → Prop :=
 BR b17
 (CALL Pg W F_top_alive11 []
 (fun v18 => TYB v18 fun b20 =>
 R (.returned (.bool b20)))
 (fun e19 => R (.panicked e19)))
 (NZI (IntKind.wrap .i64 ((IntKind.wrap .i64 (20 - (Int.tmod (IntKind.wrap .i64 n2) 21))) + 1)) <|
 CALL Pg W F_top_span04 [(.int .i64 (Int.tmod (IntKind.wrap .i64 n1) 1001)), (.int .i64 (Int.tmod (IntKind.wrap .i64 n1) 1001))]
 (fun v21 => AGG v21 fun q23 => HD q23 fun v24 r25 => TYI .i64 v24 fun n26 =>
 HD r25 fun v27 r28 => TYI .i64 v27 fun n29 =>
 NL r28 <|
 CALL Pg W F_top_span04 [(.int .i64 (Int.tmod (IntKind.wrap .i64 n2) 21)), (.int .i64 (Int.tmod (IntKind.wrap .i64 n2) 21))]
 (fun v30 => AGG v30 fun q32 => HD q32 fun v33 r34 => TYI .i64 v33 fun n35 =>
 HD r34 fun v36 r37 => TYI .i64 v36 fun n38 =>
 NL r37 <|
 CALL Pg W F_top_span04 [(.int .i64 (Int.tmod (IntKind.wrap .i64 n3) (IntKind.wrap .i64 ((IntKind.wrap .i64 (20 - (Int.tmod (IntKind.wrap .i64 n2) 21))) + 1)))), (.int .i64 (Int.tmod (IntKind.wrap .i64 n3) (IntKind.wrap .i64 ((IntKind.wrap .i64 (20 - (Int.tmod (IntKind.wrap .i64 n2) 21))) + 1))))]
 (fun v39 => AGG v39 fun q41 => HD q41 fun v42 r43 => TYI .i64 v42 fun n44 =>
 HD r43 fun v45 r46 => TYI .i64 v45 fun n47 =>
 NL r46 <|
 CALL Pg W F_top_span04 [(.int .i64 (IntKind.wrap .i64 ((IntKind.wrap .i64 (20 - (Int.tmod (IntKind.wrap .i64 n2) 21))) - (Int.tmod (IntKind.wrap .i64 n3) (IntKind.wrap .i64 ((IntKind.wrap .i64 (20 - (Int.tmod (IntKind.wrap .i64 n2) 21))) + 1)))))), (.int .i64 (IntKind.wrap .i64 ((IntKind.wrap .i64 (20 - (Int.tmod (IntKind.wrap .i64 n2) 21))) - (Int.tmod (IntKind.wrap .i64 n3) (IntKind.wrap .i64 ((IntKind.wrap .i64 (20 - (Int.tmod (IntKind.wrap .i64 n2) 21))) + 1))))))]
 (fun v48 => AGG v48 fun q50 => HD q50 fun v51 r52 => TYI .i64 v51 fun n53 =>
 HD r52 fun v54 r55 => TYI .i64 v54 fun n56 =>
 NL r55 <|
 NEW 30 [(.int .i64 (Int.tmod (IntKind.wrap .i64 n4) 41)), (.int .i64 n26), (.int .i64 n29), (.int .i64 n35), (.int .i64 n38), (.int .i64 n44), (.int .i64 n47), (.int .i64 n53), (.int .i64 n56)] fun B57 =>
 NEWZ Pg 33 fun B58 =>
 WR (Addr.add ⟨B58, 0, none⟩ 0) (.int .i64 40) <|
 WR (Addr.add ⟨B58, 0, none⟩ 1) (.int .i64 40) <|
 WR (Addr.add ⟨B58, 0, none⟩ 2) (.int .i64 3) <|
 WR (Addr.add ⟨B58, 0, none⟩ 3) (.slice (some ⟨B57, 0, none⟩) 1 1) <|
 BR (decide ((IntKind.wrap .i64 ((IntKind.wrap .i64 (20 - (Int.tmod (IntKind.wrap .i64 n2) 21))) - (Int.tmod (IntKind.wrap .i64 n3) (IntKind.wrap .i64 ((IntKind.wrap .i64 (20 - (Int.tmod (IntKind.wrap .i64 n2) 21))) + 1))))) ≥ 8))
 (RDI .i64 (Addr.add ⟨B11, 0, none⟩ 3) fun n59 =>
 ANDS (RDI .i64 (Addr.add ⟨B11, 0, none⟩ 3) fun n60 =>
 fun _ => ((.int .i64 n60) : Value) = (.int .i64 n59)) <|
 J_top_TopDug_13 W R B58 n4 n1 B11 n59 n9 n10 3)
 (BR (decide ((Int.tmod (IntKind.wrap .i64 n2) 21) ≥ 14))
 (RDI .i64 (Addr.add ⟨B11, 0, none⟩ 2) fun n566 =>
 ANDS (RDI .i64 (Addr.add ⟨B11, 0, none⟩ 2) fun n567 =>
 fun _ => ((.int .i64 n567) : Value) = (.int .i64 n566)) <|
 J_top_TopDug_13 W R B58 n4 n1 B11 n566 n9 n10 1)
 (BR (decide ((Int.tmod (IntKind.wrap .i64 n3) (IntKind.wrap .i64 ((IntKind.wrap .i64 (20 - (Int.tmod (IntKind.wrap .i64 n2) 21))) + 1))) ≥ 12))
 (RDI .i64 (Addr.add ⟨B11, 0, none⟩ 1) fun n568 =>
 ANDS (RDI .i64 (Addr.add ⟨B11, 0, none⟩ 1) fun n569 =>
 fun _ => ((.int .i64 n569) : Value) = (.int .i64 n568)) <|
 J_top_TopDug_13 W R B58 n4 n1 B11 n568 n9 n10 2)
 (J_top_TopDug_13 W R B58 n4 n1 B11 0 n9 n10 0))))
 (fun e49 => R (.panicked e49)))
 (fun e40 => R (.panicked e40)))
 (fun e31 => R (.panicked e31)))
 (fun e22 => R (.panicked e22)))
def J_top_TopDug_15 (W : World) (R : Ending → Hp → Prop) (b16 : Bool) (n2 n1 n3 n4 : Int) (B11 : Nat) (n9 n10 : Int) : Hp → Prop :=
 BR b16
 (J_top_TopDug_14 W R true n2 n1 n3 n4 B11 n9 n10)
 (RDI .i64 (Addr.add ⟨B11, 0, none⟩ 3) fun n570 =>
 J_top_TopDug_14 W R (decide (n570 > 12)) n2 n1 n3 n4 B11 n9 n10)
def J_top_TopDug_16 (W : World) (R : Ending → Hp → Prop) (b15 : Bool) (n2 n1 n3 n4 : Int) (B11 : Nat) (n9 n10 : Int) : Hp → Prop :=
 BR b15
 (J_top_TopDug_15 W R true n2 n1 n3 n4 B11 n9 n10)
 (RDI .i64 (Addr.add ⟨B11, 0, none⟩ 3) fun n571 =>
 RDI .i64 (Addr.add ⟨B11, 0, none⟩ 2) fun n572 =>
 J_top_TopDug_15 W R (decide (n571 < n572)) n2 n1 n3 n4 B11 n9 n10)
def J_top_TopDug_17 (W : World) (R : Ending → Hp → Prop) (b14 : Bool) (n2 n1 n3 n4 : Int) (B11 : Nat) (n9 n10 : Int) : Hp → Prop :=
 BR b14
 (J_top_TopDug_16 W R true n2 n1 n3 n4 B11 n9 n10)
 (RDI .i64 (Addr.add ⟨B11, 0, none⟩ 2) fun n573 =>
 RDI .i64 (Addr.add ⟨B11, 0, none⟩ 1) fun n574 =>
 J_top_TopDug_16 W R (decide (n573 < n574)) n2 n1 n3 n4 B11 n9 n10)
def J_top_TopDug_18 (W : World) (R : Ending → Hp → Prop) (b13 : Bool) (n2 n1 n3 n4 : Int) (B11 : Nat) (n9 n10 : Int) : Hp → Prop :=
 BR b13
 (J_top_TopDug_17 W R true n2 n1 n3 n4 B11 n9 n10)
 (RDI .i64 (Addr.add ⟨B11, 0, none⟩ 1) fun n575 =>
 J_top_TopDug_17 W R (decide (n575 < 0)) n2 n1 n3 n4 B11 n9 n10)
def T_top_TopDug (W : World) (n1 n2 n3 n4 n5 n6 n7 n8 n9 n10 : Int) (R : Ending → Hp → Prop) : Hp → Prop :=
 NEW 24 [(.int .i64 n5), (.int .i64 n6), (.int .i64 n7), (.int .i64 n8)] fun B11 =>
 RDI .i64 (Addr.add ⟨B11, 0, none⟩ 0) fun n12 =>
 BR (decide (n12 < 0))
 (J_top_TopDug_18 W R true n2 n1 n3 n4 B11 n9 n10)
 (RDI .i64 (Addr.add ⟨B11, 0, none⟩ 0) fun n576 =>
 J_top_TopDug_18 W R (decide (n576 > 5)) n2 n1 n3 n4 B11 n9 n10)
theorem does_top_TopDug (W : World) (n1 n2 n3 n4 n5 n6 n7 n8 n9 n10 : Int) (R : Ending → Hp → Prop) (s : Hp) (h : T_top_TopDug W n1 n2 n3 n4 n5 n6 n7 n8 n9 n10 R s) : Does Pg W F_top_TopDug #[(.int .u16 n1), (.int .u8 n2), (.int .u8 n3), (.int .u8 n4), (.agg #[(.int .i64 n5), (.int .i64 n6), (.int .i64 n7), (.int .i64 n8)]), (.int .u16 n9), (.int .u8 n10)] s R :=
  does_of_vfun Pg W an_3 Tryz.func3 rfl (by kernel_rfl) (Eq.mpr (by kernel_rfl) h)
def an_4 : Nat → Ann := fun b => match b with
 | _ => {}
def T_top_alive11 (W : World) (R : Ending → Hp → Prop) : Hp → Prop :=
 CALL Pg W F_top_ground07 []
 (fun v1 => AGG v1 fun q3 => HD q3 fun v4 r5 => TYI .i64 v4 fun n6 =>
 HD r5 fun v7 r8 => TYI .i64 v7 fun n9 =>
 HD r8 fun v10 r11 => TYI .i64 v10 fun n12 =>
 HD r11 fun v13 r14 => TYL v13 fun x15 l16 c17 =>
 NL r14 <|
 CALL Pg W F_top_span04 [(.int .i64 60), (.int .i64 61)]
 (fun v18 => AGG v18 fun q20 => HD q20 fun v21 r22 => TYI .i64 v21 fun n23 =>
 HD r22 fun v24 r25 => TYI .i64 v24 fun n26 =>
 NL r25 <|
 CALL Pg W F_even_Gives [(.agg #[(.int .i64 2), (.int .i64 1), (.int .i64 3), (.int .i64 6)]), (.agg #[(.int .i64 n6), (.int .i64 n9), (.int .i64 n12), (.slice x15 l16 c17), (.int .i64 8), (.int .i64 n23), (.int .i64 n26)])]
 (fun v27 => TUP v27 fun q29 => HD q29 fun v30 r31 => AGG v30 fun q32 => HD q32 fun v33 r34 => TYI .i64 v33 fun n35 =>
 HD r34 fun v36 r37 => TYI .i64 v36 fun n38 =>
 NL r37 <|
 HD r31 fun v39 r40 => TYI .i64 v39 fun n41 =>
 NL r40 <|
 NEWZ Pg 27 fun B42 =>
 WR (Addr.add ⟨B42, 0, none⟩ 0) (.int .i64 n35) <|
 WR (Addr.add ⟨B42, 0, none⟩ 1) (.int .i64 n38) <|
 CALL Pg W F_top_ground07 []
 (fun v43 => AGG v43 fun q45 => HD q45 fun v46 r47 => TYI .i64 v46 fun n48 =>
 HD r47 fun v49 r50 => TYI .i64 v49 fun n51 =>
 HD r50 fun v52 r53 => TYI .i64 v52 fun n54 =>
 HD r53 fun v55 r56 => TYL v55 fun x57 l58 c59 =>
 NL r56 <|
 CALL Pg W F_soil_Class [(.agg #[(.int .i64 n48), (.int .i64 n51), (.int .i64 n54), (.slice x57 l58 c59)]), (.int .i64 8)]
 (fun v60 => TUP v60 fun q62 => HD q62 fun v63 r64 => TYI .i64 v63 fun n65 =>
 HD r64 fun v66 r67 => TYI .i64 v66 fun n68 =>
 NL r67 <|
 RDI .i64 (Addr.add ⟨B42, 0, none⟩ 0) fun n69 =>
 RDI .i64 (Addr.add ⟨B42, 0, none⟩ 1) fun n70 =>
 CALL Pg W F_top_span04 [(.int .i64 16), (.int .i64 16)]
 (fun v71 => AGG v71 fun q73 => HD q73 fun v74 r75 => TYI .i64 v74 fun n76 =>
 HD r75 fun v77 r78 => TYI .i64 v77 fun n79 =>
 NL r78 <|
 ANDS (RDI .i64 (Addr.add ⟨B42, 0, none⟩ 0) fun n80 =>
 RDI .i64 (Addr.add ⟨B42, 0, none⟩ 1) fun n81 =>
 fun _ => ((.agg #[(.int .i64 n80), (.int .i64 n81)]) : Value) = (.agg #[(.int .i64 n69), (.int .i64 n70)])) <|
 BR ((n69 == n76) && (n70 == n79))
 (BR (n41 == 0)
 (BR (n65 == 8)
 (BR (n68 == 0)
 (CALL Pg W F_top_alive07 []
 (fun v82 => TYB v82 fun b84 =>
 R (.returned (.bool b84)))
 (fun e83 => R (.panicked e83)))
 (R (.returned (.bool false))))
 (R (.returned (.bool false))))
 (R (.returned (.bool false))))
 (R (.returned (.bool false))))
 (fun e72 => R (.panicked e72)))
 (fun e61 => R (.panicked e61)))
 (fun e44 => R (.panicked e44)))
 (fun e28 => R (.panicked e28)))
 (fun e19 => R (.panicked e19)))
 (fun e2 => R (.panicked e2))
theorem does_top_alive11 (W : World) (R : Ending → Hp → Prop) (s : Hp) (h : T_top_alive11 W R s) : Does Pg W F_top_alive11 #[] s R :=
  does_of_vfun Pg W an_4 Tryz.func4 rfl (by kernel_rfl) (Eq.mpr (by kernel_rfl) h)
def an_5 : Nat → Ann := fun b => match b with
 | _ => {}
def T_top_span04 (W : World) (n1 n2 : Int) (R : Ending → Hp → Prop) : Hp → Prop :=
 NEWZ Pg 27 fun B3 =>
 WR (Addr.add ⟨B3, 0, none⟩ 0) (.int .i64 n1) <|
 WR (Addr.add ⟨B3, 0, none⟩ 1) (.int .i64 n2) <|
 RDI .i64 (Addr.add ⟨B3, 0, none⟩ 0) fun n4 =>
 RDI .i64 (Addr.add ⟨B3, 0, none⟩ 1) fun n5 =>
 R (.returned (.agg #[(.int .i64 n4), (.int .i64 n5)]))
theorem does_top_span04 (W : World) (n1 n2 : Int) (R : Ending → Hp → Prop) (s : Hp) (h : T_top_span04 W n1 n2 R s) : Does Pg W F_top_span04 #[(.int .i64 n1), (.int .i64 n2)] s R :=
  does_of_vfun Pg W an_5 Tryz.func5 rfl (by kernel_rfl) (Eq.mpr (by kernel_rfl) h)
def an_13 : Nat → Ann := fun b => match b with
 | _ => {}
def T_top_ground07 (W : World) (R : Ending → Hp → Prop) : Hp → Prop :=
 NEWZ Pg 33 fun B1 =>
 CALL Pg W F_top_span04 [(.int .i64 300), (.int .i64 320)]
 (fun v2 => AGG v2 fun q4 => HD q4 fun v5 r6 => TYI .i64 v5 fun n7 =>
 HD r6 fun v8 r9 => TYI .i64 v8 fun n10 =>
 NL r9 <|
 CALL Pg W F_top_span04 [(.int .i64 10), (.int .i64 12)]
 (fun v11 => AGG v11 fun q13 => HD q13 fun v14 r15 => TYI .i64 v14 fun n16 =>
 HD r15 fun v17 r18 => TYI .i64 v17 fun n19 =>
 NL r18 <|
 CALL Pg W F_top_span04 [(.int .i64 4), (.int .i64 6)]
 (fun v20 => AGG v20 fun q22 => HD q22 fun v23 r24 => TYI .i64 v23 fun n25 =>
 HD r24 fun v26 r27 => TYI .i64 v26 fun n28 =>
 NL r27 <|
 CALL Pg W F_top_span04 [(.int .i64 4), (.int .i64 5)]
 (fun v29 => AGG v29 fun q31 => HD q31 fun v32 r33 => TYI .i64 v32 fun n34 =>
 HD r33 fun v35 r36 => TYI .i64 v35 fun n37 =>
 NL r36 <|
 CALL Pg W F_top_span04 [(.int .i64 500), (.int .i64 520)]
 (fun v38 => AGG v38 fun q40 => HD q40 fun v41 r42 => TYI .i64 v41 fun n43 =>
 HD r42 fun v44 r45 => TYI .i64 v44 fun n46 =>
 NL r45 <|
 CALL Pg W F_top_span04 [(.int .i64 5), (.int .i64 6)]
 (fun v47 => AGG v47 fun q49 => HD q49 fun v50 r51 => TYI .i64 v50 fun n52 =>
 HD r51 fun v53 r54 => TYI .i64 v53 fun n55 =>
 NL r54 <|
 CALL Pg W F_top_span04 [(.int .i64 3), (.int .i64 5)]
 (fun v56 => AGG v56 fun q58 => HD q58 fun v59 r60 => TYI .i64 v59 fun n61 =>
 HD r60 fun v62 r63 => TYI .i64 v62 fun n64 =>
 NL r63 <|
 CALL Pg W F_top_span04 [(.int .i64 9), (.int .i64 11)]
 (fun v65 => AGG v65 fun q67 => HD q67 fun v68 r69 => TYI .i64 v68 fun n70 =>
 HD r69 fun v71 r72 => TYI .i64 v71 fun n73 =>
 NL r72 <|
 NEW 30 [(.int .i64 2), (.int .i64 n7), (.int .i64 n10), (.int .i64 n16), (.int .i64 n19), (.int .i64 n25), (.int .i64 n28), (.int .i64 n34), (.int .i64 n37), (.int .i64 8), (.int .i64 n43), (.int .i64 n46), (.int .i64 n52), (.int .i64 n55), (.int .i64 n61), (.int .i64 n64), (.int .i64 n70), (.int .i64 n73)] fun B74 =>
 WR (Addr.add ⟨B1, 0, none⟩ 0) (.int .i64 10) <|
 WR (Addr.add ⟨B1, 0, none⟩ 1) (.int .i64 50) <|
 WR (Addr.add ⟨B1, 0, none⟩ 2) (.int .i64 2) <|
 WR (Addr.add ⟨B1, 0, none⟩ 3) (.slice (some ⟨B74, 0, none⟩) 2 2) <|
 RDI .i64 (Addr.add ⟨B1, 0, none⟩ 0) fun n75 =>
 RDI .i64 (Addr.add ⟨B1, 0, none⟩ 1) fun n76 =>
 RDI .i64 (Addr.add ⟨B1, 0, none⟩ 2) fun n77 =>
 RDL (Addr.add ⟨B1, 0, none⟩ 3) fun x78 l79 c80 =>
 R (.returned (.agg #[(.int .i64 n75), (.int .i64 n76), (.int .i64 n77), (.slice x78 l79 c80)])))
 (fun e66 => R (.panicked e66)))
 (fun e57 => R (.panicked e57)))
 (fun e48 => R (.panicked e48)))
 (fun e39 => R (.panicked e39)))
 (fun e30 => R (.panicked e30)))
 (fun e21 => R (.panicked e21)))
 (fun e12 => R (.panicked e12)))
 (fun e3 => R (.panicked e3))
theorem does_top_ground07 (W : World) (R : Ending → Hp → Prop) (s : Hp) (h : T_top_ground07 W R s) : Does Pg W F_top_ground07 #[] s R :=
  does_of_vfun Pg W an_13 Tryz.func13 rfl (by kernel_rfl) (Eq.mpr (by kernel_rfl) h)
def an_14 : Nat → Ann := fun b => match b with
 | _ => {}
def J_top_alive07_0 (W : World) (R : Ending → Hp → Prop) (b141 : Bool) (p124 : Option Addr) (n125 : Int) : Hp → Prop :=
 BR b141
 (SO p124 fun a142 =>
 RDI .i64 (Addr.add a142 0) fun n143 =>
 RDI .i64 (Addr.add a142 1) fun n144 =>
 CALL Pg W F_top_span04 [(.int .i64 6), (.int .i64 63)]
 (fun v145 => AGG v145 fun q147 => HD q147 fun v148 r149 => TYI .i64 v148 fun n150 =>
 HD r149 fun v151 r152 => TYI .i64 v151 fun n153 =>
 NL r152 <|
 ANDS (SO p124 fun a157 =>
 RDI .i64 (Addr.add a157 0) fun n158 =>
 RDI .i64 (Addr.add a157 1) fun n159 =>
 fun _ => ((.agg #[(.int .i64 n158), (.int .i64 n159)]) : Value) = (.agg #[(.int .i64 n143), (.int .i64 n144)])) <|
 BR ((n143 == n150) && (n144 == n153))
 (R (.returned (.bool (n125 == 0))))
 (R (.returned (.bool false))))
 (fun e146 => R (.panicked e146)))
 (R (.returned (.bool false)))
def J_top_alive07_1 (W : World) (R : Ending → Hp → Prop) (B37 : Nat) (n36 : Int) (p124 : Option Addr) (n125 : Int) : Hp → Prop :=
 RDI .i64 (Addr.add ⟨B37, 0, none⟩ 0) fun n126 =>
 RDI .i64 (Addr.add ⟨B37, 0, none⟩ 1) fun n127 =>
 CALL Pg W F_top_span04 [(.int .i64 50), (.int .i64 50)]
 (fun v128 => AGG v128 fun q130 => HD q130 fun v131 r132 => TYI .i64 v131 fun n133 =>
 HD r132 fun v134 r135 => TYI .i64 v134 fun n136 =>
 NL r135 <|
 ANDS (RDI .i64 (Addr.add ⟨B37, 0, none⟩ 0) fun n137 =>
 RDI .i64 (Addr.add ⟨B37, 0, none⟩ 1) fun n138 =>
 fun _ => ((.agg #[(.int .i64 n137), (.int .i64 n138)]) : Value) = (.agg #[(.int .i64 n126), (.int .i64 n127)])) <|
 BR ((n126 == n133) && (n127 == n136))
 (J_top_alive07_0 W R (n36 == 0) p124 n125)
 (J_top_alive07_0 W R false p124 n125))
 (fun e129 => R (.panicked e129))
def T_top_alive07 (W : World) (R : Ending → Hp → Prop) : Hp → Prop :=
 CALL Pg W F_top_clock07 []
 (fun v1 => AGG v1 fun q3 => HD q3 fun v4 r5 => TYL v4 fun x6 l7 c8 =>
 HD r5 fun v9 r10 => TYI .i64 v9 fun n11 =>
 HD r10 fun v12 r13 => TYL v12 fun x14 l15 c16 =>
 HD r13 fun v17 r18 => TYL v17 fun x19 l20 c21 =>
 NL r18 <|
 CALL Pg W F_clock_Lasted [(.agg #[(.slice x6 l7 c8), (.int .i64 n11), (.slice x14 l15 c16), (.slice x19 l20 c21)]), (.int .i64 0), (.int .i64 1)]
 (fun v22 => TUP v22 fun q24 => HD q24 fun v25 r26 => AGG v25 fun q27 => HD q27 fun v28 r29 => TYI .i64 v28 fun n30 =>
 HD r29 fun v31 r32 => TYI .i64 v31 fun n33 =>
 NL r32 <|
 HD r26 fun v34 r35 => TYI .i64 v34 fun n36 =>
 NL r35 <|
 NEWZ Pg 27 fun B37 =>
 WR (Addr.add ⟨B37, 0, none⟩ 0) (.int .i64 n30) <|
 WR (Addr.add ⟨B37, 0, none⟩ 1) (.int .i64 n33) <|
 CALL Pg W F_top_ground07 []
 (fun v38 => AGG v38 fun q40 => HD q40 fun v41 r42 => TYI .i64 v41 fun n43 =>
 HD r42 fun v44 r45 => TYI .i64 v44 fun n46 =>
 HD r45 fun v47 r48 => TYI .i64 v47 fun n49 =>
 HD r48 fun v50 r51 => TYL v50 fun x52 l53 c54 =>
 NL r51 <|
 NEW 46 [(.int .i64 4), (.int .i64 6), (.int .i64 0), (.int .i64 0), (.int .i64 0), (.int .i64 2), (.int .i64 5), (.int .i64 5), (.int .i64 0)] fun B55 =>
 NEWZ Pg 49 fun B56 =>
 WR (Addr.add ⟨B56, 0, none⟩ 0) (.int .i64 n43) <|
 WR (Addr.add ⟨B56, 0, none⟩ 1) (.int .i64 n46) <|
 WR (Addr.add ⟨B56, 0, none⟩ 2) (.int .i64 n49) <|
 WR (Addr.add ⟨B56, 0, none⟩ 3) (.slice x52 l53 c54) <|
 WR (Addr.add ⟨B56, 0, none⟩ 4) (.slice (some ⟨B55, 0, none⟩) 3 3) <|
 RDI .i64 (Addr.add ⟨B56, 0, none⟩ 0) fun n57 =>
 RDI .i64 (Addr.add ⟨B56, 0, none⟩ 1) fun n58 =>
 RDI .i64 (Addr.add ⟨B56, 0, none⟩ 2) fun n59 =>
 RDL (Addr.add ⟨B56, 0, none⟩ 3) fun x60 l61 c62 =>
 RDL (Addr.add ⟨B56, 0, none⟩ 4) fun x63 l64 c65 =>
 CONJ [
 CALL Pg W F_top_horses07 []
 (fun v66 => AGG v66 fun q68 => HD q68 fun v69 r70 => TYI .i64 v69 fun n71 =>
 HD r70 fun v72 r73 => TYI .i64 v72 fun n74 =>
 HD r73 fun v75 r76 => TYI .i64 v75 fun n77 =>
 HD r76 fun v78 r79 => TYI .i64 v78 fun n80 =>
 HD r79 fun v81 r82 => TYI .i64 v81 fun n83 =>
 HD r82 fun v84 r85 => TYI .i64 v84 fun n86 =>
 HD r85 fun v87 r88 => TYI .i64 v87 fun n89 =>
 NL r88 <|
 ANDS (RDI .i64 (Addr.add ⟨B56, 0, none⟩ 0) fun n90 =>
 RDI .i64 (Addr.add ⟨B56, 0, none⟩ 1) fun n91 =>
 RDI .i64 (Addr.add ⟨B56, 0, none⟩ 2) fun n92 =>
 RDL (Addr.add ⟨B56, 0, none⟩ 3) fun x93 l94 c95 =>
 RDL (Addr.add ⟨B56, 0, none⟩ 4) fun x96 l97 c98 =>
 fun _ => ((.agg #[(.int .i64 n90), (.int .i64 n91), (.int .i64 n92), (.slice x93 l94 c95), (.slice x96 l97 c98)]) : Value) = (.agg #[(.int .i64 n57), (.int .i64 n58), (.int .i64 n59), (.slice x60 l61 c62), (.slice x63 l64 c65)])) <|
 CONJ [
 CALL Pg W F_team_Left [(.agg #[(.int .i64 n71), (.int .i64 n74), (.int .i64 n77), (.int .i64 n80), (.int .i64 n83), (.int .i64 n86), (.int .i64 n89)]), (.agg #[(.int .i64 n57), (.int .i64 n58), (.int .i64 n59), (.slice x60 l61 c62), (.slice x63 l64 c65)]), (.int .i64 3)]
 (fun v99 => TUP v99 fun q101 => HD q101 fun v102 r103 => AGG v102 fun q104 => HD q104 fun v105 r106 => TYI .i64 v105 fun n107 =>
 HD r106 fun v108 r109 => TYI .i64 v108 fun n110 =>
 NL r109 <|
 HD r103 fun v111 r112 => TYI .i64 v111 fun n113 =>
 NL r112 <|
 NEWZ Pg 27 fun B114 =>
 ANDS (RDI .i64 (Addr.add ⟨B56, 0, none⟩ 0) fun n115 =>
 RDI .i64 (Addr.add ⟨B56, 0, none⟩ 1) fun n116 =>
 RDI .i64 (Addr.add ⟨B56, 0, none⟩ 2) fun n117 =>
 RDL (Addr.add ⟨B56, 0, none⟩ 3) fun x118 l119 c120 =>
 RDL (Addr.add ⟨B56, 0, none⟩ 4) fun x121 l122 c123 =>
 fun _ => ((.agg #[(.int .i64 n115), (.int .i64 n116), (.int .i64 n117), (.slice x118 l119 c120), (.slice x121 l122 c123)]) : Value) = (.agg #[(.int .i64 n57), (.int .i64 n58), (.int .i64 n59), (.slice x60 l61 c62), (.slice x63 l64 c65)])) <|
 WR (Addr.add ⟨B114, 0, none⟩ 0) (.int .i64 n107) <|
 WR (Addr.add ⟨B114, 0, none⟩ 1) (.int .i64 n110) <|
 J_top_alive07_1 W R B37 n36 (some ⟨B114, 0, none⟩) n113)
 (fun e100 => R (.panicked e100)),
 NEWZ Pg 27 fun B160 =>
 ANDS (RDI .i64 (Addr.add ⟨B56, 0, none⟩ 0) fun n161 =>
 RDI .i64 (Addr.add ⟨B56, 0, none⟩ 1) fun n162 =>
 RDI .i64 (Addr.add ⟨B56, 0, none⟩ 2) fun n163 =>
 RDL (Addr.add ⟨B56, 0, none⟩ 3) fun x164 l165 c166 =>
 RDL (Addr.add ⟨B56, 0, none⟩ 4) fun x167 l168 c169 =>
 fun _ => ((.agg #[(.int .i64 n161), (.int .i64 n162), (.int .i64 n163), (.slice x164 l165 c166), (.slice x167 l168 c169)]) : Value) = (.agg #[(.int .i64 n57), (.int .i64 n58), (.int .i64 n59), (.slice x60 l61 c62), (.slice x63 l64 c65)])) <|
 CALL Pg W F_team_Left [(.agg #[(.int .i64 n71), (.int .i64 n74), (.int .i64 n77), (.int .i64 n80), (.int .i64 n83), (.int .i64 n86), (.int .i64 n89)]), (.agg #[(.int .i64 n57), (.int .i64 n58), (.int .i64 n59), (.slice x60 l61 c62), (.slice x63 l64 c65)]), (.int .i64 3)]
 (fun v170 => TUP v170 fun q172 => HD q172 fun v173 r174 => AGG v173 fun q175 => HD q175 fun v176 r177 => TYI .i64 v176 fun n178 =>
 HD r177 fun v179 r180 => TYI .i64 v179 fun n181 =>
 NL r180 <|
 HD r174 fun v182 r183 => TYI .i64 v182 fun n184 =>
 NL r183 <|
 WR (Addr.add ⟨B160, 0, none⟩ 0) (.int .i64 n178) <|
 WR (Addr.add ⟨B160, 0, none⟩ 1) (.int .i64 n181) <|
 J_top_alive07_1 W R B37 n36 (some ⟨B160, 0, none⟩) n184)
 (fun e171 => R (.panicked e171))])
 (fun e67 => R (.panicked e67)),
 NEWZ Pg 27 fun B185 =>
 ANDS (RDI .i64 (Addr.add ⟨B56, 0, none⟩ 0) fun n186 =>
 RDI .i64 (Addr.add ⟨B56, 0, none⟩ 1) fun n187 =>
 RDI .i64 (Addr.add ⟨B56, 0, none⟩ 2) fun n188 =>
 RDL (Addr.add ⟨B56, 0, none⟩ 3) fun x189 l190 c191 =>
 RDL (Addr.add ⟨B56, 0, none⟩ 4) fun x192 l193 c194 =>
 fun _ => ((.agg #[(.int .i64 n186), (.int .i64 n187), (.int .i64 n188), (.slice x189 l190 c191), (.slice x192 l193 c194)]) : Value) = (.agg #[(.int .i64 n57), (.int .i64 n58), (.int .i64 n59), (.slice x60 l61 c62), (.slice x63 l64 c65)])) <|
 CALL Pg W F_top_horses07 []
 (fun v195 => AGG v195 fun q197 => HD q197 fun v198 r199 => TYI .i64 v198 fun n200 =>
 HD r199 fun v201 r202 => TYI .i64 v201 fun n203 =>
 HD r202 fun v204 r205 => TYI .i64 v204 fun n206 =>
 HD r205 fun v207 r208 => TYI .i64 v207 fun n209 =>
 HD r208 fun v210 r211 => TYI .i64 v210 fun n212 =>
 HD r211 fun v213 r214 => TYI .i64 v213 fun n215 =>
 HD r214 fun v216 r217 => TYI .i64 v216 fun n218 =>
 NL r217 <|
 ANDS (RDI .i64 (Addr.add ⟨B56, 0, none⟩ 0) fun n219 =>
 RDI .i64 (Addr.add ⟨B56, 0, none⟩ 1) fun n220 =>
 RDI .i64 (Addr.add ⟨B56, 0, none⟩ 2) fun n221 =>
 RDL (Addr.add ⟨B56, 0, none⟩ 3) fun x222 l223 c224 =>
 RDL (Addr.add ⟨B56, 0, none⟩ 4) fun x225 l226 c227 =>
 fun _ => ((.agg #[(.int .i64 n219), (.int .i64 n220), (.int .i64 n221), (.slice x222 l223 c224), (.slice x225 l226 c227)]) : Value) = (.agg #[(.int .i64 n57), (.int .i64 n58), (.int .i64 n59), (.slice x60 l61 c62), (.slice x63 l64 c65)])) <|
 CALL Pg W F_team_Left [(.agg #[(.int .i64 n200), (.int .i64 n203), (.int .i64 n206), (.int .i64 n209), (.int .i64 n212), (.int .i64 n215), (.int .i64 n218)]), (.agg #[(.int .i64 n57), (.int .i64 n58), (.int .i64 n59), (.slice x60 l61 c62), (.slice x63 l64 c65)]), (.int .i64 3)]
 (fun v228 => TUP v228 fun q230 => HD q230 fun v231 r232 => AGG v231 fun q233 => HD q233 fun v234 r235 => TYI .i64 v234 fun n236 =>
 HD r235 fun v237 r238 => TYI .i64 v237 fun n239 =>
 NL r238 <|
 HD r232 fun v240 r241 => TYI .i64 v240 fun n242 =>
 NL r241 <|
 WR (Addr.add ⟨B185, 0, none⟩ 0) (.int .i64 n236) <|
 WR (Addr.add ⟨B185, 0, none⟩ 1) (.int .i64 n239) <|
 J_top_alive07_1 W R B37 n36 (some ⟨B185, 0, none⟩) n242)
 (fun e229 => R (.panicked e229)))
 (fun e196 => R (.panicked e196))])
 (fun e39 => R (.panicked e39)))
 (fun e23 => R (.panicked e23)))
 (fun e2 => R (.panicked e2))
theorem does_top_alive07 (W : World) (R : Ending → Hp → Prop) (s : Hp) (h : T_top_alive07 W R s) : Does Pg W F_top_alive07 #[] s R :=
  does_of_vfun Pg W an_14 Tryz.func14 rfl (by kernel_rfl) (Eq.mpr (by kernel_rfl) h)
def an_36 : Nat → Ann := fun b => match b with
 | _ => {}
def T_top_clock07 (W : World) (R : Ending → Hp → Prop) : Hp → Prop :=
 NEWZ Pg 93 fun B1 =>
 CALL Pg W F_top_span04 [(.int .i64 0), (.int .i64 0)]
 (fun v2 => AGG v2 fun q4 => HD q4 fun v5 r6 => TYI .i64 v5 fun n7 =>
 HD r6 fun v8 r9 => TYI .i64 v8 fun n10 =>
 NL r9 <|
 CALL Pg W F_top_span04 [(.int .i64 1000), (.int .i64 1000)]
 (fun v11 => AGG v11 fun q13 => HD q13 fun v14 r15 => TYI .i64 v14 fun n16 =>
 HD r15 fun v17 r18 => TYI .i64 v17 fun n19 =>
 NL r18 <|
 CALL Pg W F_top_span04 [(.int .i64 5), (.int .i64 6)]
 (fun v20 => AGG v20 fun q22 => HD q22 fun v23 r24 => TYI .i64 v23 fun n25 =>
 HD r24 fun v26 r27 => TYI .i64 v26 fun n28 =>
 NL r27 <|
 CALL Pg W F_top_span04 [(.int .i64 998), (.int .i64 1002)]
 (fun v29 => AGG v29 fun q31 => HD q31 fun v32 r33 => TYI .i64 v32 fun n34 =>
 HD r33 fun v35 r36 => TYI .i64 v35 fun n37 =>
 NL r36 <|
 NEW 146 [(.int .i64 n7), (.int .i64 n10), (.int .i64 n16), (.int .i64 n19), (.int .i64 n25), (.int .i64 n28), (.int .i64 n34), (.int .i64 n37)] fun B38 =>
 NEW 148 [(.int .i64 0), (.int .i64 0), (.int .i64 10), (.int .i64 1), (.int .i64 1), (.int .i64 66), (.int .i64 2), (.int .i64 0), (.int .i64 130), (.int .i64 2), (.int .i64 1), (.int .i64 136)] fun B39 =>
 CALL Pg W F_top_span04 [(.int .i64 40), (.int .i64 60)]
 (fun v40 => AGG v40 fun q42 => HD q42 fun v43 r44 => TYI .i64 v43 fun n45 =>
 HD r44 fun v46 r47 => TYI .i64 v46 fun n48 =>
 NL r47 <|
 CALL Pg W F_top_span04 [(.int .i64 60), (.int .i64 70)]
 (fun v49 => AGG v49 fun q51 => HD q51 fun v52 r53 => TYI .i64 v52 fun n54 =>
 HD r53 fun v55 r56 => TYI .i64 v55 fun n57 =>
 NL r56 <|
 NEW 150 [(.int .i64 0), (.int .i64 1), (.int .i64 n45), (.int .i64 n48), (.int .i64 1), (.int .i64 2), (.int .i64 n54), (.int .i64 n57)] fun B58 =>
 WR (Addr.add ⟨B1, 0, none⟩ 0) (.slice (some ⟨B38, 0, none⟩) 2 2) <|
 WR (Addr.add ⟨B1, 0, none⟩ 1) (.int .i64 3) <|
 WR (Addr.add ⟨B1, 0, none⟩ 2) (.slice (some ⟨B39, 0, none⟩) 4 4) <|
 WR (Addr.add ⟨B1, 0, none⟩ 3) (.slice (some ⟨B58, 0, none⟩) 2 2) <|
 RDL (Addr.add ⟨B1, 0, none⟩ 0) fun x59 l60 c61 =>
 RDI .i64 (Addr.add ⟨B1, 0, none⟩ 1) fun n62 =>
 RDL (Addr.add ⟨B1, 0, none⟩ 2) fun x63 l64 c65 =>
 RDL (Addr.add ⟨B1, 0, none⟩ 3) fun x66 l67 c68 =>
 R (.returned (.agg #[(.slice x59 l60 c61), (.int .i64 n62), (.slice x63 l64 c65), (.slice x66 l67 c68)])))
 (fun e50 => R (.panicked e50)))
 (fun e41 => R (.panicked e41)))
 (fun e30 => R (.panicked e30)))
 (fun e21 => R (.panicked e21)))
 (fun e12 => R (.panicked e12)))
 (fun e3 => R (.panicked e3))
theorem does_top_clock07 (W : World) (R : Ending → Hp → Prop) (s : Hp) (h : T_top_clock07 W R s) : Does Pg W F_top_clock07 #[] s R :=
  does_of_vfun Pg W an_36 Tryz.func36 rfl (by kernel_rfl) (Eq.mpr (by kernel_rfl) h)
def an_37 : Nat → Ann := fun b => match b with
 | _ => {}
def T_top_horses07 (W : World) (R : Ending → Hp → Prop) : Hp → Prop :=
 NEWZ Pg 44 fun B1 =>
 CALL Pg W F_top_span04 [(.int .i64 100), (.int .i64 110)]
 (fun v2 => AGG v2 fun q4 => HD q4 fun v5 r6 => TYI .i64 v5 fun n7 =>
 HD r6 fun v8 r9 => TYI .i64 v8 fun n10 =>
 NL r9 <|
 CALL Pg W F_top_span04 [(.int .i64 5), (.int .i64 6)]
 (fun v11 => AGG v11 fun q13 => HD q13 fun v14 r15 => TYI .i64 v14 fun n16 =>
 HD r15 fun v17 r18 => TYI .i64 v17 fun n19 =>
 NL r18 <|
 CALL Pg W F_top_span04 [(.int .i64 10), (.int .i64 12)]
 (fun v20 => AGG v20 fun q22 => HD q22 fun v23 r24 => TYI .i64 v23 fun n25 =>
 HD r24 fun v26 r27 => TYI .i64 v26 fun n28 =>
 NL r27 <|
 WR (Addr.add ⟨B1, 0, none⟩ 0) (.int .i64 n7) <|
 WR (Addr.add ⟨B1, 0, none⟩ 1) (.int .i64 n10) <|
 WR (Addr.add ⟨B1, 0, none⟩ 2) (.int .i64 n16) <|
 WR (Addr.add ⟨B1, 0, none⟩ 3) (.int .i64 n19) <|
 WR (Addr.add ⟨B1, 0, none⟩ 4) (.int .i64 n25) <|
 WR (Addr.add ⟨B1, 0, none⟩ 5) (.int .i64 n28) <|
 WR (Addr.add ⟨B1, 0, none⟩ 6) (.int .i64 120) <|
 RDI .i64 (Addr.add ⟨B1, 0, none⟩ 0) fun n29 =>
 RDI .i64 (Addr.add ⟨B1, 0, none⟩ 1) fun n30 =>
 RDI .i64 (Addr.add ⟨B1, 0, none⟩ 2) fun n31 =>
 RDI .i64 (Addr.add ⟨B1, 0, none⟩ 3) fun n32 =>
 RDI .i64 (Addr.add ⟨B1, 0, none⟩ 4) fun n33 =>
 RDI .i64 (Addr.add ⟨B1, 0, none⟩ 5) fun n34 =>
 RDI .i64 (Addr.add ⟨B1, 0, none⟩ 6) fun n35 =>
 R (.returned (.agg #[(.int .i64 n29), (.int .i64 n30), (.int .i64 n31), (.int .i64 n32), (.int .i64 n33), (.int .i64 n34), (.int .i64 n35)])))
 (fun e21 => R (.panicked e21)))
 (fun e12 => R (.panicked e12)))
 (fun e3 => R (.panicked e3))
theorem does_top_horses07 (W : World) (R : Ending → Hp → Prop) (s : Hp) (h : T_top_horses07 W R s) : Does Pg W F_top_horses07 #[] s R :=
  does_of_vfun Pg W an_37 Tryz.func37 rfl (by kernel_rfl) (Eq.mpr (by kernel_rfl) h)
end Go.Proofs.YtpmldejcdaoljaaGreat.G
namespace Go.Proofs.YtpmldejcdaoljaaGreat.G.Ck
open Go.Proofs.YtpmldejcdaoljaaGreat.G Go.V
section
variable {W : World} {K : VK} {E : List PanicEntry → Hp → Prop} {s : Hp}
theorem c_span {a b : Int} (h : ∀ s', Ext s s' → K (.agg #[.int .i64 a, .int .i64 b]) s') : CALL Pg W F_top_span04 [.int .i64 a, .int .i64 b] K E s := by
  refine does_top_span04 W a b _ s ?_
  unfold T_top_span04
  refine nw2 zc_34 rfl rfl fun s1 e1 z1 o1 o2 => ⟨_, o1.cell, ⟨_, o2.cell, ?_⟩⟩
  exact h s1 e1
theorem c_sample (h : ∀ s' x y z, Ext s s' → ClV s' (CL 136) x y z → K (clkV (CL 136) x y z 2 4 2) s') : CALL Pg W F_top_clock07 [] K E s := by
  refine does_top_clock07 W _ s ?_
  unfold T_top_clock07
  refine nz4 zc_26 fun s1 e1 z1 p1 p2 p3 p4 => ?_
  refine c_span fun s2 e2 => ?_
  try simp only [nd_]
  refine c_span fun s3 e3 => ?_
  try simp only [nd_]
  refine c_span fun s4 e4 => ?_
  try simp only [nd_]
  refine c_span fun s5 e5 => ?_
  try simp only [nd_]
  refine NEW_rule fun s6 e6 z6 n6 _ => ?_
  refine NEW_rule fun s7 e7 z7 n7 _ => ?_
  refine c_span fun s8 e8 => ?_
  try simp only [nd_]
  refine c_span fun s9 e9 => ?_
  try simp only [nd_]
  refine NEW_rule fun t et zt nt _ => ?_
  have e15 := ((e2.trans e3).trans e4).trans e5
  have e1t := (((e15.trans e6).trans e7).trans (e8.trans e9)).trans et
  have hlt : s.size < s1.size := by omega
  have h15 : s1.size ≤ s5.size := e15.1
  have h6 : s5.size < s6.size := by omega
  have h9 : s7.size ≤ s9.size := (e8.trans e9).1
  show wrN [_, _, _, _] ⟨s.size, 0, none⟩ 0 _ t
  refine wrN_rule _ _ 0 _ t (fun i hi => ?_) ?_ ?_
  · match i, hi with
    | 0, _ => exact ⟨_, e1t.own p1⟩
    | 1, _ => exact ⟨_, e1t.own p2⟩
    | 2, _ => exact ⟨_, e1t.own p3⟩
    | 3, _ => exact ⟨_, e1t.own p4⟩
  · intro w hw
    simp at hw
    rcases hw with rfl | rfl | rfl | rfl <;> rfl
  · intro u k zu ho _
    have q0 := ho 0 (by simp)
    have q1 := ho 1 (by simp)
    have q2 := ho 2 (by simp)
    have q3 := ho 3 (by simp)
    refine ⟨_, _, _, q0.cell, ⟨_, q1.cell, ⟨_, _, _, q2.cell, ⟨_, _, _, q3.cell, ?_⟩⟩⟩⟩
    refine h u (some ⟨s5.size, 0, none⟩) (some ⟨s6.size, 0, none⟩) (some ⟨s9.size, 0, none⟩) (ext_kp (e1.trans e1t) (Nat.le_refl _) k) ⟨?_, ?_, ?_⟩
    · intro i hi
      have hi' : i < 2 := hi
      have f := (e7.trans (e8.trans e9)).trans et
      have g : ∀ j v, _ → Own u ⟨s5.size, j, none⟩ v := fun j v hv => k.own (by show ¬ s5.size = s.size; omega) (f.own (n6 j v hv))
      refine ⟨_, rfl, ?_⟩
      match i, hi' with
      | 0, _ => exact ⟨(g 0 _ rfl).cell, (g 1 _ rfl).cell, (g 2 _ rfl).cell, (g 3 _ rfl).cell⟩
      | 1, _ => exact ⟨(g 4 _ rfl).cell, (g 5 _ rfl).cell, (g 6 _ rfl).cell, (g 7 _ rfl).cell⟩
    · intro i hi
      have hi' : i < 4 := hi
      have f := (e8.trans e9).trans et
      have g : ∀ j v, _ → Own u ⟨s6.size, j, none⟩ v := fun j v hv => k.own (by show ¬ s6.size = s.size; omega) (f.own (n7 j v hv))
      refine ⟨_, rfl, ?_⟩
      match i, hi' with
      | 0, _ => exact ⟨(g 0 _ rfl).cell, (g 1 _ rfl).cell, (g 2 _ rfl).cell⟩
      | 1, _ => exact ⟨(g 3 _ rfl).cell, (g 4 _ rfl).cell, (g 5 _ rfl).cell⟩
      | 2, _ => exact ⟨(g 6 _ rfl).cell, (g 7 _ rfl).cell, (g 8 _ rfl).cell⟩
      | 3, _ => exact ⟨(g 9 _ rfl).cell, (g 10 _ rfl).cell, (g 11 _ rfl).cell⟩
    · intro i hi
      have hi' : i < 2 := hi
      have g : ∀ j v, _ → Own u ⟨s9.size, j, none⟩ v := fun j v hv => k.own (by show ¬ s9.size = s.size; omega) (nt j v hv)
      refine ⟨_, rfl, ?_⟩
      match i, hi' with
      | 0, _ => exact ⟨(g 0 _ rfl).cell, (g 1 _ rfl).cell, (g 2 _ rfl).cell, (g 3 _ rfl).cell⟩
      | 1, _ => exact ⟨(g 4 _ rfl).cell, (g 5 _ rfl).cell, (g 6 _ rfl).cell, (g 7 _ rfl).cell⟩
end
end Go.Proofs.YtpmldejcdaoljaaGreat.G.Ck
namespace Go.Proofs.YtpmldejcdaoljaaGreat.G
open Go.V
abbrev Sp := Int × Int
structure Mx where
  sand : Sp
  silt : Sp
  clay : Sp
  deriving DecidableEq
structure PitP where
  pos : Int
  hard : Sp
  mix : Mx
structure GrP where
  long : Nat
  rise : Int
  change : Int
  pits : List PitP
def bothS (a b : Sp) : Sp := (max a.1 b.1, min a.2 b.2)
def oneS (a b c : Sp) : Sp := (max (max 0 a.1) (20 - b.2 - c.2), min (min 20 a.2) (20 - b.1 - c.1))
def tightM (m : Mx) : Mx := ⟨oneS m.sand m.silt m.clay, oneS m.silt m.sand m.clay, oneS m.clay m.sand m.silt⟩
def noneM (m : Mx) : Bool := decide (m.sand.1 > m.sand.2 ∨ m.silt.1 > m.silt.2 ∨ m.clay.1 > m.clay.2)
def bothM (m o : Mx) : Mx := ⟨bothS m.sand o.sand, bothS m.silt o.silt, bothS m.clay o.clay⟩
def andM (m o : Mx) : Mx := if bothM m o = m ∨ noneM (bothM m o) = true then bothM m o else tightM (bothM m o)
def wideS (c : Int) (s : Sp) : Sp := (s.1 - c, s.2 + c)
def nextM (c : Int) (m : Mx) : Mx := if noneM m = true then m else tightM ⟨wideS c m.sand, wideS c m.silt, wideS c m.clay⟩
def anyM : Mx := ⟨(0, 20), (0, 20), (0, 20)⟩
def zeroM : Mx := ⟨(0, 0), (0, 0), (0, 0)⟩
def isClay : Mx := ⟨(0, 20), (0, 20), (8, 20)⟩
def noClay : Mx := ⟨(0, 20), (0, 20), (0, 7)⟩
def isSand : Mx := ⟨(14, 20), (0, 20), (0, 20)⟩
def noSand : Mx := ⟨(0, 13), (0, 20), (0, 20)⟩
def isSilt : Mx := ⟨(0, 20), (12, 20), (0, 20)⟩
def noSilt : Mx := ⟨(0, 20), (0, 11), (0, 20)⟩
def kindsP : List (Nat × Mx × Mx) := [(3, isClay, noClay), (1, isSand, noSand), (2, isSilt, noSilt)]
def classP : List (Nat × Mx × Mx) → Mx → Nat → Nat
  | [], _, n => n ||| 1
  | k :: r, m, n => if noneM (andM m k.2.2) = true then (if noneM (andM m k.2.1) = true then n else n ||| 2 ^ k.1) else classP r (andM m k.2.2) (if noneM (andM m k.2.1) = true then n else n ||| 2 ^ k.1)
def farP (p : PitP) (k rise : Int) : Int := max (k - p.pos) (p.pos - k) * rise
def hardAt (p : PitP) (k rise : Int) : Sp := (p.hard.1 - farP p k rise, p.hard.2 + farP p k rise)
def hardL (k rise : Int) (l : List PitP) : Sp := l.foldl (fun s p => bothS s (hardAt p k rise)) (0, 1000)
def hardP (g : GrP) (k : Nat) : Sp := hardL k g.rise g.pits
def pitM (l : List PitP) : Int → Option Mx := l.foldl (fun f p k => if k = p.pos then some p.mix else f k) fun _ => none
def mix0 (g : GrP) (k : Nat) : Mx := match pitM g.pits k with | some m => andM anyM m | none => anyM
def ordB (back : Bool) (L k : Nat) : Nat := if back then L - k else k
def passM (ch : Int) (o : Nat → Nat) (ms : List Mx) : Nat → List Mx × Mx
  | 0 => (ms, zeroM)
  | k + 1 => let p := passM ch o ms k
    let m := p.1.getD (o k) zeroM
    let now := if k = 0 then m else andM m (nextM ch p.2)
    (p.1.set (o k) now, now)
def ms0 (g : GrP) : List Mx := (List.range (g.long + 1)).map (mix0 g)
def pass1 (g : GrP) (k : Nat) : List Mx × Mx := passM g.change (ordB false g.long) (ms0 g) k
def pass2 (g : GrP) (k : Nat) : List Mx × Mx := passM g.change (ordB true g.long) (pass1 g (g.long + 1)).1 k
def mixesP (g : GrP) : List Mx := (pass2 g (g.long + 1)).1
def fineP (g : GrP) : Prop := ∀ k, k ≤ g.long → (hardP g k).1 ≤ (hardP g k).2 ∧ noneM ((mixesP g).getD k zeroM) = false
structure BmS (s : Sp) : Prop where
  l0 : 0 ≤ s.1
  l1 : s.1 ≤ 20
  h0 : -20 ≤ s.2
  h1 : s.2 ≤ 20
structure BmM (m : Mx) : Prop where
  sand : BmS m.sand
  silt : BmS m.silt
  clay : BmS m.clay
theorem bms_both {a b : Sp} (ha : BmS a) (hb : BmS b) : BmS (bothS a b) := by
  obtain ⟨h1, h2, h3, h4⟩ := ha
  obtain ⟨k1, k2, k3, k4⟩ := hb
  unfold bothS
  exact ⟨by simp only; omega, by simp only; omega, by simp only; omega, by simp only; omega⟩
theorem bmm_both {m o : Mx} (hm : BmM m) (ho : BmM o) : BmM (bothM m o) := ⟨bms_both hm.sand ho.sand, bms_both hm.silt ho.silt, bms_both hm.clay ho.clay⟩
structure WdS (s : Sp) : Prop where
  l0 : -20 ≤ s.1
  l1 : s.1 ≤ 20
  h0 : 0 ≤ s.2
  h1 : s.2 ≤ 40
theorem bms_one {a b c : Sp} (ha : WdS a) (hb : WdS b) (hc : WdS c) : BmS (oneS a b c) := by
  obtain ⟨a1, a2, a3, a4⟩ := ha
  obtain ⟨b1, b2, b3, b4⟩ := hb
  obtain ⟨c1, c2, c3, c4⟩ := hc
  unfold oneS
  exact ⟨by simp only; omega, by simp only; omega, by simp only; omega, by simp only; omega⟩
structure WdM (m : Mx) : Prop where
  sand : WdS m.sand
  silt : WdS m.silt
  clay : WdS m.clay
theorem bmm_tight {m : Mx} (h : WdM m) : BmM (tightM m) := ⟨bms_one h.sand h.silt h.clay, bms_one h.silt h.sand h.clay, bms_one h.clay h.sand h.silt⟩
theorem noneM_f {m : Mx} (h : noneM m = false) : m.sand.1 ≤ m.sand.2 ∧ m.silt.1 ≤ m.silt.2 ∧ m.clay.1 ≤ m.clay.2 := by
  unfold noneM at h
  have := of_decide_eq_false h
  omega
theorem wdm_some {m : Mx} (h : BmM m) (hn : noneM m = false) : WdM m := by
  have := noneM_f hn
  obtain ⟨⟨a1, a2, a3, a4⟩, ⟨b1, b2, b3, b4⟩, ⟨c1, c2, c3, c4⟩⟩ := h
  exact ⟨⟨by omega, by omega, by omega, by omega⟩, ⟨by omega, by omega, by omega, by omega⟩, ⟨by omega, by omega, by omega, by omega⟩⟩
theorem wdm_wide {m : Mx} {c : Int} (h : BmM m) (hn : noneM m = false) (h0 : 0 ≤ c) (h1 : c ≤ 20) : WdM ⟨wideS c m.sand, wideS c m.silt, wideS c m.clay⟩ := by
  have := noneM_f hn
  obtain ⟨⟨a1, a2, a3, a4⟩, ⟨b1, b2, b3, b4⟩, ⟨c1, c2, c3, c4⟩⟩ := h
  unfold wideS
  exact ⟨⟨by simp only; omega, by simp only; omega, by simp only; omega, by simp only; omega⟩, ⟨by simp only; omega, by simp only; omega, by simp only; omega, by simp only; omega⟩, ⟨by simp only; omega, by simp only; omega, by simp only; omega, by simp only; omega⟩⟩
theorem bmm_and {m o : Mx} (hm : BmM m) (ho : BmM o) : BmM (andM m o) := by
  unfold andM
  by_cases h : bothM m o = m ∨ noneM (bothM m o) = true
  · rw [if_pos h]; exact bmm_both hm ho
  · rw [if_neg h]
    exact bmm_tight (wdm_some (bmm_both hm ho) (by cases hn : noneM (bothM m o) with | false => rfl | true => exact absurd (.inr hn) h))
theorem bmm_next {m : Mx} {c : Int} (hm : BmM m) (h0 : 0 ≤ c) (h1 : c ≤ 20) : BmM (nextM c m) := by
  unfold nextM
  by_cases h : noneM m = true
  · rw [if_pos h]; exact hm
  · rw [if_neg h]
    exact bmm_tight (wdm_wide hm (by cases hn : noneM m with | false => rfl | true => exact absurd hn h) h0 h1)
theorem bmm_any : BmM anyM := ⟨⟨by decide, by decide, by decide, by decide⟩, ⟨by decide, by decide, by decide, by decide⟩, ⟨by decide, by decide, by decide, by decide⟩⟩
theorem bmm_zero : BmM zeroM := ⟨⟨by decide, by decide, by decide, by decide⟩, ⟨by decide, by decide, by decide, by decide⟩, ⟨by decide, by decide, by decide, by decide⟩⟩
structure Tr (a b c : Int) (m : Mx) : Prop where
  a0 : m.sand.1 ≤ a
  a1 : a ≤ m.sand.2
  b0 : m.silt.1 ≤ b
  b1 : b ≤ m.silt.2
  c0 : m.clay.1 ≤ c
  c1 : c ≤ m.clay.2
def exM (a b c : Int) : Mx := ⟨(a, a), (b, b), (c, c)⟩
structure Pt (a b c : Int) : Prop where
  p1 : 0 ≤ a
  p2 : 0 ≤ b
  p3 : 0 ≤ c
  p4 : a + b + c = 20
section
variable {a b c : Int}
theorem tr_none {m : Mx} (h : Tr a b c m) : noneM m = false := by
  obtain ⟨h1, h2, h3, h4, h5, h6⟩ := h
  unfold noneM
  exact decide_eq_false (by omega)
theorem tr_both {m o : Mx} (h : Tr a b c m) (k : Tr a b c o) : Tr a b c (bothM m o) := by
  obtain ⟨h1, h2, h3, h4, h5, h6⟩ := h
  obtain ⟨k1, k2, k3, k4, k5, k6⟩ := k
  unfold bothM bothS
  exact ⟨by simp only; omega, by simp only; omega, by simp only; omega, by simp only; omega, by simp only; omega, by simp only; omega⟩
theorem tr_tight {m : Mx} (p : Pt a b c) (h : Tr a b c m) : Tr a b c (tightM m) := by
  obtain ⟨h1, h2, h3, h4, h5, h6⟩ := h
  obtain ⟨p1, p2, p3, p4⟩ := p
  unfold tightM oneS
  exact ⟨by simp only; omega, by simp only; omega, by simp only; omega, by simp only; omega, by simp only; omega, by simp only; omega⟩
theorem tr_and {m o : Mx} (p : Pt a b c) (h : Tr a b c m) (k : Tr a b c o) : Tr a b c (andM m o) := by
  unfold andM
  by_cases q : bothM m o = m ∨ noneM (bothM m o) = true
  · rw [if_pos q]; exact tr_both h k
  · rw [if_neg q]; exact tr_tight p (tr_both h k)
theorem tr_next {m : Mx} {ch : Int} (p : Pt a b c) (h0 : 0 ≤ ch) (h : Tr a b c m) : Tr a b c (nextM ch m) := by
  unfold nextM
  rw [if_neg (by rw [tr_none h]; decide)]
  refine tr_tight p ?_
  obtain ⟨h1, h2, h3, h4, h5, h6⟩ := h
  unfold wideS
  exact ⟨by simp only; omega, by simp only; omega, by simp only; omega, by simp only; omega, by simp only; omega, by simp only; omega⟩
theorem tr_any (p : Pt a b c) : Tr a b c anyM := by
  obtain ⟨p1, p2, p3, p4⟩ := p
  unfold anyM
  exact ⟨by simp only; omega, by simp only; omega, by simp only; omega, by simp only; omega, by simp only; omega, by simp only; omega⟩
theorem tr_ex : Tr a b c (exM a b c) := ⟨Int.le_refl _, Int.le_refl _, Int.le_refl _, Int.le_refl _, Int.le_refl _, Int.le_refl _⟩
theorem both_ex {o : Mx} (k : Tr a b c o) : bothM (exM a b c) o = exM a b c := by
  obtain ⟨k1, k2, k3, k4, k5, k6⟩ := k
  unfold bothM bothS exM
  simp only [Mx.mk.injEq, Prod.mk.injEq]
  omega
theorem ex_and {o : Mx} (k : Tr a b c o) : andM (exM a b c) o = exM a b c := by
  unfold andM
  rw [if_pos (.inl (both_ex k)), both_ex k]
theorem any_ex (p : Pt a b c) : andM anyM (exM a b c) = exM a b c := by
  have h : bothM anyM (exM a b c) = exM a b c := by
    obtain ⟨p1, p2, p3, p4⟩ := p
    unfold bothM bothS exM anyM
    simp only [Mx.mk.injEq, Prod.mk.injEq]
    omega
  have ht : tightM (exM a b c) = exM a b c := by
    obtain ⟨p1, p2, p3, p4⟩ := p
    unfold tightM oneS exM
    simp only [Mx.mk.injEq, Prod.mk.injEq]
    omega
  unfold andM
  rw [h]
  by_cases q : exM a b c = anyM ∨ noneM (exM a b c) = true
  · rw [if_pos q]
  · rw [if_neg q, ht]
theorem pass_tr {ch : Int} {o : Nat → Nat} {ms : List Mx} {at_ : Nat} (p : Pt a b c) (h0 : 0 ≤ ch) (hm : ∀ m ∈ ms, Tr a b c m) (ho : ∀ k, k < ms.length → o k < ms.length) (hx : ms[at_]? = some (exM a b c)) : ∀ k, k ≤ ms.length → (passM ch o ms k).1.length = ms.length ∧ (∀ m ∈ (passM ch o ms k).1, Tr a b c m) ∧ (k = 0 ∨ Tr a b c (passM ch o ms k).2) ∧ (passM ch o ms k).1[at_]? = some (exM a b c)
  | 0, _ => ⟨rfl, hm, .inl rfl, hx⟩
  | k + 1, hk => by
    obtain ⟨i1, i2, i3, i4⟩ := pass_tr p h0 hm ho hx k (by omega)
    have hok := ho k (by omega)
    rw [← i1] at hok
    have hg : (passM ch o ms k).1.getD (o k) zeroM = (passM ch o ms k).1[o k] := by
      rw [List.getD_eq_getElem?_getD, List.getElem?_eq_getElem hok]; rfl
    have htm := i2 _ (List.getElem_mem hok)
    have hnow : ∀ now, now = (if k = 0 then (passM ch o ms k).1[o k] else andM (passM ch o ms k).1[o k] (nextM ch (passM ch o ms k).2)) → Tr a b c now ∧ (o k = at_ → now = exM a b c) := by
      intro now e
      by_cases hk0 : k = 0
      · rw [if_pos hk0] at e
        subst e
        refine ⟨htm, fun h => ?_⟩
        subst h
        rw [List.getElem?_eq_getElem hok] at i4
        exact Option.some.inj i4
      · rw [if_neg hk0] at e
        have hn := tr_next p h0 (i3.resolve_left hk0)
        subst e
        refine ⟨tr_and p htm hn, fun h => ?_⟩
        subst h
        rw [List.getElem?_eq_getElem hok] at i4
        rw [Option.some.inj i4]
        exact ex_and hn
    have hstep : passM ch o ms (k + 1) = ((passM ch o ms k).1.set (o k) (if k = 0 then (passM ch o ms k).1[o k] else andM (passM ch o ms k).1[o k] (nextM ch (passM ch o ms k).2)), (if k = 0 then (passM ch o ms k).1[o k] else andM (passM ch o ms k).1[o k] (nextM ch (passM ch o ms k).2))) := by
      rw [← hg]; rfl
    rw [hstep]
    generalize hnw : (if k = 0 then (passM ch o ms k).1[o k] else andM (passM ch o ms k).1[o k] (nextM ch (passM ch o ms k).2)) = now
    obtain ⟨n1, n2⟩ := hnow now hnw.symm
    refine ⟨by rw [List.length_set]; exact i1, fun m hmem => ?_, .inr n1, ?_⟩
    · rcases List.mem_or_eq_of_mem_set hmem with h | h
      · exact i2 m h
      · rw [h]; exact n1
    · show ((passM ch o ms k).1.set (o k) now)[at_]? = _
      rw [List.getElem?_set]
      by_cases e : o k = at_
      · rw [if_pos e, if_pos hok, n2 e]
      · rw [if_neg e]; exact i4
end
theorem pass_bm {ch : Int} {o : Nat → Nat} {ms : List Mx} (h0 : 0 ≤ ch) (h1 : ch ≤ 20) (hm : ∀ m ∈ ms, BmM m) : ∀ k, (passM ch o ms k).1.length = ms.length ∧ (∀ m ∈ (passM ch o ms k).1, BmM m) ∧ BmM (passM ch o ms k).2
  | 0 => ⟨rfl, hm, bmm_zero⟩
  | k + 1 => by
    obtain ⟨i1, i2, i3⟩ := pass_bm (o := o) h0 h1 hm k
    have hg : BmM ((passM ch o ms k).1.getD (o k) zeroM) := by
      rw [List.getD_eq_getElem?_getD]
      cases h : (passM ch o ms k).1[o k]? with
      | none => exact bmm_zero
      | some m => exact i2 m (List.mem_of_getElem? h)
    have hn : BmM (if k = 0 then (passM ch o ms k).1.getD (o k) zeroM else andM ((passM ch o ms k).1.getD (o k) zeroM) (nextM ch (passM ch o ms k).2)) := by
      by_cases hk : k = 0
      · rw [if_pos hk]; exact hg
      · rw [if_neg hk]; exact bmm_and hg (bmm_next i3 h0 h1)
    refine ⟨by show (List.set _ _ _).length = _; rw [List.length_set]; exact i1, fun m hmem => ?_, hn⟩
    rcases List.mem_or_eq_of_mem_set hmem with h | h
    · exact i2 m h
    · rw [h]; exact hn
def pitX (at_ h a b c : Int) : PitP := ⟨at_, (h, h), exM a b c⟩
def grX (at_ h a b c : Int) : GrP := ⟨40, 40, 3, [pitX at_ h a b c]⟩
theorem hard_x {h a b c : Int} {p k : Nat} (h0 : 0 ≤ h) (h1 : h ≤ 1000) : (hardP (grX p h a b c) k).1 ≤ (hardP (grX p h a b c) k).2 ∧ (k = p → hardP (grX p h a b c) k = (h, h)) := by
  have e : hardP (grX p h a b c) k = bothS (0, 1000) (hardAt (pitX p h a b c) k 40) := rfl
  have hf : 0 ≤ farP (pitX p h a b c) k 40 ∧ (k = p → farP (pitX p h a b c) k 40 = 0) := by
    unfold farP pitX
    simp only
    constructor
    · have : 0 ≤ max ((k : Int) - (p : Int)) ((p : Int) - (k : Int)) := by omega
      omega
    · intro e; subst e; simp
  rw [e]
  generalize hfa : farP (pitX p h a b c) k 40 = far at hf
  have e2 : hardAt (pitX p h a b c) k 40 = (h - far, h + far) := by unfold hardAt; rw [hfa]; rfl
  rw [e2]
  unfold bothS
  simp only [Prod.mk.injEq]
  exact ⟨by omega, fun e => by have := hf.2 e; omega⟩
theorem mix_x {h a b c : Int} {p k : Nat} (pt : Pt a b c) : Tr a b c (mix0 (grX p h a b c) k) ∧ (k = p → mix0 (grX p h a b c) k = exM a b c) := by
  have e : pitM (grX p h a b c).pits (k : Int) = if (k : Int) = (p : Int) then some (exM a b c) else none := rfl
  unfold mix0
  rw [e]
  by_cases hk : (k : Int) = (p : Int)
  · rw [if_pos hk]
    simp only [any_ex pt]
    exact ⟨tr_ex, fun _ => trivial⟩
  · rw [if_neg hk]
    exact ⟨tr_any pt, fun h => absurd (by rw [h]) hk⟩
theorem fine_x {h a b c : Int} {p : Nat} (hp : p ≤ 40) (h0 : 0 ≤ h) (h1 : h ≤ 1000) (pt : Pt a b c) : fineP (grX p h a b c) ∧ hardP (grX p h a b c) p = (h, h) ∧ (mixesP (grX p h a b c)).getD p zeroM = exM a b c := by
  have hl : (ms0 (grX p h a b c)).length = 41 := by unfold ms0; rw [List.length_map, List.length_range]; rfl
  have hm : ∀ m ∈ ms0 (grX p h a b c), Tr a b c m := fun m hm => by
    unfold ms0 at hm
    obtain ⟨k, _, rfl⟩ := List.mem_map.1 hm
    exact (mix_x pt).1
  have hx : (ms0 (grX p h a b c))[p]? = some (exM a b c) := by
    unfold ms0
    rw [List.getElem?_map, List.getElem?_range (by show p < 40 + 1; omega)]
    show some (mix0 _ p) = _
    rw [(mix_x pt).2 rfl]
  obtain ⟨a1, a2, _, a4⟩ := pass_tr (ch := 3) (o := ordB false 40) pt (by decide) hm (fun k hk => hk) hx 41 (by omega)
  rw [hl] at a1
  obtain ⟨b1, b2, _, b4⟩ := pass_tr (ch := 3) (o := ordB true 40) pt (by decide) a2 (fun k hk => by rw [a1] at hk ⊢; show 40 - k < 41; omega) a4 41 (by omega)
  have e : mixesP (grX p h a b c) = (passM 3 (ordB true 40) (passM 3 (ordB false 40) (ms0 (grX p h a b c)) 41).1 41).1 := rfl
  rw [a1] at b1
  rw [← e] at b1 b2 b4
  refine ⟨fun k hk => ⟨(hard_x h0 h1).1, ?_⟩, (hard_x h0 h1).2 rfl, by rw [List.getD_eq_getElem?_getD, b4]; rfl⟩
  have hk' : k < (mixesP (grX p h a b c)).length := by rw [b1]; have : k ≤ 40 := hk; omega
  rw [List.getD_eq_getElem?_getD, List.getElem?_eq_getElem hk']
  exact tr_none (b2 _ (List.getElem_mem hk'))
theorem class_x {a b c : Int} (pt : Pt a b c) : classP kindsP (exM a b c) 0 = if 8 ≤ c then 8 else if 14 ≤ a then 2 else if 12 ≤ b then 4 else 1 := by
  obtain ⟨p1, p2, p3, p4⟩ := pt
  have key : ∀ o : Mx, noneM (bothM (exM a b c) o) = true → noneM (andM (exM a b c) o) = true := fun o h => by
    unfold andM
    rw [if_pos (.inr h)]; exact h
  have hn : ∀ o : Mx, ¬ (o.sand.1 ≤ a ∧ a ≤ o.sand.2 ∧ o.silt.1 ≤ b ∧ b ≤ o.silt.2 ∧ o.clay.1 ≤ c ∧ c ≤ o.clay.2) → noneM (andM (exM a b c) o) = true := fun o h => key o (by
    unfold noneM bothM bothS exM
    refine decide_eq_true ?_
    simp only
    omega)
  have hy : ∀ o : Mx, (o.sand.1 ≤ a ∧ a ≤ o.sand.2 ∧ o.silt.1 ≤ b ∧ b ≤ o.silt.2 ∧ o.clay.1 ≤ c ∧ c ≤ o.clay.2) → andM (exM a b c) o = exM a b c := fun o ⟨h1, h2, h3, h4, h5, h6⟩ => ex_and ⟨h1, h2, h3, h4, h5, h6⟩
  have hz : noneM (exM a b c) = false := tr_none tr_ex
  unfold kindsP
  by_cases h1 : 8 ≤ c
  · unfold classP
    simp only
    rw [hn noClay (by unfold noClay; simp only; omega), hy isClay (by unfold isClay; simp only; omega), hz, if_pos rfl, if_neg (by decide), if_pos h1]
    rfl
  · rw [if_neg h1]
    unfold classP
    simp only
    rw [hy noClay (by unfold noClay; simp only; omega), hn isClay (by unfold isClay; simp only; omega), hz, if_neg (by decide), if_pos rfl]
    by_cases h2 : 14 ≤ a
    · unfold classP
      simp only
      rw [hn noSand (by unfold noSand; simp only; omega), hy isSand (by unfold isSand; simp only; omega), hz, if_pos rfl, if_neg (by decide), if_pos h2]
      rfl
    · rw [if_neg h2]
      unfold classP
      simp only
      rw [hy noSand (by unfold noSand; simp only; omega), hn isSand (by unfold isSand; simp only; omega), hz, if_neg (by decide), if_pos rfl]
      by_cases h3 : 12 ≤ b
      · unfold classP
        simp only
        rw [hn noSilt (by unfold noSilt; simp only; omega), hy isSilt (by unfold isSilt; simp only; omega), hz, if_pos rfl, if_neg (by decide), if_pos h3]
        rfl
      · rw [if_neg h3]
        unfold classP
        simp only
        rw [hy noSilt (by unfold noSilt; simp only; omega), hn isSilt (by unfold isSilt; simp only; omega), hz, if_neg (by decide), if_pos rfl]
        rfl
end Go.Proofs.YtpmldejcdaoljaaGreat.G
namespace Go.V
section
variable {P : Program} {s : Hp} {t : TypeId}
theorem IXH_at {c : List Value} {l m i : Nat} {K : VK} {s : Hp} (h : i < l) (hk : K (.agg ((c.drop (i * m)).take m).toArray) s) : IXH c l m (i : Int) K s := by
  unfold IXH
  have e : decide ((0 : Int) ≤ (i : Int) ∧ (i : Int) < (l : Int)) = true := decide_eq_true ⟨by omega, by omega⟩
  rw [e, Int.toNat_natCast]
  exact hk
theorem TYC_mk (k : IntKind) (n : Int) (K : Int → Hp → Prop) : TYC k (.int k n) K = K n := by funext s; simp [TYC]
theorem outN {s0 s : Hp} {B : Nat} {vs : List Value} {K : Hp → Prop} (e : Ext s0 s) (hB : s0.size ≤ B) (ho : ∀ i, i < vs.length → ∃ y, Own s ⟨B, i, none⟩ y) (hv : ∀ v ∈ vs, oneCell v = true) (h : ∀ s', Ext s0 s' → (∀ i (h : i < vs.length), Own s' ⟨B, i, none⟩ vs[i]) → K s') : wrN vs ⟨B, 0, none⟩ 0 K s := by
  refine wrN_rule vs _ 0 _ s (fun i hi => ?_) hv fun s2 k2 z2 o2 _ => ?_
  · obtain ⟨y, hy⟩ := ho i hi
    exact ⟨y, by rw [add_nil, Nat.zero_add, Nat.zero_add]; exact hy⟩
  · refine h s2 (ext_kp e hB k2) fun i hi => ?_
    have := o2 i hi
    rw [add_nil, Nat.zero_add, Nat.zero_add] at this; exact this
theorem outNo {s : Hp} {B : Nat} {vs : List Value} {K : Hp → Prop} (ho : ∀ i, i < vs.length → ∃ y, Own s ⟨B, i, none⟩ y) (hv : ∀ v ∈ vs, oneCell v = true) (h : ∀ s', Kp (· = B) s s' → (∀ i (h : i < vs.length), Own s' ⟨B, i, none⟩ vs[i]) → K s') : wrN vs ⟨B, 0, none⟩ 0 K s := by
  refine wrN_rule vs _ 0 _ s (fun i hi => ?_) hv fun s2 k2 z2 o2 _ => ?_
  · obtain ⟨y, hy⟩ := ho i hi
    exact ⟨y, by rw [add_nil, Nat.zero_add, Nat.zero_add]; exact hy⟩
  · refine h s2 k2 fun i hi => ?_
    have := o2 i hi
    rw [add_nil, Nat.zero_add, Nat.zero_add] at this; exact this
theorem outNk {s0 s : Hp} {B : Nat} {vs : List Value} {K : Hp → Prop} (e : Ext s0 s) (hB : s0.size ≤ B) (ho : ∀ i, i < vs.length → ∃ y, Own s ⟨B, i, none⟩ y) (hv : ∀ v ∈ vs, oneCell v = true) (h : ∀ s', Ext s0 s' → Kp (· = B) s s' → s'.size = s.size → (∀ i (h : i < vs.length), Own s' ⟨B, i, none⟩ vs[i]) → K s') : wrN vs ⟨B, 0, none⟩ 0 K s := by
  refine wrN_rule vs _ 0 _ s (fun i hi => ?_) hv fun s2 k2 z2 o2 _ => ?_
  · obtain ⟨y, hy⟩ := ho i hi
    exact ⟨y, by rw [add_nil, Nat.zero_add, Nat.zero_add]; exact hy⟩
  · refine h s2 (ext_kp e hB k2) k2 z2 fun i hi => ?_
    have := o2 i hi
    rw [add_nil, Nat.zero_add, Nat.zero_add] at this; exact this
theorem ne3 {v0 v1 v2 : Value} {K : Nat → Hp → Prop} (h : ∀ s', Ext s s' → s'.size = s.size + 1 → Own s' ⟨s.size, 0, none⟩ v0 → Own s' ⟨s.size, 1, none⟩ v1 → Own s' ⟨s.size, 2, none⟩ v2 → K s.size s') : NEW t [v0, v1, v2] K s :=
  NEW_rule fun s1 e1 z1 n1 _ => h s1 e1 z1 (n1 0 _ rfl) (n1 1 _ rfl) (n1 2 _ rfl)
theorem ne6 {v0 v1 v2 v3 v4 v5 : Value} {K : Nat → Hp → Prop} (h : ∀ s', Ext s s' → s'.size = s.size + 1 → Own s' ⟨s.size, 0, none⟩ v0 → Own s' ⟨s.size, 1, none⟩ v1 → Own s' ⟨s.size, 2, none⟩ v2 → Own s' ⟨s.size, 3, none⟩ v3 → Own s' ⟨s.size, 4, none⟩ v4 → Own s' ⟨s.size, 5, none⟩ v5 → K s.size s') : NEW t [v0, v1, v2, v3, v4, v5] K s :=
  NEW_rule fun s1 e1 z1 n1 _ => h s1 e1 z1 (n1 0 _ rfl) (n1 1 _ rfl) (n1 2 _ rfl) (n1 3 _ rfl) (n1 4 _ rfl) (n1 5 _ rfl)
theorem nz6 {v0 v1 v2 v3 v4 v5 : Value} {K : Nat → Hp → Prop} (hz : zc P t = [v0, v1, v2, v3, v4, v5]) (h : ∀ s', Ext s s' → s'.size = s.size + 1 → Own s' ⟨s.size, 0, none⟩ v0 → Own s' ⟨s.size, 1, none⟩ v1 → Own s' ⟨s.size, 2, none⟩ v2 → Own s' ⟨s.size, 3, none⟩ v3 → Own s' ⟨s.size, 4, none⟩ v4 → Own s' ⟨s.size, 5, none⟩ v5 → K s.size s') : NEWZ P t K s :=
  NEWZ_rule hz fun s1 e1 z1 n1 => h s1 e1 z1 (n1 0 _ rfl) (n1 1 _ rfl) (n1 2 _ rfl) (n1 3 _ rfl) (n1 4 _ rfl) (n1 5 _ rfl)
theorem nw6 {z0 z1 z2 z3 z4 z5 v0 v1 v2 v3 v4 v5 : Value} {K : Nat → Hp → Prop} (hz : zc P t = [z0, z1, z2, z3, z4, z5]) (h0 : oneCell v0 = true) (h1 : oneCell v1 = true) (h2 : oneCell v2 = true) (h3 : oneCell v3 = true) (h4 : oneCell v4 = true) (h5 : oneCell v5 = true) (h : ∀ s', Ext s s' → s'.size = s.size + 1 → Own s' ⟨s.size, 0, none⟩ v0 → Own s' ⟨s.size, 1, none⟩ v1 → Own s' ⟨s.size, 2, none⟩ v2 → Own s' ⟨s.size, 3, none⟩ v3 → Own s' ⟨s.size, 4, none⟩ v4 → Own s' ⟨s.size, 5, none⟩ v5 → K s.size s') : NEWZ P t (fun B => WR (Addr.add ⟨B, 0, none⟩ 0) v0 (WR (Addr.add ⟨B, 0, none⟩ 1) v1 (WR (Addr.add ⟨B, 0, none⟩ 2) v2 (WR (Addr.add ⟨B, 0, none⟩ 3) v3 (WR (Addr.add ⟨B, 0, none⟩ 4) v4 (WR (Addr.add ⟨B, 0, none⟩ 5) v5 (K B))))))) s :=
  nwN (vs := [v0, v1, v2, v3, v4, v5]) hz rfl (by simp [h0, h1, h2, h3, h4, h5]) fun s' e z o => h s' e z (o 0 (by simp)) (o 1 (by simp)) (o 2 (by simp)) (o 3 (by simp)) (o 4 (by simp)) (o 5 (by simp))
theorem ne9 {v0 v1 v2 v3 v4 v5 v6 v7 v8 : Value} {K : Nat → Hp → Prop} (h : ∀ s', Ext s s' → s'.size = s.size + 1 → Own s' ⟨s.size, 0, none⟩ v0 → Own s' ⟨s.size, 1, none⟩ v1 → Own s' ⟨s.size, 2, none⟩ v2 → Own s' ⟨s.size, 3, none⟩ v3 → Own s' ⟨s.size, 4, none⟩ v4 → Own s' ⟨s.size, 5, none⟩ v5 → Own s' ⟨s.size, 6, none⟩ v6 → Own s' ⟨s.size, 7, none⟩ v7 → Own s' ⟨s.size, 8, none⟩ v8 → K s.size s') : NEW t [v0, v1, v2, v3, v4, v5, v6, v7, v8] K s :=
  NEW_rule fun s1 e1 z1 n1 _ => h s1 e1 z1 (n1 0 _ rfl) (n1 1 _ rfl) (n1 2 _ rfl) (n1 3 _ rfl) (n1 4 _ rfl) (n1 5 _ rfl) (n1 6 _ rfl) (n1 7 _ rfl) (n1 8 _ rfl)
theorem nz9 {v0 v1 v2 v3 v4 v5 v6 v7 v8 : Value} {K : Nat → Hp → Prop} (hz : zc P t = [v0, v1, v2, v3, v4, v5, v6, v7, v8]) (h : ∀ s', Ext s s' → s'.size = s.size + 1 → Own s' ⟨s.size, 0, none⟩ v0 → Own s' ⟨s.size, 1, none⟩ v1 → Own s' ⟨s.size, 2, none⟩ v2 → Own s' ⟨s.size, 3, none⟩ v3 → Own s' ⟨s.size, 4, none⟩ v4 → Own s' ⟨s.size, 5, none⟩ v5 → Own s' ⟨s.size, 6, none⟩ v6 → Own s' ⟨s.size, 7, none⟩ v7 → Own s' ⟨s.size, 8, none⟩ v8 → K s.size s') : NEWZ P t K s :=
  NEWZ_rule hz fun s1 e1 z1 n1 => h s1 e1 z1 (n1 0 _ rfl) (n1 1 _ rfl) (n1 2 _ rfl) (n1 3 _ rfl) (n1 4 _ rfl) (n1 5 _ rfl) (n1 6 _ rfl) (n1 7 _ rfl) (n1 8 _ rfl)
theorem nw9 {z0 z1 z2 z3 z4 z5 z6 z7 z8 v0 v1 v2 v3 v4 v5 v6 v7 v8 : Value} {K : Nat → Hp → Prop} (hz : zc P t = [z0, z1, z2, z3, z4, z5, z6, z7, z8]) (h0 : oneCell v0 = true) (h1 : oneCell v1 = true) (h2 : oneCell v2 = true) (h3 : oneCell v3 = true) (h4 : oneCell v4 = true) (h5 : oneCell v5 = true) (h6 : oneCell v6 = true) (h7 : oneCell v7 = true) (h8 : oneCell v8 = true) (h : ∀ s', Ext s s' → s'.size = s.size + 1 → Own s' ⟨s.size, 0, none⟩ v0 → Own s' ⟨s.size, 1, none⟩ v1 → Own s' ⟨s.size, 2, none⟩ v2 → Own s' ⟨s.size, 3, none⟩ v3 → Own s' ⟨s.size, 4, none⟩ v4 → Own s' ⟨s.size, 5, none⟩ v5 → Own s' ⟨s.size, 6, none⟩ v6 → Own s' ⟨s.size, 7, none⟩ v7 → Own s' ⟨s.size, 8, none⟩ v8 → K s.size s') : NEWZ P t (fun B => WR (Addr.add ⟨B, 0, none⟩ 0) v0 (WR (Addr.add ⟨B, 0, none⟩ 1) v1 (WR (Addr.add ⟨B, 0, none⟩ 2) v2 (WR (Addr.add ⟨B, 0, none⟩ 3) v3 (WR (Addr.add ⟨B, 0, none⟩ 4) v4 (WR (Addr.add ⟨B, 0, none⟩ 5) v5 (WR (Addr.add ⟨B, 0, none⟩ 6) v6 (WR (Addr.add ⟨B, 0, none⟩ 7) v7 (WR (Addr.add ⟨B, 0, none⟩ 8) v8 (K B)))))))))) s :=
  nwN (vs := [v0, v1, v2, v3, v4, v5, v6, v7, v8]) hz rfl (by simp [h0, h1, h2, h3, h4, h5, h6, h7, h8]) fun s' e z o => h s' e z (o 0 (by simp)) (o 1 (by simp)) (o 2 (by simp)) (o 3 (by simp)) (o 4 (by simp)) (o 5 (by simp)) (o 6 (by simp)) (o 7 (by simp)) (o 8 (by simp))
theorem out2 {s0 s : Hp} {B : Nat} {v0 v1 y0 y1 : Value} {K : Hp → Prop} (e : Ext s0 s) (hB : s0.size ≤ B) (a0 : Own s ⟨B, 0, none⟩ y0) (a1 : Own s ⟨B, 1, none⟩ y1) (h0 : oneCell v0 = true) (h1 : oneCell v1 = true) (h : ∀ s', Ext s0 s' → Own s' ⟨B, 0, none⟩ v0 → Own s' ⟨B, 1, none⟩ v1 → K s') : (WR (Addr.add ⟨B, 0, none⟩ 0) v0 (WR (Addr.add ⟨B, 0, none⟩ 1) v1 (K))) s := by
  refine outN (vs := [v0, v1]) e hB (fun i hi => ?_) (by simp [h0, h1]) fun s' e o => h s' e (o 0 (by simp)) (o 1 (by simp))
  match i, hi with
  | 0, _ => exact ⟨_, a0⟩
  | 1, _ => exact ⟨_, a1⟩
theorem out6 {s0 s : Hp} {B : Nat} {v0 v1 v2 v3 v4 v5 y0 y1 y2 y3 y4 y5 : Value} {K : Hp → Prop} (e : Ext s0 s) (hB : s0.size ≤ B) (a0 : Own s ⟨B, 0, none⟩ y0) (a1 : Own s ⟨B, 1, none⟩ y1) (a2 : Own s ⟨B, 2, none⟩ y2) (a3 : Own s ⟨B, 3, none⟩ y3) (a4 : Own s ⟨B, 4, none⟩ y4) (a5 : Own s ⟨B, 5, none⟩ y5) (h0 : oneCell v0 = true) (h1 : oneCell v1 = true) (h2 : oneCell v2 = true) (h3 : oneCell v3 = true) (h4 : oneCell v4 = true) (h5 : oneCell v5 = true) (h : ∀ s', Ext s0 s' → Own s' ⟨B, 0, none⟩ v0 → Own s' ⟨B, 1, none⟩ v1 → Own s' ⟨B, 2, none⟩ v2 → Own s' ⟨B, 3, none⟩ v3 → Own s' ⟨B, 4, none⟩ v4 → Own s' ⟨B, 5, none⟩ v5 → K s') : (WR (Addr.add ⟨B, 0, none⟩ 0) v0 (WR (Addr.add ⟨B, 0, none⟩ 1) v1 (WR (Addr.add ⟨B, 0, none⟩ 2) v2 (WR (Addr.add ⟨B, 0, none⟩ 3) v3 (WR (Addr.add ⟨B, 0, none⟩ 4) v4 (WR (Addr.add ⟨B, 0, none⟩ 5) v5 (K))))))) s := by
  refine outN (vs := [v0, v1, v2, v3, v4, v5]) e hB (fun i hi => ?_) (by simp [h0, h1, h2, h3, h4, h5]) fun s' e o => h s' e (o 0 (by simp)) (o 1 (by simp)) (o 2 (by simp)) (o 3 (by simp)) (o 4 (by simp)) (o 5 (by simp))
  match i, hi with
  | 0, _ => exact ⟨_, a0⟩
  | 1, _ => exact ⟨_, a1⟩
  | 2, _ => exact ⟨_, a2⟩
  | 3, _ => exact ⟨_, a3⟩
  | 4, _ => exact ⟨_, a4⟩
  | 5, _ => exact ⟨_, a5⟩
theorem out9k {s0 s : Hp} {B : Nat} {v0 v1 v2 v3 v4 v5 v6 v7 v8 y0 y1 y2 y3 y4 y5 y6 y7 y8 : Value} {K : Hp → Prop} (e : Ext s0 s) (hB : s0.size ≤ B) (a0 : Own s ⟨B, 0, none⟩ y0) (a1 : Own s ⟨B, 1, none⟩ y1) (a2 : Own s ⟨B, 2, none⟩ y2) (a3 : Own s ⟨B, 3, none⟩ y3) (a4 : Own s ⟨B, 4, none⟩ y4) (a5 : Own s ⟨B, 5, none⟩ y5) (a6 : Own s ⟨B, 6, none⟩ y6) (a7 : Own s ⟨B, 7, none⟩ y7) (a8 : Own s ⟨B, 8, none⟩ y8) (h0 : oneCell v0 = true) (h1 : oneCell v1 = true) (h2 : oneCell v2 = true) (h3 : oneCell v3 = true) (h4 : oneCell v4 = true) (h5 : oneCell v5 = true) (h6 : oneCell v6 = true) (h7 : oneCell v7 = true) (h8 : oneCell v8 = true) (h : ∀ s', Ext s0 s' → Kp (· = B) s s' → Own s' ⟨B, 0, none⟩ v0 → Own s' ⟨B, 1, none⟩ v1 → Own s' ⟨B, 2, none⟩ v2 → Own s' ⟨B, 3, none⟩ v3 → Own s' ⟨B, 4, none⟩ v4 → Own s' ⟨B, 5, none⟩ v5 → Own s' ⟨B, 6, none⟩ v6 → Own s' ⟨B, 7, none⟩ v7 → Own s' ⟨B, 8, none⟩ v8 → K s') : (WR (Addr.add ⟨B, 0, none⟩ 0) v0 (WR (Addr.add ⟨B, 0, none⟩ 1) v1 (WR (Addr.add ⟨B, 0, none⟩ 2) v2 (WR (Addr.add ⟨B, 0, none⟩ 3) v3 (WR (Addr.add ⟨B, 0, none⟩ 4) v4 (WR (Addr.add ⟨B, 0, none⟩ 5) v5 (WR (Addr.add ⟨B, 0, none⟩ 6) v6 (WR (Addr.add ⟨B, 0, none⟩ 7) v7 (WR (Addr.add ⟨B, 0, none⟩ 8) v8 (K)))))))))) s := by
  refine outNk (vs := [v0, v1, v2, v3, v4, v5, v6, v7, v8]) e hB (fun i hi => ?_) (by simp [h0, h1, h2, h3, h4, h5, h6, h7, h8]) fun s' e k _ o => h s' e k (o 0 (by simp)) (o 1 (by simp)) (o 2 (by simp)) (o 3 (by simp)) (o 4 (by simp)) (o 5 (by simp)) (o 6 (by simp)) (o 7 (by simp)) (o 8 (by simp))
  match i, hi with
  | 0, _ => exact ⟨_, a0⟩
  | 1, _ => exact ⟨_, a1⟩
  | 2, _ => exact ⟨_, a2⟩
  | 3, _ => exact ⟨_, a3⟩
  | 4, _ => exact ⟨_, a4⟩
  | 5, _ => exact ⟨_, a5⟩
  | 6, _ => exact ⟨_, a6⟩
  | 7, _ => exact ⟨_, a7⟩
  | 8, _ => exact ⟨_, a8⟩
theorem outk1 {s : Hp} {B : Nat} {v0 y0 : Value} {K : Hp → Prop} (a0 : Own s ⟨B, 0, none⟩ y0) (h0 : oneCell v0 = true) (h : ∀ s', Kp (· = B) s s' → Own s' ⟨B, 0, none⟩ v0 → K s') : (WR (Addr.add ⟨B, 0, none⟩ 0) v0 (K)) s := by
  refine outNo (vs := [v0]) (fun i hi => ?_) (by simp [h0]) fun s' k o => h s' k (o 0 (by simp))
  match i, hi with
  | 0, _ => exact ⟨_, a0⟩
theorem outk2 {s : Hp} {B : Nat} {v0 v1 y0 y1 : Value} {K : Hp → Prop} (a0 : Own s ⟨B, 0, none⟩ y0) (a1 : Own s ⟨B, 1, none⟩ y1) (h0 : oneCell v0 = true) (h1 : oneCell v1 = true) (h : ∀ s', Kp (· = B) s s' → Own s' ⟨B, 0, none⟩ v0 → Own s' ⟨B, 1, none⟩ v1 → K s') : (WR (Addr.add ⟨B, 0, none⟩ 0) v0 (WR (Addr.add ⟨B, 0, none⟩ 1) v1 (K))) s := by
  refine outNo (vs := [v0, v1]) (fun i hi => ?_) (by simp [h0, h1]) fun s' k o => h s' k (o 0 (by simp)) (o 1 (by simp))
  match i, hi with
  | 0, _ => exact ⟨_, a0⟩
  | 1, _ => exact ⟨_, a1⟩
theorem outk6 {s : Hp} {B : Nat} {v0 v1 v2 v3 v4 v5 y0 y1 y2 y3 y4 y5 : Value} {K : Hp → Prop} (a0 : Own s ⟨B, 0, none⟩ y0) (a1 : Own s ⟨B, 1, none⟩ y1) (a2 : Own s ⟨B, 2, none⟩ y2) (a3 : Own s ⟨B, 3, none⟩ y3) (a4 : Own s ⟨B, 4, none⟩ y4) (a5 : Own s ⟨B, 5, none⟩ y5) (h0 : oneCell v0 = true) (h1 : oneCell v1 = true) (h2 : oneCell v2 = true) (h3 : oneCell v3 = true) (h4 : oneCell v4 = true) (h5 : oneCell v5 = true) (h : ∀ s', Kp (· = B) s s' → Own s' ⟨B, 0, none⟩ v0 → Own s' ⟨B, 1, none⟩ v1 → Own s' ⟨B, 2, none⟩ v2 → Own s' ⟨B, 3, none⟩ v3 → Own s' ⟨B, 4, none⟩ v4 → Own s' ⟨B, 5, none⟩ v5 → K s') : (WR (Addr.add ⟨B, 0, none⟩ 0) v0 (WR (Addr.add ⟨B, 0, none⟩ 1) v1 (WR (Addr.add ⟨B, 0, none⟩ 2) v2 (WR (Addr.add ⟨B, 0, none⟩ 3) v3 (WR (Addr.add ⟨B, 0, none⟩ 4) v4 (WR (Addr.add ⟨B, 0, none⟩ 5) v5 (K))))))) s := by
  refine outNo (vs := [v0, v1, v2, v3, v4, v5]) (fun i hi => ?_) (by simp [h0, h1, h2, h3, h4, h5]) fun s' k o => h s' k (o 0 (by simp)) (o 1 (by simp)) (o 2 (by simp)) (o 3 (by simp)) (o 4 (by simp)) (o 5 (by simp))
  match i, hi with
  | 0, _ => exact ⟨_, a0⟩
  | 1, _ => exact ⟨_, a1⟩
  | 2, _ => exact ⟨_, a2⟩
  | 3, _ => exact ⟨_, a3⟩
  | 4, _ => exact ⟨_, a4⟩
  | 5, _ => exact ⟨_, a5⟩
end
end Go.V
namespace Go.Proofs.YtpmldejcdaoljaaGreat.G
open Go.V
theorem zc_3 : zc Pg 3 = [.int .i64 0] := by kernel_rfl
theorem zc_27 : zc Pg 27 = [.int .i64 0, .int .i64 0] := by kernel_rfl
theorem zc_34 : zc Pg 34 = [.int .i64 0] := by kernel_rfl
theorem zc_104 : zc Pg 104 = [.int .i64 0, .int .i64 0, .int .i64 0, .int .i64 0, .int .i64 0, .int .i64 0] := by kernel_rfl
abbrev mxV (m : Mx) : Value := .agg #[.int .i64 m.sand.1, .int .i64 m.sand.2, .int .i64 m.silt.1, .int .i64 m.silt.2, .int .i64 m.clay.1, .int .i64 m.clay.2]
abbrev spV (s : Sp) : Value := .agg #[.int .i64 s.1, .int .i64 s.2]
section
variable {W : World} {K : VK} {E : List PanicEntry → Hp → Prop} {s : Hp}
theorem so_within {a b c : Int} (h : K (.bool (decide (b ≤ a ∧ a ≤ c))) s) : CALL Pg W F_soil_within [.int .i64 a, .int .i64 b, .int .i64 c] K E s := by
  refine does_soil_within W a b c _ s ?_
  unfold T_soil_within
  refine BR_dec (fun h1 => ?_) (fun h1 => ?_)
  · have : decide (b ≤ a ∧ a ≤ c) = decide (a ≤ c) := by simp [h1]
    rw [← this]; exact h
  · have : decide (b ≤ a ∧ a ≤ c) = false := by simp [h1]
    rw [← this]; exact h
theorem so_must {e : Int} (h : K (.tuple #[]) s) : CALL Pg W F_soil_must [.bool true, .int .i64 e] K E s := by
  refine does_soil_must W true e _ s ?_
  unfold T_soil_must
  exact h
theorem c_most1 {b : Addr} {n m : Int} (hb : cellAt s b = some (.int .i64 m)) (h : K (.int .i64 (max n m)) s) : CALL Pg W F_soil_most_int [.int .i64 n, .slice (some b) 1 1] K E s := by
  refine does_soil_most_int W n (some b) 1 1 _ s ?_
  unfold T_soil_most_int
  refine L_soil_most_int_0_rule W _ (some b) 1 1 (1 : Nat) (fun x k t => t = s ∧ ((k = 0 ∧ x = n) ∨ (k = 1 ∧ x = max n m))) (fun _ k _ => (1 - k).toNat) n 0 s ⟨rfl, .inl ⟨rfl, rfl⟩⟩ ?_
  rintro x k t ⟨rfl, hk⟩
  unfold B_soil_most_int_0
  rcases hk with ⟨rfl, rfl⟩ | ⟨rfl, rfl⟩
  · refine BR_dec (fun _ => ?_) (fun h => absurd (by decide) h)
    refine IXS_nat (i := 0) (by decide) ⟨_, hb, ?_⟩
    refine ⟨rfl, _, _, rfl, ⟨rfl, .inr ⟨by decide, ?_⟩⟩, (by decide : ((1 : Int) - IntKind.i64.wrap (0 + 1)).toNat < ((1 : Int) - 0).toNat)⟩
    split <;> omega
  · refine BR_dec (fun h => absurd h (by decide)) (fun _ => h)
theorem c_least1 {b : Addr} {n m : Int} (hb : cellAt s b = some (.int .i64 m)) (h : K (.int .i64 (min n m)) s) : CALL Pg W F_soil_least_int [.int .i64 n, .slice (some b) 1 1] K E s := by
  refine does_soil_least_int W n (some b) 1 1 _ s ?_
  unfold T_soil_least_int
  refine L_soil_least_int_0_rule W _ (some b) 1 1 (1 : Nat) (fun x k t => t = s ∧ ((k = 0 ∧ x = n) ∨ (k = 1 ∧ x = min n m))) (fun _ k _ => (1 - k).toNat) n 0 s ⟨rfl, .inl ⟨rfl, rfl⟩⟩ ?_
  rintro x k t ⟨rfl, hk⟩
  unfold B_soil_least_int_0
  rcases hk with ⟨rfl, rfl⟩ | ⟨rfl, rfl⟩
  · refine BR_dec (fun _ => ?_) (fun h => absurd (by decide) h)
    refine IXS_nat (i := 0) (by decide) ⟨_, hb, ?_⟩
    refine ⟨rfl, _, _, rfl, ⟨rfl, .inr ⟨by decide, ?_⟩⟩, (by decide : ((1 : Int) - IntKind.i64.wrap (0 + 1)).toNat < ((1 : Int) - 0).toNat)⟩
    split <;> omega
  · refine BR_dec (fun h => absurd h (by decide)) (fun _ => h)
theorem c_most2 {b : Nat} {n m m' : Int} (hb : cellAt s ⟨b, 0, none⟩ = some (.int .i64 m)) (hb' : cellAt s ⟨b, 1, none⟩ = some (.int .i64 m')) (h : K (.int .i64 (max (max n m) m')) s) : CALL Pg W F_soil_most_int [.int .i64 n, .slice (some ⟨b, 0, none⟩) 2 2] K E s := by
  refine does_soil_most_int W n (some ⟨b, 0, none⟩) 2 2 _ s ?_
  unfold T_soil_most_int
  refine L_soil_most_int_0_rule W _ (some ⟨b, 0, none⟩) 2 2 (2 : Nat) (fun x k t => t = s ∧ ((k = 0 ∧ x = n) ∨ (k = 1 ∧ x = max n m) ∨ (k = 2 ∧ x = max (max n m) m'))) (fun _ k _ => (2 - k).toNat) n 0 s ⟨rfl, .inl ⟨rfl, rfl⟩⟩ ?_
  rintro x k t ⟨rfl, hk⟩
  unfold B_soil_most_int_0
  rcases hk with ⟨rfl, rfl⟩ | ⟨rfl, rfl⟩ | ⟨rfl, rfl⟩
  · refine BR_dec (fun _ => ?_) (fun h => absurd (by decide) h)
    refine IXS_nat (i := 0) (by decide) ⟨_, hb, ?_⟩
    refine ⟨rfl, _, _, rfl, ⟨rfl, .inr (.inl ⟨by decide, ?_⟩)⟩, (by decide : ((2 : Int) - IntKind.i64.wrap (0 + 1)).toNat < ((2 : Int) - 0).toNat)⟩
    split <;> omega
  · refine BR_dec (fun _ => ?_) (fun h => absurd (by decide) h)
    refine IXS_nat (i := 1) (by decide) ⟨_, hb', ?_⟩
    refine ⟨rfl, _, _, rfl, ⟨rfl, .inr (.inr ⟨by decide, ?_⟩)⟩, (by decide : ((2 : Int) - IntKind.i64.wrap (1 + 1)).toNat < ((2 : Int) - 1).toNat)⟩
    split <;> omega
  · refine BR_dec (fun h => absurd h (by decide)) (fun _ => h)
theorem c_least2 {b : Nat} {n m m' : Int} (hb : cellAt s ⟨b, 0, none⟩ = some (.int .i64 m)) (hb' : cellAt s ⟨b, 1, none⟩ = some (.int .i64 m')) (h : K (.int .i64 (min (min n m) m')) s) : CALL Pg W F_soil_least_int [.int .i64 n, .slice (some ⟨b, 0, none⟩) 2 2] K E s := by
  refine does_soil_least_int W n (some ⟨b, 0, none⟩) 2 2 _ s ?_
  unfold T_soil_least_int
  refine L_soil_least_int_0_rule W _ (some ⟨b, 0, none⟩) 2 2 (2 : Nat) (fun x k t => t = s ∧ ((k = 0 ∧ x = n) ∨ (k = 1 ∧ x = min n m) ∨ (k = 2 ∧ x = min (min n m) m'))) (fun _ k _ => (2 - k).toNat) n 0 s ⟨rfl, .inl ⟨rfl, rfl⟩⟩ ?_
  rintro x k t ⟨rfl, hk⟩
  unfold B_soil_least_int_0
  rcases hk with ⟨rfl, rfl⟩ | ⟨rfl, rfl⟩ | ⟨rfl, rfl⟩
  · refine BR_dec (fun _ => ?_) (fun h => absurd (by decide) h)
    refine IXS_nat (i := 0) (by decide) ⟨_, hb, ?_⟩
    refine ⟨rfl, _, _, rfl, ⟨rfl, .inr (.inl ⟨by decide, ?_⟩)⟩, (by decide : ((2 : Int) - IntKind.i64.wrap (0 + 1)).toNat < ((2 : Int) - 0).toNat)⟩
    split <;> omega
  · refine BR_dec (fun _ => ?_) (fun h => absurd (by decide) h)
    refine IXS_nat (i := 1) (by decide) ⟨_, hb', ?_⟩
    refine ⟨rfl, _, _, rfl, ⟨rfl, .inr (.inr ⟨by decide, ?_⟩)⟩, (by decide : ((2 : Int) - IntKind.i64.wrap (1 + 1)).toNat < ((2 : Int) - 1).toNat)⟩
    split <;> omega
  · refine BR_dec (fun h => absurd h (by decide)) (fun _ => h)
theorem c_both {a b : Sp} (h : ∀ s', Ext s s' → K (spV (bothS a b)) s') : CALL Pg W F_soil_both [spV a, spV b] K E s := by
  unfold spV
  refine does_soil_both W a.1 a.2 b.1 b.2 _ s ?_
  unfold T_soil_both
  refine ne2 fun s1 f1 z1 o1 o2 => ne2 fun s2 f2 z2 p1 p2 => nz2 zc_27 fun s3 f3 z3 q1 q2 => ?_
  (repeat ((with_reducible first | apply RDI_c | apply RDL_c | apply RDB_c | apply RDP_c | apply RDM_c | apply RDS_c | apply RDV_c); focus ((repeat (first | assumption | exact Own.cell (by assumption) | apply Ext.cell (by assumption))); done)))
  repeat' (first
    | with_reducible refine CONJ_one ?_
    | with_reducible refine CONJ_more ?_ ?_
    | (((with_reducible refine ANDS_i ?_ ?_); focus ((repeat ((with_reducible first | apply RDI_c | apply RDL_c | apply RDB_c | apply RDP_c | apply RDM_c | apply RDS_c | apply RDV_c); focus ((repeat (first | assumption | exact Own.cell (by assumption) | apply Ext.cell (by assumption))); done))); exact rfl)))
    | (with_reducible refine ne1 fun t g z w => ?_)
    | (refine c_most1 (by (repeat (first | assumption | exact Own.cell (by assumption) | apply Ext.cell (by assumption)))) ?_; try simp only [nd_])
    | (refine c_least1 (by (repeat (first | assumption | exact Own.cell (by assumption) | apply Ext.cell (by assumption)))) ?_; try simp only [nd_]))
  all_goals
    have hz1 : s1.size = s.size + 1 := z1
    have hz2 : s2.size = s1.size + 1 := z2
    refine out2 (s0 := s) (by repeat (first | exact Ext.refl _ | assumption | refine Ext.trans ?_ (by assumption))) (by omega) (by (repeat (first | assumption | apply Ext.own (by assumption)))) (by (repeat (first | assumption | apply Ext.own (by assumption)))) rfl rfl fun t e r1 r2 => ?_
    exact ⟨_, r1.cell, ⟨_, r2.cell, h t e⟩⟩
theorem c_anything (h : ∀ s', Ext s s' → K (mxV anyM) s') : CALL Pg W F_soil_anything [] K E s := by
  refine does_soil_anything W _ s ?_
  unfold T_soil_anything
  refine nz6 zc_104 fun s1 f1 z1 o1 o2 o3 o4 o5 o6 => nw2 zc_27 rfl rfl fun s2 f2 z2 p1 p2 => ?_
  (repeat ((with_reducible first | apply RDI_c | apply RDL_c | apply RDB_c | apply RDP_c | apply RDM_c | apply RDS_c | apply RDV_c); focus ((repeat (first | assumption | exact Own.cell (by assumption) | apply Ext.cell (by assumption))); done)))
  refine out6 (s0 := s) (f1.trans f2) (Nat.le_refl _) (by (repeat (first | assumption | apply Ext.own (by assumption)))) (by (repeat (first | assumption | apply Ext.own (by assumption)))) (by (repeat (first | assumption | apply Ext.own (by assumption)))) (by (repeat (first | assumption | apply Ext.own (by assumption)))) (by (repeat (first | assumption | apply Ext.own (by assumption)))) (by (repeat (first | assumption | apply Ext.own (by assumption)))) rfl rfl rfl rfl rfl rfl fun t e r1 r2 r3 r4 r5 r6 => ?_
  (repeat ((with_reducible first | apply RDI_c | apply RDL_c | apply RDB_c | apply RDP_c | apply RDM_c | apply RDS_c | apply RDV_c); focus ((repeat (first | assumption | exact Own.cell (by assumption) | apply Ext.cell (by assumption))); done)))
  exact h t e
theorem c_isNone {m : Mx} (h : ∀ s', Ext s s' → K (.bool (noneM m)) s') : CALL Pg W F_soil_mix_isNone [mxV m] K E s := by
  unfold mxV
  refine does_soil_mix_isNone W _ _ _ _ _ _ _ s ?_
  unfold T_soil_mix_isNone
  refine ne6 fun s1 f1 z1 o1 o2 o3 o4 o5 o6 => ?_
  have hh := h s1 f1
  (repeat ((with_reducible first | apply RDI_c | apply RDL_c | apply RDB_c | apply RDP_c | apply RDM_c | apply RDS_c | apply RDV_c); focus ((repeat (first | assumption | exact Own.cell (by assumption) | apply Ext.cell (by assumption))); done)))
  refine BR_dec (fun h1 => ?_) (fun h1 => ?_)
  · have : noneM m = true := decide_eq_true (.inl h1)
    rw [this] at hh; exact hh
  · (repeat ((with_reducible first | apply RDI_c | apply RDL_c | apply RDB_c | apply RDP_c | apply RDM_c | apply RDS_c | apply RDV_c); focus ((repeat (first | assumption | exact Own.cell (by assumption) | apply Ext.cell (by assumption))); done)))
    refine BR_dec (fun h2 => ?_) (fun h2 => ?_)
    · have : noneM m = true := decide_eq_true (.inr (.inl h2))
      rw [this] at hh; exact hh
    · (repeat ((with_reducible first | apply RDI_c | apply RDL_c | apply RDB_c | apply RDP_c | apply RDM_c | apply RDS_c | apply RDV_c); focus ((repeat (first | assumption | exact Own.cell (by assumption) | apply Ext.cell (by assumption))); done)))
      have : noneM m = decide (m.clay.1 > m.clay.2) := by
        unfold noneM
        congr 1
        apply propext
        exact ⟨fun hx => (hx.resolve_left h1).resolve_left h2, fun hx => .inr (.inr hx)⟩
      rw [this] at hh; exact hh
end
structure NrS (s : Sp) : Prop where
  a : -1000 ≤ s.1
  b : s.1 ≤ 1000
  c : -1000 ≤ s.2
  d : s.2 ≤ 1000
structure NrM (m : Mx) : Prop where
  sand : NrS m.sand
  silt : NrS m.silt
  clay : NrS m.clay
theorem BmS.nr {s : Sp} (h : BmS s) : NrS s := by obtain ⟨a, b, c, d⟩ := h; exact ⟨by omega, by omega, by omega, by omega⟩
theorem BmM.nr {m : Mx} (h : BmM m) : NrM m := ⟨h.sand.nr, h.silt.nr, h.clay.nr⟩
section
variable {W : World} {K : VK} {E : List PanicEntry → Hp → Prop} {s : Hp}
theorem c_one {a b c : Sp} (ha : NrS a) (hb : NrS b) (hc : NrS c) (h : ∀ s', Ext s s' → K (spV (oneS a b c)) s') : CALLV Pg W (.func (.func 110) #[] #[]) [spV a, spV b, spV c] K E s := by
  unfold spV
  refine CALLV_func ?_
  refine does_soil_mix_tight_c1 W a.1 a.2 b.1 b.2 c.1 c.2 _ s ?_
  unfold T_soil_mix_tight_c1
  obtain ⟨a1, a2, a3, a4⟩ := ha
  obtain ⟨b1, b2, b3, b4⟩ := hb
  obtain ⟨c1, c2, c3, c4⟩ := hc
  refine ne2 fun s1 f1 z1 o1 o2 => ne2 fun s2 f2 z2 p1 p2 => ne2 fun s3 f3 z3 r1 r2 => nz2 zc_27 fun s4 f4 z4 q1 q2 => ?_
  (repeat ((with_reducible first | apply RDI_c | apply RDL_c | apply RDB_c | apply RDP_c | apply RDM_c | apply RDS_c | apply RDV_c); focus ((repeat (first | assumption | exact Own.cell (by assumption) | apply Ext.cell (by assumption))); done)))
  have w1 : IntKind.i64.wrap (IntKind.i64.wrap (20 - b.2) - c.2) = 20 - b.2 - c.2 := by rw [wrap_i64 (n := 20 - b.2) (by omega) (by omega), wrap_i64 (by omega) (by omega)]
  have w2 : IntKind.i64.wrap (IntKind.i64.wrap (20 - b.1) - c.1) = 20 - b.1 - c.1 := by rw [wrap_i64 (n := 20 - b.1) (by omega) (by omega), wrap_i64 (by omega) (by omega)]
  try dsimp only
  rw [w1, w2]
  repeat' (first
    | with_reducible refine CONJ_one ?_
    | with_reducible refine CONJ_more ?_ ?_
    | (((with_reducible refine ANDS_i ?_ ?_); focus ((repeat ((with_reducible first | apply RDI_c | apply RDL_c | apply RDB_c | apply RDP_c | apply RDM_c | apply RDS_c | apply RDV_c); focus ((repeat (first | assumption | exact Own.cell (by assumption) | apply Ext.cell (by assumption))); done))); exact rfl)))
    | (with_reducible refine ne2 fun t g z w w' => ?_)
    | (refine c_most2 (by (repeat (first | assumption | exact Own.cell (by assumption) | apply Ext.cell (by assumption)))) (by (repeat (first | assumption | exact Own.cell (by assumption) | apply Ext.cell (by assumption)))) ?_; try simp only [nd_])
    | (refine c_least2 (by (repeat (first | assumption | exact Own.cell (by assumption) | apply Ext.cell (by assumption)))) (by (repeat (first | assumption | exact Own.cell (by assumption) | apply Ext.cell (by assumption)))) ?_; try simp only [nd_]))
  all_goals
    have hz1 : s1.size = s.size + 1 := z1
    have hz2 : s2.size = s1.size + 1 := z2
    have hz3 : s3.size = s2.size + 1 := z3
    refine out2 (s0 := s) (by repeat (first | exact Ext.refl _ | assumption | refine Ext.trans ?_ (by assumption))) (by omega) (by (repeat (first | assumption | apply Ext.own (by assumption)))) (by (repeat (first | assumption | apply Ext.own (by assumption)))) rfl rfl fun t e r1 r2 => ?_
    exact ⟨_, r1.cell, ⟨_, r2.cell, h t e⟩⟩
end
open Go.V
section
variable {W : World} {K : VK} {E : List PanicEntry → Hp → Prop} {s : Hp}
theorem c_tight {m : Mx} (hm : NrM m) (h : ∀ s', Ext s s' → K (mxV (tightM m)) s') : CALL Pg W F_soil_mix_tight [mxV m] K E s := by
  unfold mxV
  refine does_soil_mix_tight W _ _ _ _ _ _ _ s ?_
  unfold T_soil_mix_tight
  refine ne6 fun s1 f1 z1 o1 o2 o3 o4 o5 o6 => nz6 zc_104 fun s2 f2 z2 q1 q2 q3 q4 q5 q6 => ?_
  (repeat ((with_reducible first | apply RDI_c | apply RDL_c | apply RDB_c | apply RDP_c | apply RDM_c | apply RDS_c | apply RDV_c); focus ((repeat (first | assumption | exact Own.cell (by assumption) | apply Ext.cell (by assumption))); done)))
  repeat' (first
    | with_reducible refine CONJ_one ?_
    | with_reducible refine CONJ_more ?_ ?_
    | (((with_reducible refine ANDS_i ?_ ?_); focus ((repeat ((with_reducible first | apply RDI_c | apply RDL_c | apply RDB_c | apply RDP_c | apply RDM_c | apply RDS_c | apply RDV_c); focus ((repeat (first | assumption | exact Own.cell (by assumption) | apply Ext.cell (by assumption))); done))); exact rfl)))
    | ((with_reducible refine c_one (a := m.sand) (b := m.silt) (c := m.clay) hm.sand hm.silt hm.clay fun t g => ?_); try simp only [na_])
    | ((with_reducible refine c_one (a := m.silt) (b := m.sand) (c := m.clay) hm.silt hm.sand hm.clay fun t g => ?_); try simp only [na_])
    | ((with_reducible refine c_one (a := m.clay) (b := m.sand) (c := m.silt) hm.clay hm.sand hm.silt fun t g => ?_); try simp only [na_]))
  all_goals
    have hz1 : s1.size = s.size + 1 := z1
    refine out6 (s0 := s) (by repeat (first | exact Ext.refl _ | assumption | refine Ext.trans ?_ (by assumption))) (by omega) (by (repeat (first | assumption | apply Ext.own (by assumption)))) (by (repeat (first | assumption | apply Ext.own (by assumption)))) (by (repeat (first | assumption | apply Ext.own (by assumption)))) (by (repeat (first | assumption | apply Ext.own (by assumption)))) (by (repeat (first | assumption | apply Ext.own (by assumption)))) (by (repeat (first | assumption | apply Ext.own (by assumption)))) rfl rfl rfl rfl rfl rfl fun t e r1 r2 r3 r4 r5 r6 => ?_
    (repeat ((with_reducible first | apply RDI_c | apply RDL_c | apply RDB_c | apply RDP_c | apply RDM_c | apply RDS_c | apply RDV_c); focus ((repeat (first | assumption | exact Own.cell (by assumption) | apply Ext.cell (by assumption))); done)))
    exact h t e
theorem and_fin {m o : Mx} (hm : BmM m) (ho : BmM o) {s3 : Hp} {b2 B : Nat} (e03 : Ext s s3) (hb2 : s.size ≤ b2) (q1 : ∃ y, Own s3 ⟨b2, 0, none⟩ y) (q2 : ∃ y, Own s3 ⟨b2, 1, none⟩ y) (q3 : ∃ y, Own s3 ⟨b2, 2, none⟩ y) (q4 : ∃ y, Own s3 ⟨b2, 3, none⟩ y) (q5 : ∃ y, Own s3 ⟨b2, 4, none⟩ y) (q6 : ∃ y, Own s3 ⟨b2, 5, none⟩ y) {B13 : Nat}
    (o1 : Own s3 ⟨B13, 0, none⟩ (.int .i64 m.sand.1)) (o2 : Own s3 ⟨B13, 1, none⟩ (.int .i64 m.sand.2)) (o3 : Own s3 ⟨B13, 2, none⟩ (.int .i64 m.silt.1)) (o4 : Own s3 ⟨B13, 3, none⟩ (.int .i64 m.silt.2)) (o5 : Own s3 ⟨B13, 4, none⟩ (.int .i64 m.clay.1)) (o6 : Own s3 ⟨B13, 5, none⟩ (.int .i64 m.clay.2))
    (h : ∀ s', Ext s s' → K (mxV (andM m o)) s') {t : Hp} (et : Ext s3 t) (b1 : Own t ⟨B, 0, none⟩ (.int .i64 (bothM m o).sand.1)) (c2 : Own t ⟨B, 1, none⟩ (.int .i64 (bothM m o).sand.2)) (b3 : Own t ⟨B, 2, none⟩ (.int .i64 (bothM m o).silt.1)) (b4 : Own t ⟨B, 3, none⟩ (.int .i64 (bothM m o).silt.2)) (b5 : Own t ⟨B, 4, none⟩ (.int .i64 (bothM m o).clay.1)) (b6 : Own t ⟨B, 5, none⟩ (.int .i64 (bothM m o).clay.2)) :
    J_soil_mix_and_1 W (endK K E) (some ⟨B, 0, none⟩) B13 b2 t := by
    have hbb : BmM (bothM m o) := bmm_both hm ho
    obtain ⟨y1, q1⟩ := q1
    obtain ⟨y2, q2⟩ := q2
    obtain ⟨y3, q3⟩ := q3
    obtain ⟨y4, q4⟩ := q4
    obtain ⟨y5, q5⟩ := q5
    obtain ⟨y6, q6⟩ := q6
    have hJ : ∀ (q : Bool) (u : Hp), Ext t u → (q = true ↔ (bothM m o = m ∨ noneM (bothM m o) = true)) → J_soil_mix_and_0 W (endK K E) q (some ⟨B, 0, none⟩) b2 u := by
      intro q u eu hq
      unfold J_soil_mix_and_0
      refine BR_bool (fun hqt => ?_) (fun hqf => ?_)
      · have hv : andM m o = bothM m o := by unfold andM; rw [if_pos (hq.1 hqt)]
        try simp only [nd_]
        (repeat ((with_reducible first | apply RDI_c | apply RDL_c | apply RDB_c | apply RDP_c | apply RDM_c | apply RDS_c | apply RDV_c); focus ((repeat (first | assumption | exact Own.cell (by assumption) | apply Ext.cell (by assumption))); done)))
        refine out6 (s0 := s) (by repeat (first | exact Ext.refl _ | assumption | refine Ext.trans ?_ (by assumption))) hb2 (by (repeat (first | assumption | apply Ext.own (by assumption)))) (by (repeat (first | assumption | apply Ext.own (by assumption)))) (by (repeat (first | assumption | apply Ext.own (by assumption)))) (by (repeat (first | assumption | apply Ext.own (by assumption)))) (by (repeat (first | assumption | apply Ext.own (by assumption)))) (by (repeat (first | assumption | apply Ext.own (by assumption)))) rfl rfl rfl rfl rfl rfl fun t' e r1 r2 r3 r4 r5 r6 => ?_
        (repeat ((with_reducible first | apply RDI_c | apply RDL_c | apply RDB_c | apply RDP_c | apply RDM_c | apply RDS_c | apply RDV_c); focus ((repeat (first | assumption | exact Own.cell (by assumption) | apply Ext.cell (by assumption))); done)))
        have hh := h t' e
        rw [hv] at hh
        exact hh
      · have hno : ¬ (bothM m o = m ∨ noneM (bothM m o) = true) := fun hh => by rw [hq.2 hh] at hqf; cases hqf
        have hv : andM m o = tightM (bothM m o) := by unfold andM; rw [if_neg hno]
        try simp only [nd_]
        (repeat ((with_reducible first | apply RDI_c | apply RDL_c | apply RDB_c | apply RDP_c | apply RDM_c | apply RDS_c | apply RDV_c); focus ((repeat (first | assumption | exact Own.cell (by assumption) | apply Ext.cell (by assumption))); done)))
        refine c_tight (m := bothM m o) hbb.nr fun u2 g2 => ?_
        unfold mxV
        try simp only [nd_]
        refine out6 (s0 := s) (by repeat (first | exact Ext.refl _ | assumption | refine Ext.trans ?_ (by assumption))) hb2 (by (repeat (first | assumption | apply Ext.own (by assumption)))) (by (repeat (first | assumption | apply Ext.own (by assumption)))) (by (repeat (first | assumption | apply Ext.own (by assumption)))) (by (repeat (first | assumption | apply Ext.own (by assumption)))) (by (repeat (first | assumption | apply Ext.own (by assumption)))) (by (repeat (first | assumption | apply Ext.own (by assumption)))) rfl rfl rfl rfl rfl rfl fun t' e r1 r2 r3 r4 r5 r6 => ?_
        (repeat ((with_reducible first | apply RDI_c | apply RDL_c | apply RDB_c | apply RDP_c | apply RDM_c | apply RDS_c | apply RDV_c); focus ((repeat (first | assumption | exact Own.cell (by assumption) | apply Ext.cell (by assumption))); done)))
        have hh := h t' e
        rw [hv] at hh
        exact hh
    unfold J_soil_mix_and_1
    try simp only [nd_]
    (repeat ((with_reducible first | apply RDI_c | apply RDL_c | apply RDB_c | apply RDP_c | apply RDM_c | apply RDS_c | apply RDV_c); focus ((repeat (first | assumption | exact Own.cell (by assumption) | apply Ext.cell (by assumption))); done)))
    refine BR_bool (fun hbt => ?_) (fun hbf => ?_)
    · refine hJ true t (Ext.refl _) ⟨fun _ => .inl ?_, fun _ => rfl⟩
      simp only [Bool.and_eq_true, beq_iff_eq] at hbt
      obtain ⟨g1, g2, g3, g4, g5, g6⟩ := hbt
      have e1 : (bothM m o).sand = m.sand := Prod.ext g1 g2
      have e2 : (bothM m o).silt = m.silt := Prod.ext g3 g4
      have e3 : (bothM m o).clay = m.clay := Prod.ext g5 g6
      show bothM m o = m
      have : ∀ x y : Mx, x.sand = y.sand → x.silt = y.silt → x.clay = y.clay → x = y := fun x y a b c => by cases x; cases y; simp_all
      exact this _ _ e1 e2 e3
    · try simp only [nd_]
      (repeat ((with_reducible first | apply RDI_c | apply RDL_c | apply RDB_c | apply RDP_c | apply RDM_c | apply RDS_c | apply RDV_c); focus ((repeat (first | assumption | exact Own.cell (by assumption) | apply Ext.cell (by assumption))); done)))
      refine c_isNone (m := bothM m o) fun u eu => ?_
      try simp only [nd_]
      refine hJ _ u eu ⟨fun hq => .inr hq, fun hq => hq.resolve_left fun he => ?_⟩
      rw [he] at hbf
      simp at hbf
set_option maxHeartbeats 2000000 in
theorem c_and {m o : Mx} (hm : BmM m) (ho : BmM o) (h : ∀ s', Ext s s' → K (mxV (andM m o)) s') : CALL Pg W F_soil_mix_and [mxV m, mxV o] K E s := by
  unfold mxV
  refine does_soil_mix_and W _ _ _ _ _ _ _ _ _ _ _ _ _ s ?_
  unfold T_soil_mix_and
  refine ne6 fun s1 f1 z1 o1 o2 o3 o4 o5 o6 => ne6 fun s2 f2 z2 p1 p2 p3 p4 p5 p6 => nz6 zc_104 fun s3 f3 z3 q1 q2 q3 q4 q5 q6 => ?_
  have hz1 : s1.size = s.size + 1 := z1
  have hz2 : s2.size = s1.size + 1 := z2
  (repeat ((with_reducible first | apply RDI_c | apply RDL_c | apply RDB_c | apply RDP_c | apply RDM_c | apply RDS_c | apply RDV_c); focus ((repeat (first | assumption | exact Own.cell (by assumption) | apply Ext.cell (by assumption))); done)))
  repeat' (first
    | with_reducible refine CONJ_one ?_
    | with_reducible refine CONJ_more ?_ ?_
    | (((with_reducible refine ANDS_i ?_ ?_); focus ((repeat ((with_reducible first | apply RDI_c | apply RDL_c | apply RDB_c | apply RDP_c | apply RDM_c | apply RDS_c | apply RDV_c); focus ((repeat (first | assumption | exact Own.cell (by assumption) | apply Ext.cell (by assumption))); done))); exact rfl)))
    | (with_reducible refine nz6 zc_104 fun t g z w1 w2 w3 w4 w5 w6 => ?_)
    | ((with_reducible refine c_both (a := m.sand) (b := o.sand) fun t g => ?_); try simp only [na_])
    | ((with_reducible refine c_both (a := m.silt) (b := o.silt) fun t g => ?_); try simp only [na_])
    | ((with_reducible refine c_both (a := m.clay) (b := o.clay) fun t g => ?_); try simp only [na_]))
  all_goals
    refine out6 (s0 := s3) (by repeat (first | exact Ext.refl _ | assumption | refine Ext.trans ?_ (by assumption))) (by exact ext_size (by repeat (first | exact Ext.refl _ | assumption | refine Ext.trans ?_ (by assumption)))) (by (repeat (first | assumption | apply Ext.own (by assumption)))) (by (repeat (first | assumption | apply Ext.own (by assumption)))) (by (repeat (first | assumption | apply Ext.own (by assumption)))) (by (repeat (first | assumption | apply Ext.own (by assumption)))) (by (repeat (first | assumption | apply Ext.own (by assumption)))) (by (repeat (first | assumption | apply Ext.own (by assumption)))) rfl rfl rfl rfl rfl rfl fun t' e r1 r2 r3 r4 r5 r6 => ?_
    exact and_fin hm ho (f1.trans (f2.trans f3)) (by omega) ⟨_, q1⟩ ⟨_, q2⟩ ⟨_, q3⟩ ⟨_, q4⟩ ⟨_, q5⟩ ⟨_, q6⟩ (by (repeat (first | assumption | apply Ext.own (by assumption)))) (by (repeat (first | assumption | apply Ext.own (by assumption)))) (by (repeat (first | assumption | apply Ext.own (by assumption)))) (by (repeat (first | assumption | apply Ext.own (by assumption)))) (by (repeat (first | assumption | apply Ext.own (by assumption)))) (by (repeat (first | assumption | apply Ext.own (by assumption)))) h e r1 r2 r3 r4 r5 r6
theorem c_wide {a : Addr} {c : Int} {x : Sp} (ha : cellAt s a = some (.int .i64 c)) (hx : NrS x) (h0 : 0 ≤ c) (h1 : c ≤ 20) (h : ∀ s', Ext s s' → K (spV (wideS c x)) s') : CALLV Pg W (.func (.func 96) #[] #[.pointer (some a)]) [spV x] K E s := by
  unfold spV
  refine CALLV_func ?_
  refine does_soil_mix_next_c1 W _ _ a _ s ?_
  unfold T_soil_mix_next_c1
  obtain ⟨a1, a2, a3, a4⟩ := hx
  refine ne2 fun s1 f1 z1 o1 o2 => nz2 zc_27 fun s2 f2 z2 q1 q2 => ?_
  (repeat ((with_reducible first | apply RDI_c | apply RDL_c | apply RDB_c | apply RDP_c | apply RDM_c | apply RDS_c | apply RDV_c); focus ((repeat (first | assumption | exact Own.cell (by assumption) | apply Ext.cell (by assumption))); done)))
  try dsimp only
  have hz1 : s1.size = s.size + 1 := z1
  rw [wrap_i64 (by omega) (by omega), wrap_i64 (by omega) (by omega)]
  refine out2 (s0 := s) (by repeat (first | exact Ext.refl _ | assumption | refine Ext.trans ?_ (by assumption))) (by omega) (by (repeat (first | assumption | apply Ext.own (by assumption)))) (by (repeat (first | assumption | apply Ext.own (by assumption)))) rfl rfl fun t e r1 r2 => ?_
  (repeat ((with_reducible first | apply RDI_c | apply RDL_c | apply RDB_c | apply RDP_c | apply RDM_c | apply RDS_c | apply RDV_c); focus ((repeat (first | assumption | exact Own.cell (by assumption) | apply Ext.cell (by assumption))); done)))
  exact h t e
theorem c_next {m : Mx} {c : Int} (hm : BmM m) (h0 : 0 ≤ c) (h1 : c ≤ 20) (h : ∀ s', Ext s s' → K (mxV (nextM c m)) s') : CALL Pg W F_soil_mix_next [mxV m, .int .i64 c] K E s := by
  unfold mxV
  refine does_soil_mix_next W _ _ _ _ _ _ _ _ s ?_
  unfold T_soil_mix_next
  refine ne6 fun s1 f1 z1 o1 o2 o3 o4 o5 o6 => ne1 fun s2 f2 z2 p1 => nz6 zc_104 fun s3 f3 z3 q1 q2 q3 q4 q5 q6 => ?_
  have hz1 : s1.size = s.size + 1 := z1
  have hz2 : s2.size = s1.size + 1 := z2
  (repeat ((with_reducible first | apply RDI_c | apply RDL_c | apply RDB_c | apply RDP_c | apply RDM_c | apply RDS_c | apply RDV_c); focus ((repeat (first | assumption | exact Own.cell (by assumption) | apply Ext.cell (by assumption))); done)))
  refine c_isNone (m := m) fun s4 f4 => ?_
  try simp only [nd_]
  refine BR_bool (fun hn => ?_) (fun hn => ?_)
  · (repeat ((with_reducible first | apply RDI_c | apply RDL_c | apply RDB_c | apply RDP_c | apply RDM_c | apply RDS_c | apply RDV_c); focus ((repeat (first | assumption | exact Own.cell (by assumption) | apply Ext.cell (by assumption))); done)))
    refine out6 (s0 := s) (by repeat (first | exact Ext.refl _ | assumption | refine Ext.trans ?_ (by assumption))) (by omega) (by (repeat (first | assumption | apply Ext.own (by assumption)))) (by (repeat (first | assumption | apply Ext.own (by assumption)))) (by (repeat (first | assumption | apply Ext.own (by assumption)))) (by (repeat (first | assumption | apply Ext.own (by assumption)))) (by (repeat (first | assumption | apply Ext.own (by assumption)))) (by (repeat (first | assumption | apply Ext.own (by assumption)))) rfl rfl rfl rfl rfl rfl fun t' e r1 r2 r3 r4 r5 r6 => ?_
    (repeat ((with_reducible first | apply RDI_c | apply RDL_c | apply RDB_c | apply RDP_c | apply RDM_c | apply RDS_c | apply RDV_c); focus ((repeat (first | assumption | exact Own.cell (by assumption) | apply Ext.cell (by assumption))); done)))
    have hh := h t' e
    unfold nextM at hh
    rw [if_pos hn] at hh
    exact hh
  · (repeat ((with_reducible first | apply RDI_c | apply RDL_c | apply RDB_c | apply RDP_c | apply RDM_c | apply RDS_c | apply RDV_c); focus ((repeat (first | assumption | exact Own.cell (by assumption) | apply Ext.cell (by assumption))); done)))
    have w := wdm_wide hm hn h0 h1
    have nr : ∀ {x : Sp}, WdS x → NrS x := fun hx => by obtain ⟨a, b, c, d⟩ := hx; exact ⟨by omega, by omega, by omega, by omega⟩
    have wv : nextM c m = tightM ⟨wideS c m.sand, wideS c m.silt, wideS c m.clay⟩ := by unfold nextM; rw [if_neg (by rw [hn]; decide)]
    refine c_wide (a := ⟨s1.size, 0, none⟩) (x := m.sand) (by (repeat (first | assumption | exact Own.cell (by assumption) | apply Ext.cell (by assumption)))) hm.nr.sand h0 h1 fun s5 f5 => ?_
    unfold spV
    try simp only [nd_]
    (repeat (((with_reducible refine ANDS_i ?_ ?_); focus ((repeat ((with_reducible first | apply RDI_c | apply RDL_c | apply RDB_c | apply RDP_c | apply RDM_c | apply RDS_c | apply RDV_c); focus ((repeat (first | assumption | exact Own.cell (by assumption) | apply Ext.cell (by assumption))); done))); exact rfl))))
    refine c_wide (a := ⟨s1.size, 0, none⟩) (x := m.silt) (by (repeat (first | assumption | exact Own.cell (by assumption) | apply Ext.cell (by assumption)))) hm.nr.silt h0 h1 fun s6 f6 => ?_
    unfold spV
    try simp only [nd_]
    (repeat (((with_reducible refine ANDS_i ?_ ?_); focus ((repeat ((with_reducible first | apply RDI_c | apply RDL_c | apply RDB_c | apply RDP_c | apply RDM_c | apply RDS_c | apply RDV_c); focus ((repeat (first | assumption | exact Own.cell (by assumption) | apply Ext.cell (by assumption))); done))); exact rfl))))
    refine c_wide (a := ⟨s1.size, 0, none⟩) (x := m.clay) (by (repeat (first | assumption | exact Own.cell (by assumption) | apply Ext.cell (by assumption)))) hm.nr.clay h0 h1 fun s7 f7 => ?_
    unfold spV
    try simp only [nd_]
    refine c_tight (m := ⟨wideS c m.sand, wideS c m.silt, wideS c m.clay⟩) ⟨nr w.sand, nr w.silt, nr w.clay⟩ fun s8 f8 => ?_
    unfold mxV
    try simp only [nd_]
    refine out6 (s0 := s) (by repeat (first | exact Ext.refl _ | assumption | refine Ext.trans ?_ (by assumption))) (by omega) (by (repeat (first | assumption | apply Ext.own (by assumption)))) (by (repeat (first | assumption | apply Ext.own (by assumption)))) (by (repeat (first | assumption | apply Ext.own (by assumption)))) (by (repeat (first | assumption | apply Ext.own (by assumption)))) (by (repeat (first | assumption | apply Ext.own (by assumption)))) (by (repeat (first | assumption | apply Ext.own (by assumption)))) rfl rfl rfl rfl rfl rfl fun t' e r1 r2 r3 r4 r5 r6 => ?_
    (repeat ((with_reducible first | apply RDI_c | apply RDL_c | apply RDB_c | apply RDP_c | apply RDM_c | apply RDS_c | apply RDV_c); focus ((repeat (first | assumption | exact Own.cell (by assumption) | apply Ext.cell (by assumption))); done)))
    have hh := h t' e
    rw [wv] at hh
    exact hh
end
open Go.V
theorem zc_108 : zc Pg 108 = [.int .i64 0, .nilFunc, .nilFunc, .int .i64 0, .nilFunc, .nilFunc, .int .i64 0, .nilFunc, .nilFunc] := by kernel_rfl
theorem zc_167 : zc Pg 167 = [.nilFunc] := by kernel_rfl
theorem zc_107 : zc Pg 107 = [.int .i64 0, .nilFunc, .nilFunc] := by kernel_rfl
def FnM (W : World) (D : Nat → Prop) (v : Value) (s : Hp) (o : Mx) : Prop := oneCell v = true ∧ ∀ s1 m K E, Kp D s s1 → BmM m → (∀ s2, Ext s1 s2 → K (mxV (andM m o)) s2) → CALLV Pg W v [mxV m] K E s1
theorem FnM.kp {W : World} {D : Nat → Prop} {v : Value} {s s' : Hp} {o : Mx} (h : FnM W D v s o) (e : Kp D s s') : FnM W D v s' o := ⟨h.1, fun s1 m K E f => h.2 s1 m K E (e.trans f)⟩
def FnO (W : World) (D : Nat → Prop) (v : Value) (s : Hp) (g : Sp → Mx) : Prop := oneCell v = true ∧ ∀ s1 x K E, Kp D s s1 → (∀ s2, Ext s1 s2 → K (mxV (g x)) s2) → CALLV Pg W v [spV x] K E s1
theorem FnO.kp {W : World} {D : Nat → Prop} {v : Value} {s s' : Hp} {g : Sp → Mx} (h : FnO W D v s g) (e : Kp D s s') : FnO W D v s' g := ⟨h.1, fun s1 m K E f => h.2 s1 m K E (e.trans f)⟩
structure MxAt (s : Hp) (b : Nat) (m : Mx) : Prop where
  m1 : cellAt s ⟨b, 0, none⟩ = some (.int .i64 m.sand.1)
  m2 : cellAt s ⟨b, 1, none⟩ = some (.int .i64 m.sand.2)
  m3 : cellAt s ⟨b, 2, none⟩ = some (.int .i64 m.silt.1)
  m4 : cellAt s ⟨b, 3, none⟩ = some (.int .i64 m.silt.2)
  m5 : cellAt s ⟨b, 4, none⟩ = some (.int .i64 m.clay.1)
  m6 : cellAt s ⟨b, 5, none⟩ = some (.int .i64 m.clay.2)
theorem MxAt.kp {s s' : Hp} {b : Nat} {D : Nat → Prop} {m : Mx} (h : MxAt s b m) (e : Kp D s s') (hd : ¬ D b) : MxAt s' b m := ⟨e.cell hd h.m1, e.cell hd h.m2, e.cell hd h.m3, e.cell hd h.m4, e.cell hd h.m5, e.cell hd h.m6⟩
section
variable {W : World} {K : VK} {E : List PanicEntry → Hp → Prop} {s : Hp}
theorem of_clay {b : Nat} {D : Nat → Prop} (hd : ¬ D b) (hb : MxAt s b anyM) : FnO W D (.func (.func 75) #[] #[.pointer (some ⟨b, 0, none⟩)]) s fun x => ⟨(0, 20), (0, 20), x⟩ := by
  refine ⟨rfl, fun s1 x K E e h => CALLV_func ?_⟩
  obtain ⟨h1, h2, h3, h4, h5, h6⟩ := hb.kp e hd
  refine does_soil_kinds_c3 W _ _ _ _ s1 ?_
  unfold T_soil_kinds_c3
  refine ne2 fun s2 f2 z2 o1 o2 => nz6 zc_104 fun s3 f3 z3 q1 q2 q3 q4 q5 q6 => ?_
  have hz2 : s2.size = s1.size + 1 := z2
  (repeat ((with_reducible first | apply RDI_c | apply RDL_c | apply RDB_c | apply RDP_c | apply RDM_c | apply RDS_c | apply RDV_c); focus ((repeat (first | assumption | exact Own.cell (by assumption) | apply Ext.cell (by assumption))); done)))
  refine out6 (s0 := s1) (by repeat (first | exact Ext.refl _ | assumption | refine Ext.trans ?_ (by assumption))) (by omega) (by (repeat (first | assumption | apply Ext.own (by assumption)))) (by (repeat (first | assumption | apply Ext.own (by assumption)))) (by (repeat (first | assumption | apply Ext.own (by assumption)))) (by (repeat (first | assumption | apply Ext.own (by assumption)))) (by (repeat (first | assumption | apply Ext.own (by assumption)))) (by (repeat (first | assumption | apply Ext.own (by assumption)))) rfl rfl rfl rfl rfl rfl fun t' e r1 r2 r3 r4 r5 r6 => ?_
  (repeat ((with_reducible first | apply RDI_c | apply RDL_c | apply RDB_c | apply RDP_c | apply RDM_c | apply RDS_c | apply RDV_c); focus ((repeat (first | assumption | exact Own.cell (by assumption) | apply Ext.cell (by assumption))); done)))
  exact h t' e
theorem of_sand {b : Nat} {D : Nat → Prop} (hd : ¬ D b) (hb : MxAt s b anyM) : FnO W D (.func (.func 76) #[] #[.pointer (some ⟨b, 0, none⟩)]) s fun x => ⟨x, (0, 20), (0, 20)⟩ := by
  refine ⟨rfl, fun s1 x K E e h => CALLV_func ?_⟩
  obtain ⟨h1, h2, h3, h4, h5, h6⟩ := hb.kp e hd
  refine does_soil_kinds_c4 W _ _ _ _ s1 ?_
  unfold T_soil_kinds_c4
  refine ne2 fun s2 f2 z2 o1 o2 => nz6 zc_104 fun s3 f3 z3 q1 q2 q3 q4 q5 q6 => ?_
  have hz2 : s2.size = s1.size + 1 := z2
  (repeat ((with_reducible first | apply RDI_c | apply RDL_c | apply RDB_c | apply RDP_c | apply RDM_c | apply RDS_c | apply RDV_c); focus ((repeat (first | assumption | exact Own.cell (by assumption) | apply Ext.cell (by assumption))); done)))
  refine out6 (s0 := s1) (by repeat (first | exact Ext.refl _ | assumption | refine Ext.trans ?_ (by assumption))) (by omega) (by (repeat (first | assumption | apply Ext.own (by assumption)))) (by (repeat (first | assumption | apply Ext.own (by assumption)))) (by (repeat (first | assumption | apply Ext.own (by assumption)))) (by (repeat (first | assumption | apply Ext.own (by assumption)))) (by (repeat (first | assumption | apply Ext.own (by assumption)))) (by (repeat (first | assumption | apply Ext.own (by assumption)))) rfl rfl rfl rfl rfl rfl fun t' e r1 r2 r3 r4 r5 r6 => ?_
  (repeat ((with_reducible first | apply RDI_c | apply RDL_c | apply RDB_c | apply RDP_c | apply RDM_c | apply RDS_c | apply RDV_c); focus ((repeat (first | assumption | exact Own.cell (by assumption) | apply Ext.cell (by assumption))); done)))
  exact h t' e
theorem of_silt {b : Nat} {D : Nat → Prop} (hd : ¬ D b) (hb : MxAt s b anyM) : FnO W D (.func (.func 77) #[] #[.pointer (some ⟨b, 0, none⟩)]) s fun x => ⟨(0, 20), x, (0, 20)⟩ := by
  refine ⟨rfl, fun s1 x K E e h => CALLV_func ?_⟩
  obtain ⟨h1, h2, h3, h4, h5, h6⟩ := hb.kp e hd
  refine does_soil_kinds_c5 W _ _ _ _ s1 ?_
  unfold T_soil_kinds_c5
  refine ne2 fun s2 f2 z2 o1 o2 => nz6 zc_104 fun s3 f3 z3 q1 q2 q3 q4 q5 q6 => ?_
  have hz2 : s2.size = s1.size + 1 := z2
  (repeat ((with_reducible first | apply RDI_c | apply RDL_c | apply RDB_c | apply RDP_c | apply RDM_c | apply RDS_c | apply RDV_c); focus ((repeat (first | assumption | exact Own.cell (by assumption) | apply Ext.cell (by assumption))); done)))
  refine out6 (s0 := s1) (by repeat (first | exact Ext.refl _ | assumption | refine Ext.trans ?_ (by assumption))) (by omega) (by (repeat (first | assumption | apply Ext.own (by assumption)))) (by (repeat (first | assumption | apply Ext.own (by assumption)))) (by (repeat (first | assumption | apply Ext.own (by assumption)))) (by (repeat (first | assumption | apply Ext.own (by assumption)))) (by (repeat (first | assumption | apply Ext.own (by assumption)))) (by (repeat (first | assumption | apply Ext.own (by assumption)))) rfl rfl rfl rfl rfl rfl fun t' e r1 r2 r3 r4 r5 r6 => ?_
  (repeat ((with_reducible first | apply RDI_c | apply RDL_c | apply RDB_c | apply RDP_c | apply RDM_c | apply RDS_c | apply RDV_c); focus ((repeat (first | assumption | exact Own.cell (by assumption) | apply Ext.cell (by assumption))); done)))
  exact h t' e
theorem c_from {n : Int} (h : ∀ s', Ext s s' → K (spV (n, 20)) s') : CALLV Pg W (.func (.func 73) #[] #[]) [.int .i64 n] K E s := by
  refine CALLV_func ?_
  refine does_soil_kinds_c1 W n _ s ?_
  unfold T_soil_kinds_c1
  refine nw2 zc_27 rfl rfl fun s1 f1 z1 o1 o2 => ?_
  (repeat ((with_reducible first | apply RDI_c | apply RDL_c | apply RDB_c | apply RDP_c | apply RDM_c | apply RDS_c | apply RDV_c); focus ((repeat (first | assumption | exact Own.cell (by assumption) | apply Ext.cell (by assumption))); done)))
  exact h s1 f1
theorem c_below {n : Int} (h0 : 0 ≤ n) (h1 : n ≤ 100) (h : ∀ s', Ext s s' → K (spV (0, n - 1)) s') : CALLV Pg W (.func (.func 74) #[] #[]) [.int .i64 n] K E s := by
  refine CALLV_func ?_
  refine does_soil_kinds_c2 W n _ s ?_
  unfold T_soil_kinds_c2
  rw [wrap_i64 (by omega) (by omega)]
  refine nw2 zc_27 rfl rfl fun s1 f1 z1 o1 o2 => ?_
  (repeat ((with_reducible first | apply RDI_c | apply RDL_c | apply RDB_c | apply RDP_c | apply RDM_c | apply RDS_c | apply RDV_c); focus ((repeat (first | assumption | exact Own.cell (by assumption) | apply Ext.cell (by assumption))); done)))
  exact h s1 f1
theorem fn_is {D : Nat → Prop} {a7 a8 a9 : Addr} (d7 : ¬ D a7.block) (d8 : ¬ D a8.block) (d9 : ¬ D a9.block) {v : Value} {n : Int} {g : Sp → Mx} (h7 : cellAt s a7 = some v) (h8 : cellAt s a8 = some (.func (.func 73) #[] #[])) (h9 : cellAt s a9 = some (.int .i64 n)) (hv : FnO W D v s g) (hb : BmM (g (n, 20))) : FnM W D (.func (.func 79) #[] #[.pointer (some a7), .pointer (some a8), .pointer (some a9)]) s (g (n, 20)) := by
  refine ⟨rfl, fun s1 m K E e hm h => CALLV_func ?_⟩
  refine does_soil_kinds_c6_c1 W _ _ _ _ _ _ _ _ _ _ s1 ?_
  unfold T_soil_kinds_c6_c1
  refine ne6 fun s2 f2 z2 o1 o2 o3 o4 o5 o6 => nz6 zc_104 fun s3 f3 z3 q1 q2 q3 q4 q5 q6 => ?_
  have hz2 : s2.size = s1.size + 1 := z2
  have h7 := e.cell d7 h7
  have h8 := e.cell d8 h8
  have h9 := e.cell d9 h9
  (repeat ((with_reducible first | apply RDI_c | apply RDL_c | apply RDB_c | apply RDP_c | apply RDM_c | apply RDS_c | apply RDV_c); focus ((repeat (first | assumption | exact Own.cell (by assumption) | apply Ext.cell (by assumption))); done)))
  refine c_from fun s4 f4 => ?_
  unfold spV
  try simp only [nd_]
  (repeat (((with_reducible refine ANDS_i ?_ ?_); focus ((repeat ((with_reducible first | apply RDI_c | apply RDL_c | apply RDB_c | apply RDP_c | apply RDM_c | apply RDS_c | apply RDV_c); focus ((repeat (first | assumption | exact Own.cell (by assumption) | apply Ext.cell (by assumption))); done))); exact rfl))))
  refine (hv.kp e).2 s4 (n, 20) _ _ (by exact ((f2.trans f3).trans f4).kp) fun s5 f5 => ?_
  unfold mxV
  try simp only [nd_]
  (repeat (((with_reducible refine ANDS_i ?_ ?_); focus ((repeat ((with_reducible first | apply RDI_c | apply RDL_c | apply RDB_c | apply RDP_c | apply RDM_c | apply RDS_c | apply RDV_c); focus ((repeat (first | assumption | exact Own.cell (by assumption) | apply Ext.cell (by assumption))); done))); exact rfl))))
  refine c_and (m := m) (o := g (n, 20)) hm hb fun s6 f6 => ?_
  unfold mxV
  try simp only [nd_]
  refine out6 (s0 := s1) (by repeat (first | exact Ext.refl _ | assumption | refine Ext.trans ?_ (by assumption))) (by omega) (by (repeat (first | assumption | apply Ext.own (by assumption)))) (by (repeat (first | assumption | apply Ext.own (by assumption)))) (by (repeat (first | assumption | apply Ext.own (by assumption)))) (by (repeat (first | assumption | apply Ext.own (by assumption)))) (by (repeat (first | assumption | apply Ext.own (by assumption)))) (by (repeat (first | assumption | apply Ext.own (by assumption)))) rfl rfl rfl rfl rfl rfl fun t' e r1 r2 r3 r4 r5 r6 => ?_
  (repeat ((with_reducible first | apply RDI_c | apply RDL_c | apply RDB_c | apply RDP_c | apply RDM_c | apply RDS_c | apply RDV_c); focus ((repeat (first | assumption | exact Own.cell (by assumption) | apply Ext.cell (by assumption))); done)))
  exact h t' e
theorem fn_rest {D : Nat → Prop} {a7 a8 a9 : Addr} (d7 : ¬ D a7.block) (d8 : ¬ D a8.block) (d9 : ¬ D a9.block) {v : Value} {n : Int} {g : Sp → Mx} (h0 : 0 ≤ n) (h1 : n ≤ 100) (h7 : cellAt s a7 = some v) (h8 : cellAt s a8 = some (.func (.func 74) #[] #[])) (h9 : cellAt s a9 = some (.int .i64 n)) (hv : FnO W D v s g) (hb : BmM (g (0, n - 1))) : FnM W D (.func (.func 80) #[] #[.pointer (some a7), .pointer (some a8), .pointer (some a9)]) s (g (0, n - 1)) := by
  refine ⟨rfl, fun s1 m K E e hm h => CALLV_func ?_⟩
  refine does_soil_kinds_c6_c2 W _ _ _ _ _ _ _ _ _ _ s1 ?_
  unfold T_soil_kinds_c6_c2
  refine ne6 fun s2 f2 z2 o1 o2 o3 o4 o5 o6 => nz6 zc_104 fun s3 f3 z3 q1 q2 q3 q4 q5 q6 => ?_
  have hz2 : s2.size = s1.size + 1 := z2
  have h7 := e.cell d7 h7
  have h8 := e.cell d8 h8
  have h9 := e.cell d9 h9
  (repeat ((with_reducible first | apply RDI_c | apply RDL_c | apply RDB_c | apply RDP_c | apply RDM_c | apply RDS_c | apply RDV_c); focus ((repeat (first | assumption | exact Own.cell (by assumption) | apply Ext.cell (by assumption))); done)))
  refine c_below h0 h1 fun s4 f4 => ?_
  unfold spV
  try simp only [nd_]
  (repeat (((with_reducible refine ANDS_i ?_ ?_); focus ((repeat ((with_reducible first | apply RDI_c | apply RDL_c | apply RDB_c | apply RDP_c | apply RDM_c | apply RDS_c | apply RDV_c); focus ((repeat (first | assumption | exact Own.cell (by assumption) | apply Ext.cell (by assumption))); done))); exact rfl))))
  refine (hv.kp e).2 s4 (0, n - 1) _ _ (by exact ((f2.trans f3).trans f4).kp) fun s5 f5 => ?_
  unfold mxV
  try simp only [nd_]
  (repeat (((with_reducible refine ANDS_i ?_ ?_); focus ((repeat ((with_reducible first | apply RDI_c | apply RDL_c | apply RDB_c | apply RDP_c | apply RDM_c | apply RDS_c | apply RDV_c); focus ((repeat (first | assumption | exact Own.cell (by assumption) | apply Ext.cell (by assumption))); done))); exact rfl))))
  refine c_and (m := m) (o := g (0, n - 1)) hm hb fun s6 f6 => ?_
  unfold mxV
  try simp only [nd_]
  refine out6 (s0 := s1) (by repeat (first | exact Ext.refl _ | assumption | refine Ext.trans ?_ (by assumption))) (by omega) (by (repeat (first | assumption | apply Ext.own (by assumption)))) (by (repeat (first | assumption | apply Ext.own (by assumption)))) (by (repeat (first | assumption | apply Ext.own (by assumption)))) (by (repeat (first | assumption | apply Ext.own (by assumption)))) (by (repeat (first | assumption | apply Ext.own (by assumption)))) (by (repeat (first | assumption | apply Ext.own (by assumption)))) rfl rfl rfl rfl rfl rfl fun t' e r1 r2 r3 r4 r5 r6 => ?_
  (repeat ((with_reducible first | apply RDI_c | apply RDL_c | apply RDB_c | apply RDP_c | apply RDM_c | apply RDS_c | apply RDV_c); focus ((repeat (first | assumption | exact Own.cell (by assumption) | apply Ext.cell (by assumption))); done)))
  exact h t' e
theorem c_kind {D : Nat → Prop} {a4 a5 : Addr} (d4 : ¬ D a4.block) (d5 : ¬ D a5.block) (hD : ∀ b, D b → b < s.size) {k n : Int} {v : Value} {g : Sp → Mx} (h0 : 0 ≤ n) (h1 : n ≤ 100) (h4 : cellAt s a4 = some (.func (.func 73) #[] #[])) (h5 : cellAt s a5 = some (.func (.func 74) #[] #[])) (hv : FnO W D v s g) (hb : BmM (g (n, 20))) (hb' : BmM (g (0, n - 1)))
    (h : ∀ s' x y, Ext s s' → FnM W D x s' (g (n, 20)) → FnM W D y s' (g (0, n - 1)) → K (.agg #[.int .i64 k, x, y]) s') : CALLV Pg W (.func (.func 78) #[] #[.pointer (some a4), .pointer (some a5)]) [.int .i64 k, .int .i64 n, v] K E s := by
  refine CALLV_func ?_
  refine does_soil_kinds_c6 W k n v a4 a5 _ s ?_
  unfold T_soil_kinds_c6
  refine ne1 fun s1 f1 z1 o1 => ?_
  unfold ONE
  rw [hv.1]
  refine ne1 fun s2 f2 z2 o2 => ?_
  refine nw3 zc_107 rfl rfl rfl fun s3 f3 z3 q1 q2 q3 => ?_
  (repeat ((with_reducible first | apply RDI_c | apply RDL_c | apply RDB_c | apply RDP_c | apply RDM_c | apply RDS_c | apply RDV_c); focus ((repeat (first | assumption | exact Own.cell (by assumption) | apply Ext.cell (by assumption))); done)))
  have g1 : cellAt s3 ⟨s1.size, 0, none⟩ = some v := by (repeat (first | assumption | exact Own.cell (by assumption) | apply Ext.cell (by assumption)))
  have g2 : cellAt s3 a4 = some (.func (.func 73) #[] #[]) := by (repeat (first | assumption | exact Own.cell (by assumption) | apply Ext.cell (by assumption)))
  have g3 : cellAt s3 a5 = some (.func (.func 74) #[] #[]) := by (repeat (first | assumption | exact Own.cell (by assumption) | apply Ext.cell (by assumption)))
  have g4 : cellAt s3 ⟨s.size, 0, none⟩ = some (.int .i64 n) := by (repeat (first | assumption | exact Own.cell (by assumption) | apply Ext.cell (by assumption)))
  have e : Ext s s3 := (f1.trans f2).trans f3
  have hz1 : s1.size = s.size + 1 := z1
  have n1 : ¬ D s1.size := fun h => by have := hD _ h; omega
  have n2 : ¬ D s.size := fun h => by have := hD _ h; omega
  exact h s3 _ _ e (fn_is n1 d4 n2 g1 g2 g4 (hv.kp e.kp) hb) (fn_rest n1 d5 n2 h0 h1 g1 g3 g4 (hv.kp e.kp) hb')
theorem bmm_kinds : BmM isClay ∧ BmM noClay ∧ BmM isSand ∧ BmM noSand ∧ BmM isSilt ∧ BmM noSilt := by
  refine ⟨?_, ?_, ?_, ?_, ?_, ?_⟩ <;> exact ⟨⟨by decide, by decide, by decide, by decide⟩, ⟨by decide, by decide, by decide, by decide⟩, ⟨by decide, by decide, by decide, by decide⟩⟩
theorem c_kinds {D : Nat → Prop} (hDe : ∀ b, D b → b ≤ s.size) (hDs : D s.size) (h : ∀ s' x1 y1 x2 y2 x3 y3, Ext s s' → FnM W D x1 s' isClay → FnM W D y1 s' noClay → FnM W D x2 s' isSand → FnM W D y2 s' noSand → FnM W D x3 s' isSilt → FnM W D y3 s' noSilt → K (.agg #[.int .i64 3, x1, y1, .int .i64 1, x2, y2, .int .i64 2, x3, y3]) s') : CALL Pg W F_soil_kinds [] K E s := by
  refine does_soil_kinds W _ s ?_
  unfold T_soil_kinds
  obtain ⟨k1, k2, k3, k4, k5, k6⟩ := bmm_kinds
  refine nz9 zc_108 fun s1 f1 z1 q1 q2 q3 q4 q5 q6 q7 q8 q9 => ?_
  refine nw1 zc_167 rfl fun s2 f2 z2 o2 => ?_
  refine nw1 zc_167 rfl fun s3 f3 z3 o3 => ?_
  refine c_anything fun s4 f4 => ?_
  unfold mxV
  try simp only [nd_]
  refine nw6 zc_104 rfl rfl rfl rfl rfl rfl fun s5 f5 z5 m1 m2 m3 m4 m5 m6 => ?_
  have hma : MxAt s5 s4.size anyM := ⟨m1.cell, m2.cell, m3.cell, m4.cell, m5.cell, m6.cell⟩
  have hz1 : s1.size = s.size + 1 := z1
  have hz2 : s2.size = s1.size + 1 := z2
  have hz3 : s3.size = s2.size + 1 := z3
  have h34 := f4.1
  have h45 := f5.1
  have n1 : ¬ D s1.size := fun h => by have := hDe _ h; omega
  have n2 : ¬ D s2.size := fun h => by have := hDe _ h; omega
  have n4 : ¬ D s4.size := fun h => by have := hDe _ h; omega
  refine c_kind (D := D) (k := 3) (n := 8) n1 n2 (fun b hb => by have := hDe b hb; omega) (by decide) (by decide) (by (repeat (first | assumption | exact Own.cell (by assumption) | apply Ext.cell (by assumption)))) (by (repeat (first | assumption | exact Own.cell (by assumption) | apply Ext.cell (by assumption)))) (of_clay n4 hma) k1 k2 fun s6 x1 y1 f6 i1 j1 => ?_
  try simp only [nd_]
  have h56 := f6.1
  refine c_kind (D := D) (k := 1) (n := 14) n1 n2 (fun b hb => by have := hDe b hb; omega) (by decide) (by decide) (by (repeat (first | assumption | exact Own.cell (by assumption) | apply Ext.cell (by assumption)))) (by (repeat (first | assumption | exact Own.cell (by assumption) | apply Ext.cell (by assumption)))) (of_sand n4 (hma.kp f6.kp n4)) k3 k4 fun s7 x2 y2 f7 i2 j2 => ?_
  try simp only [nd_]
  have h67 := f7.1
  refine c_kind (D := D) (k := 2) (n := 12) n1 n2 (fun b hb => by have := hDe b hb; omega) (by decide) (by decide) (by (repeat (first | assumption | exact Own.cell (by assumption) | apply Ext.cell (by assumption)))) (by (repeat (first | assumption | exact Own.cell (by assumption) | apply Ext.cell (by assumption)))) (of_silt n4 ((hma.kp f6.kp n4).kp f7.kp n4)) k5 k6 fun s8 x3 y3 f8 i3 j3 => ?_
  try simp only [nd_]
  have t1 := i1.1
  have t2 := j1.1
  have t3 := i2.1
  have t4 := j2.1
  have t5 := i3.1
  have t6 := j3.1
  refine out9k (s0 := s) (by repeat (first | exact Ext.refl _ | assumption | refine Ext.trans ?_ (by assumption))) (Nat.le_refl _) (by (repeat (first | assumption | apply Ext.own (by assumption)))) (by (repeat (first | assumption | apply Ext.own (by assumption)))) (by (repeat (first | assumption | apply Ext.own (by assumption)))) (by (repeat (first | assumption | apply Ext.own (by assumption)))) (by (repeat (first | assumption | apply Ext.own (by assumption)))) (by (repeat (first | assumption | apply Ext.own (by assumption)))) (by (repeat (first | assumption | apply Ext.own (by assumption)))) (by (repeat (first | assumption | apply Ext.own (by assumption)))) (by (repeat (first | assumption | apply Ext.own (by assumption)))) rfl t1 t2 rfl t3 t4 rfl t5 t6 fun t' e' k8 r1 r2 r3 r4 r5 r6 r7 r8 r9 => ?_
  (repeat ((with_reducible first | apply RDI_c | apply RDL_c | apply RDB_c | apply RDP_c | apply RDM_c | apply RDS_c | apply RDV_c); focus ((repeat (first | assumption | exact Own.cell (by assumption) | apply Ext.cell (by assumption))); done)))
  have k8 := k8.mono (D := D) fun b hb => by rw [hb]; exact hDs
  have k7 := f8.kp.trans k8
  have k6 := f7.kp.trans k7
  exact h t' _ _ _ _ _ _ e' (i1.kp k6) (j1.kp k6) (i2.kp k7) (j2.kp k7) (i3.kp k8) (j3.kp k8)
end
open Go.V
structure MxO (s : Hp) (a : Addr) (m : Mx) : Prop where
  m1 : Own s (a.add 0) (.int .i64 m.sand.1)
  m2 : Own s (a.add 1) (.int .i64 m.sand.2)
  m3 : Own s (a.add 2) (.int .i64 m.silt.1)
  m4 : Own s (a.add 3) (.int .i64 m.silt.2)
  m5 : Own s (a.add 4) (.int .i64 m.clay.1)
  m6 : Own s (a.add 5) (.int .i64 m.clay.2)
structure SpO (s : Hp) (a : Addr) (m : Sp) : Prop where
  m1 : Own s (a.add 0) (.int .i64 m.1)
  m2 : Own s (a.add 1) (.int .i64 m.2)
theorem MxO.kp {D : Nat → Prop} {s s' : Hp} {a : Addr} {m : Mx} (h : MxO s a m) (k : Kp D s s') (hd : ¬ D a.block) : MxO s' a m := by
  have : ∀ t, ¬ D (a.add t).block := fun t => by rw [add_blk]; exact hd
  exact ⟨k.own (this _) h.m1, k.own (this _) h.m2, k.own (this _) h.m3, k.own (this _) h.m4, k.own (this _) h.m5, k.own (this _) h.m6⟩
theorem SpO.kp {D : Nat → Prop} {s s' : Hp} {a : Addr} {m : Sp} (h : SpO s a m) (k : Kp D s s') (hd : ¬ D a.block) : SpO s' a m := by
  have : ∀ t, ¬ D (a.add t).block := fun t => by rw [add_blk]; exact hd
  exact ⟨k.own (this _) h.m1, k.own (this _) h.m2⟩
def MixR (s : Hp) (b : Nat) (ms : List Mx) : Prop := ∀ i (h : i < ms.length), MxO s (Addr.add ⟨b, 0, none⟩ (i * 6)) ms[i]
def SpR (s : Hp) (b : Nat) (ms : List Sp) : Prop := ∀ i (h : i < ms.length), SpO s (Addr.add ⟨b, 0, none⟩ (i * 2)) ms[i]
theorem MixR.kp {D : Nat → Prop} {s s' : Hp} {b : Nat} {ms : List Mx} (h : MixR s b ms) (k : Kp D s s') (hd : ¬ D b) : MixR s' b ms := fun i hi => (h i hi).kp k (by rw [add_blk]; exact hd)
theorem SpR.kp {D : Nat → Prop} {s s' : Hp} {b : Nat} {ms : List Sp} (h : SpR s b ms) (k : Kp D s s') (hd : ¬ D b) : SpR s' b ms := fun i hi => (h i hi).kp k (by rw [add_blk]; exact hd)
theorem MixR.ext {s s' : Hp} {b : Nat} {ms : List Mx} (h : MixR s b ms) (e : Ext s s') : MixR s' b ms := h.kp (D := fun _ => False) e.kp id
theorem SpR.ext {s s' : Hp} {b : Nat} {ms : List Sp} (h : SpR s b ms) (e : Ext s s') : SpR s' b ms := h.kp (D := fun _ => False) e.kp id
theorem mix_set {s : Hp} {b i : Nat} {ms : List Mx} {m : Mx} {K : Hp → Prop} (h : MixR s b ms) (hi : i < ms.length) (hK : ∀ s', Kp (· = b) s s' → s'.size = s.size → MixR s' b (ms.set i m) → K s') :
    (WR (Addr.add (Addr.add ⟨b, 0, none⟩ (i * 6)) 0) (.int .i64 m.sand.1) <| WR (Addr.add (Addr.add ⟨b, 0, none⟩ (i * 6)) 1) (.int .i64 m.sand.2) <| WR (Addr.add (Addr.add ⟨b, 0, none⟩ (i * 6)) 2) (.int .i64 m.silt.1) <| WR (Addr.add (Addr.add ⟨b, 0, none⟩ (i * 6)) 3) (.int .i64 m.silt.2) <| WR (Addr.add (Addr.add ⟨b, 0, none⟩ (i * 6)) 4) (.int .i64 m.clay.1) <| WR (Addr.add (Addr.add ⟨b, 0, none⟩ (i * 6)) 5) (.int .i64 m.clay.2) <| K) s := by
  have hm := h i hi
  refine wrN_rule [.int .i64 m.sand.1, .int .i64 m.sand.2, .int .i64 m.silt.1, .int .i64 m.silt.2, .int .i64 m.clay.1, .int .i64 m.clay.2] _ 0 K s (fun j hj => ?_) (by simp [oneCell]) fun s' k z ho hk => ?_
  · rw [Nat.zero_add]
    match j, hj with
    | 0, _ => exact ⟨_, hm.m1⟩
    | 1, _ => exact ⟨_, hm.m2⟩
    | 2, _ => exact ⟨_, hm.m3⟩
    | 3, _ => exact ⟨_, hm.m4⟩
    | 4, _ => exact ⟨_, hm.m5⟩
    | 5, _ => exact ⟨_, hm.m6⟩
  · rw [add_blk] at k
    refine hK s' k z fun q hq => ?_
    have hq' : q < ms.length := by rw [List.length_set] at hq; exact hq
    by_cases e : i = q
    · subst e
      rw [List.getElem_set_self]
      exact ⟨ho 0 (by simp), ho 1 (by simp), ho 2 (by simp), ho 3 (by simp), ho 4 (by simp), ho 5 (by simp)⟩
    · rw [List.getElem_set_ne e]
      have hmq := h q hq'
      have hoff : ∀ t, t < 6 → (Addr.add (Addr.add ⟨b, 0, none⟩ (q * 6)) t).off < (Addr.add ⟨b, 0, none⟩ (i * 6)).off + 0 ∨ (Addr.add ⟨b, 0, none⟩ (i * 6)).off + 0 + [Value.int .i64 m.sand.1, .int .i64 m.sand.2, .int .i64 m.silt.1, .int .i64 m.silt.2, .int .i64 m.clay.1, .int .i64 m.clay.2].length ≤ (Addr.add (Addr.add ⟨b, 0, none⟩ (q * 6)) t).off := by
        intro t ht
        rw [add_of, add_of, add_of]
        show 0 + q * 6 + t < 0 + i * 6 + 0 ∨ 0 + i * 6 + 0 + 6 ≤ 0 + q * 6 + t
        omega
      exact ⟨hk _ _ (hoff 0 (by decide)) hmq.m1, hk _ _ (hoff 1 (by decide)) hmq.m2, hk _ _ (hoff 2 (by decide)) hmq.m3, hk _ _ (hoff 3 (by decide)) hmq.m4, hk _ _ (hoff 4 (by decide)) hmq.m5, hk _ _ (hoff 5 (by decide)) hmq.m6⟩
theorem sp_set {s : Hp} {b i : Nat} {ms : List Sp} {m : Sp} {K : Hp → Prop} (h : SpR s b ms) (hi : i < ms.length) (hK : ∀ s', Kp (· = b) s s' → s'.size = s.size → SpR s' b (ms.set i m) → K s') :
    (WR (Addr.add (Addr.add ⟨b, 0, none⟩ (i * 2)) 0) (.int .i64 m.1) <| WR (Addr.add (Addr.add ⟨b, 0, none⟩ (i * 2)) 1) (.int .i64 m.2) <| K) s := by
  have hm := h i hi
  refine wrN_rule [.int .i64 m.1, .int .i64 m.2] _ 0 K s (fun j hj => ?_) (by simp [oneCell]) fun s' k z ho hk => ?_
  · rw [Nat.zero_add]
    match j, hj with
    | 0, _ => exact ⟨_, hm.m1⟩
    | 1, _ => exact ⟨_, hm.m2⟩
  · rw [add_blk] at k
    refine hK s' k z fun q hq => ?_
    have hq' : q < ms.length := by rw [List.length_set] at hq; exact hq
    by_cases e : i = q
    · subst e
      rw [List.getElem_set_self]
      exact ⟨ho 0 (by simp), ho 1 (by simp)⟩
    · rw [List.getElem_set_ne e]
      have hmq := h q hq'
      have hoff : ∀ t, t < 2 → (Addr.add (Addr.add ⟨b, 0, none⟩ (q * 2)) t).off < (Addr.add ⟨b, 0, none⟩ (i * 2)).off + 0 ∨ (Addr.add ⟨b, 0, none⟩ (i * 2)).off + 0 + [Value.int .i64 m.1, .int .i64 m.2].length ≤ (Addr.add (Addr.add ⟨b, 0, none⟩ (q * 2)) t).off := by
        intro t ht
        rw [add_of, add_of, add_of]
        show 0 + q * 2 + t < 0 + i * 2 + 0 ∨ 0 + i * 2 + 0 + 2 ≤ 0 + q * 2 + t
        omega
      exact ⟨hk _ _ (hoff 0 (by decide)) hmq.m1, hk _ _ (hoff 1 (by decide)) hmq.m2⟩
theorem repL_get (zs : List Value) {M : Nat} (hM : zs.length = M) : ∀ (n i t : Nat), i < n → t < M → (repL n zs)[i * M + t]? = zs[t]?
  | 0, i, t, h, _ => by omega
  | n + 1, 0, t, _, ht => by
    unfold repL
    rw [Nat.zero_mul, Nat.zero_add, List.getElem?_append_left (by omega)]
  | n + 1, i + 1, t, h, ht => by
    unfold repL
    have e : (i + 1) * M + t = M + (i * M + t) := by rw [Nat.add_mul]; omega
    rw [e, List.getElem?_append_right (by omega), hM, Nat.add_sub_cancel_left]
    exact repL_get zs hM n i t (by omega) ht
theorem mks_rule {P : Program} {t : TypeId} {n : Nat} {zs : List Value} {K : Nat → Hp → Prop} {s : Hp} {M : Nat} (hz : zc P t = zs) (hM : zs.length = M) (hn : n ≤ 100000) (h : ∀ s', Ext s s' → s'.size = s.size + 1 → (∀ i t v, i < n → t < M → zs[t]? = some v → Own s' (Addr.add (Addr.add ⟨s.size, 0, none⟩ (i * M)) t) v) → K s.size s') : MKS P t (n : Int) (n : Int) K s := by
  refine ⟨⟨by omega, by omega, by omega⟩, ?_⟩
  rw [hz, Int.toNat_natCast]
  refine h _ (Ext.push (Ext.refl _)) (by simp) fun i t v hi ht hv => ?_
  rw [add_nil, add_nil, Nat.zero_add]
  exact own_new (by rw [repL_get zs hM n i t hi ht]; exact hv)
theorem mks_mix {n : Nat} {K : Nat → Hp → Prop} {s : Hp} (hn : n ≤ 100000) (h : ∀ s', Ext s s' → s'.size = s.size + 1 → MixR s' s.size (List.replicate n zeroM) → K s.size s') : MKS Pg 104 (n : Int) (n : Int) K s := by
  refine mks_rule zc_104 rfl hn fun s' e z ho => h s' e z fun i hi => ?_
  have hi' : i < n := by rw [List.length_replicate] at hi; exact hi
  rw [List.getElem_replicate]
  exact ⟨ho i 0 _ hi' (by decide) rfl, ho i 1 _ hi' (by decide) rfl, ho i 2 _ hi' (by decide) rfl, ho i 3 _ hi' (by decide) rfl, ho i 4 _ hi' (by decide) rfl, ho i 5 _ hi' (by decide) rfl⟩
theorem mks_sp {n : Nat} {K : Nat → Hp → Prop} {s : Hp} (hn : n ≤ 100000) (h : ∀ s', Ext s s' → s'.size = s.size + 1 → SpR s' s.size (List.replicate n (0, 0)) → K s.size s') : MKS Pg 27 (n : Int) (n : Int) K s := by
  refine mks_rule zc_27 rfl hn fun s' e z ho => h s' e z fun i hi => ?_
  have hi' : i < n := by rw [List.length_replicate] at hi; exact hi
  rw [List.getElem_replicate]
  exact ⟨ho i 0 _ hi' (by decide) rfl, ho i 1 _ hi' (by decide) rfl⟩
def PlR (p a b : Addr) (L : Nat) (back : Bool) (s : Hp) : Prop := cellAt s a = some (.pointer (some p)) ∧ cellAt s b = some (.bool back) ∧ cellAt s (p.add 0) = some (.int .i64 L)
def plV (L : Nat) (back : Bool) : List (List Value) := (List.range (L + 1)).map fun k => [.int .i64 (ordB back L k : Nat)]
theorem PlR.blind {p a b : Addr} {L : Nat} {back : Bool} : Blind (PlR p a b L back) := fun s l o hl ho h => ⟨cell_blind hl h.1, cell_blind hl h.2.1, cell_blind hl h.2.2⟩
section
variable {W : World} {K : VK} {E : List PanicEntry → Hp → Prop} {s : Hp}
theorem it_places {p a b : Addr} {L : Nat} {back : Bool} (hL : L ≤ 1000) : IterC Pg W (.func (.func 92) #[] #[.pointer (some a), .pointer (some b)]) (plV L back) (PlR p a b L back) := by
  refine ⟨⟨_, _, _, rfl⟩, fun y I J s hR hext hy h0 => ?_⟩
  refine does_soil_ground_places_c1 W y a b _ s ?_
  unfold T_soil_ground_places_c1
  have r0 := hR 0 s h0
  refine ⟨_, r0.1, ?_⟩
  try simp only [nd_]
  refine ⟨_, r0.2.2, ?_⟩
  try dsimp only
  rw [wrap_succ (by omega)]
  refine L_soil_ground_places_c1_0_rule W _ y a b ((L + 1 : Nat) : Int) (fun n s' => ∃ k : Nat, k ≤ L + 1 ∧ n = k ∧ I k s') (fun n _ => (((L + 1 : Nat) : Int) - n).toNat) 0 s ⟨0, by omega, rfl, h0⟩ ?_
  rintro n s1 ⟨k, hk, rfl, hI⟩
  have r1 := hR _ _ hI
  unfold B_soil_ground_places_c1_0
  refine BR_dec (fun h2 => ?_) (fun h2 => ?_)
  · have hkn : k < L + 1 := by omega
    have hJ : J_soil_ground_places_c1_0 W (fun e s' => (∃ v, e = .returned v) ∧ (I (plV L back).length s' ∨ J s')) y (ordB back L k : Nat) a b ((L + 1 : Nat) : Int) (fun vs => N_soil_ground_places_c1_0 (fun n s' => ∃ k : Nat, k ≤ L + 1 ∧ n = k ∧ I k s') (fun n _ => (((L + 1 : Nat) : Int) - n).toNat) (k : Int) s1 vs) (k : Int) s1 := by
      unfold J_soil_ground_places_c1_0
      refine DoesV.mono (hy k _ (by unfold plV; rw [List.getElem?_map, List.getElem?_range hkn]; rfl) s1 hI) ?_
      rintro e s2 (⟨rfl, hi⟩ | ⟨rfl, hj⟩)
      · try simp only [nd_]
        refine BR_not (fun h => by cases h) (fun _ => ?_)
        try simp only [nd_]
        exact ⟨_, rfl, ⟨k + 1, hkn, wrap_succ (by omega), hi⟩, ms_succ hkn (by omega)⟩
      · try simp only [nd_]
        refine BR_not (fun _ => ?_) (fun h => by cases h)
        exact ⟨⟨_, rfl⟩, .inr hj⟩
    refine ⟨_, r1.2.1, ?_⟩
    refine BR_bool (fun hb => ?_) (fun hb => ?_)
    · refine ⟨_, r1.1, ?_⟩
      try simp only [nd_]
      refine ⟨_, r1.2.2, ?_⟩
      try dsimp only
      rw [wrap_i64 (by omega) (by omega)]
      have e : (L : Int) - (k : Int) = ((ordB back L k : Nat) : Int) := by rw [hb]; show _ = ((L - k : Nat) : Int); omega
      rw [e]; exact hJ
    · have e : (k : Int) = ((ordB back L k : Nat) : Int) := by rw [hb]; rfl
      have := hJ
      rw [← e] at this; exact this
  · have hkn : k = L + 1 := by omega
    subst hkn
    refine ⟨⟨_, rfl⟩, .inl ?_⟩
    have : (plV L back).length = L + 1 := by simp [plV]
    rw [this]; exact hI
theorem rng_places {p : Addr} {L : Nat} {back : Bool} {B : List Value → (Option Code → Hp → Prop) → Hp → Prop} {A : Option Code → Hp → Prop} (hL : L ≤ 1000) (hp : cellAt s (p.add 0) = some (.int .i64 L)) (D : Nat → Prop) (hD : ∀ b, D b → b < s.size ∧ b ≠ p.block) (I : Nat → Hp → Prop) (S : Code → Hp → Prop)
    (h0 : ∀ s', Ext s s' → I 0 s') (hext : ∀ k t t', I k t → Ext t t' → I k t')
    (hB : ∀ k t s2, k ≤ L → Ext s s2 → Kp D s2 t → I k t → B [.int .i64 (ordB back L k : Nat)] (fun j t' => match j with | none => Kp D s2 t' ∧ I (k + 1) t' | some c => Kp D s2 t' ∧ S c t') t)
    (hA : ∀ t s2, Ext s s2 → Kp D s2 t → I (L + 1) t → A none t) (hS : ∀ c t s2, Ext s s2 → Kp D s2 t → S c t → A (some c) t) : CALL Pg W F_soil_ground_places [.pointer (some p), .bool back] (fun v => RNGN Pg W v 1 B A) E s := by
  refine does_soil_ground_places W (some p) back _ s ?_
  unfold T_soil_ground_places
  refine ne1 fun s1 f1 z1 o1 => ne1 fun s2 f2 z2 o2 => ?_
  have hz1 : s1.size = s.size + 1 := z1
  have hl := cell_lt hp
  rw [add_blk] at hl
  have e2 : Ext s s2 := f1.trans f2
  have c1 : cellAt s2 ⟨s.size, 0, none⟩ = some (.pointer (some p)) := (f2.own o1).cell
  show RNGN Pg W (.func (.func 92) #[] #[.pointer (some ⟨s.size, 0, none⟩), .pointer (some ⟨s1.size, 0, none⟩)]) 1 B A s2
  refine RNGN_list Pg W ?_
  refine ⟨plV L back, PlR p ⟨s.size, 0, none⟩ ⟨s1.size, 0, none⟩ L back, fun k t => Kp D s2 t ∧ I k t, fun c t => Kp D s2 t ∧ S c t, it_places hL, PlR.blind, fun k t ht => ⟨ht.1.cell (fun h => by have := (hD _ h).1; exact absurd this (Nat.lt_irrefl _)) c1, ht.1.cell (fun h => by have := (hD _ h).1; have : s1.size < s.size := this; omega) o2.cell, ht.1.cell (fun h => by rw [add_blk] at h; exact (hD _ h).2 rfl) (e2.cell hp)⟩,
    fun k t t' ht e => ⟨ht.1.ext e, hext k t t' ht.2 e⟩, ⟨(Kp.refl _).ext (Ext.push (Ext.push (Ext.refl _))), h0 _ (e2.trans (Ext.push (Ext.push (Ext.refl _))))⟩, fun k x hx => ?_, fun t ht => ?_, fun c t ht => hS c t s2 e2 ht.1 ht.2⟩
  · unfold plV at hx
    rw [List.getElem?_map] at hx
    obtain ⟨m, hm, rfl⟩ := Option.map_eq_some_iff.1 hx
    rw [List.getElem?_eq_some_iff] at hm
    obtain ⟨hlt, rfl⟩ := hm
    rw [List.length_range] at hlt
    rw [List.getElem_range]
    exact ⟨rfl, fun t ht => hB k t s2 (by omega) e2 ht.1 ht.2⟩
  · refine hA t s2 e2 ht.1 ?_
    have : (plV L back).length = L + 1 := by simp [plV]
    rw [← this]; exact ht.2
structure LkAt (s : Hp) (p : Addr) (lo L : Nat) (hs : List Sp) (ms : List Mx) : Prop where
  long : cellAt s (p.add 0) = some (.int .i64 L)
  hards : ∃ b, lo ≤ b ∧ cellAt s (p.add 4) = some (.slice (some ⟨b, 0, none⟩) hs.length hs.length) ∧ SpR s b hs
  mixes : ∃ b, cellAt s (p.add 5) = some (.slice (some ⟨b, 0, none⟩) ms.length ms.length) ∧ MixR s b ms
theorem LkAt.ext {s s' : Hp} {p : Addr} {lo L : Nat} {hs : List Sp} {ms : List Mx} (h : LkAt s p lo L hs ms) (e : Ext s s') : LkAt s' p lo L hs ms := by
  obtain ⟨h1, ⟨b, h0, h2, h3⟩, ⟨c, h4, h5⟩⟩ := h
  exact ⟨e.cell h1, ⟨b, h0, e.cell h2, h3.ext e⟩, ⟨c, e.cell h4, h5.ext e⟩⟩
theorem orv_pow {n k : Nat} (hn : n < 16) (hk : k < 4) : orv .i64 (n : Int) (shlv .i64 1 (k : Int)) = ((n ||| 2 ^ k : Nat) : Int) := by
  have h : ((List.range 16).all fun (n : Nat) => (List.range 4).all fun (k : Nat) => decide (orv .i64 (n : Int) (shlv .i64 1 (k : Int)) = ((n ||| 2 ^ k : Nat) : Int))) = true := by decide +kernel
  have h1 := List.all_eq_true.1 h n (by simpa using hn)
  have h2 := List.all_eq_true.1 h1 k (by simpa using hk)
  exact of_decide_eq_true h2
theorem orv_one {n : Nat} (hn : n < 16) : orv .i64 (n : Int) 1 = ((n ||| 1 : Nat) : Int) := by
  have h : ((List.range 16).all fun (n : Nat) => decide (orv .i64 (n : Int) 1 = ((n ||| 1 : Nat) : Int))) = true := by decide +kernel
  exact of_decide_eq_true (List.all_eq_true.1 h n (by simpa using hn))
theorem or_lt {n k : Nat} (hn : n < 16) (hk : k < 4) : n ||| 2 ^ k < 16 := by
  have h : ((List.range 16).all fun (n : Nat) => (List.range 4).all fun (k : Nat) => decide (n ||| 2 ^ k < 16)) = true := by decide +kernel
  have h1 := List.all_eq_true.1 h n (by simpa using hn)
  have h2 := List.all_eq_true.1 h1 k (by simpa using hk)
  exact of_decide_eq_true h2
def restK (k : Nat) : List (Nat × Mx × Mx) := kindsP.drop k
set_option maxHeartbeats 1000000 in
theorem c_classes {p : Addr} {lo L i : Nat} {hs : List Sp} {ms : List Mx} (hl : LkAt s p lo L hs ms) (hi : i < ms.length) (hb : BmM ms[i]) (h : ∀ s', Ext s s' → K (.int .i64 (classP kindsP ms[i] 0 : Nat)) s') : CALL Pg W F_soil_ground_classes [.pointer (some p), .int .i64 (i : Nat)] K E s := by
  refine does_soil_ground_classes W (some p) (i : Nat) _ s ?_
  unfold T_soil_ground_classes
  obtain ⟨_, _, ⟨b, h1, h2⟩⟩ := hl
  obtain ⟨m1, m2, m3, m4, m5, m6⟩ := h2 i hi
  try simp only [nd_]
  refine ⟨_, _, _, h1, ?_⟩
  refine IXS_nat hi ?_
  refine ⟨_, m1.cell, ⟨_, m2.cell, ⟨_, m3.cell, ⟨_, m4.cell, ⟨_, m5.cell, ⟨_, m6.cell, ?_⟩⟩⟩⟩⟩⟩
  refine nw6 zc_104 rfl rfl rfl rfl rfl rfl fun s1 f1 z1 o1 o2 o3 o4 o5 o6 => ?_
  have hz1 : s1.size = s.size + 1 := z1
  refine c_kinds (D := fun b => b = s1.size ∨ b = s.size) (fun b hb => by rcases hb with rfl | rfl <;> omega) (.inl rfl) fun s2 x1 y1 x2 y2 x3 y3 f2 i1 j1 i2 j2 i3 j3 => ?_
  try simp only [nd_]
  -- one round
  have hfin : classP kindsP ms[i] 0 = classP kindsP ms[i] 0 := rfl
  refine L_soil_ground_classes_0_rule W _ ⟨s.size, 0, none⟩ 3 x1 y1 1 x2 y2 2 x3 y3 (fun n k t => ∃ (q c : Nat) (m : Mx), k = q ∧ n = c ∧ q ≤ 3 ∧ c < 16 ∧ BmM m ∧ classP (restK q) m c = classP kindsP ms[i] 0 ∧ Kp (· = s.size) s2 t ∧ MxO t ⟨s.size, 0, none⟩ m) (fun _ k _ => (3 - k).toNat) 0 0 s2
    ⟨0, 0, ms[i], rfl, rfl, by omega, by omega, hb, rfl, Kp.refl _, ⟨f2.own o1, f2.own o2, f2.own o3, f2.own o4, f2.own o5, f2.own o6⟩⟩ ?_
  rintro n k t ⟨q, c, m, rfl, rfl, hq, hc, hbm, hcl, kt, mo⟩
  unfold B_soil_ground_classes_0
  have hz2 := f2.1
  refine BR_dec (fun hlt => ?_) (fun hge => ?_)
  · have kb : BmM noClay ∧ BmM noSand ∧ BmM noSilt := ⟨bmm_kinds.2.1, bmm_kinds.2.2.2.1, bmm_kinds.2.2.2.2.2⟩
    have hq3 : q = 0 ∨ q = 1 ∨ q = 2 := by omega
    rcases hq3 with rfl | rfl | rfl
    · obtain ⟨m1, m2, m3, m4, m5, m6⟩ := mo
      refine IXH_at (by decide) ?_
      show (AGG (.agg ([.int .i64 3, x1, y1] : List Value).toArray) _) t
      simp only [AGG_mk, HD_mk, NL_mk, TYC_mk]
      refine nw3 zc_107 rfl i1.1 j1.1 fun t1 g1 w1 p1 p2 p3 => ?_
      refine ⟨_, p2.cell, ?_⟩
      refine ⟨_, (g1.own m1).cell, ⟨_, (g1.own m2).cell, ⟨_, (g1.own m3).cell, ⟨_, (g1.own m4).cell, ⟨_, (g1.own m5).cell, ⟨_, (g1.own m6).cell, ?_⟩⟩⟩⟩⟩⟩
      have kt1 : Kp (fun b => b = s1.size ∨ b = s.size) s2 t1 := (kt.mono fun b hb => .inr hb).ext g1
      refine i1.2 t1 m _ _ kt1 hbm fun t2 g2 => ?_
      try simp only [nd_]
      refine c_isNone (m := andM m isClay) fun t3 g3 => ?_
      try simp only [nd_]
      have hz1' : s2.size ≤ t.size := kt.1
      have g13 : Ext t t3 := (g1.trans g2).trans g3
      have kt3 : Kp (fun b => b = s1.size ∨ b = s.size) s2 t3 := (kt1.ext g2).ext g3
      have hJ : ∀ c' : Nat, c' < 16 → c' = (if noneM (andM m isClay) = true then c else c ||| 2 ^ 3) → J_soil_ground_classes_0 W (endK K E) t.size ⟨s.size, 0, none⟩ (c' : Nat) 3 x1 y1 1 x2 y2 2 x3 y3 (fun vs => N_soil_ground_classes_0 (fun n k t => ∃ (q c : Nat) (m : Mx), k = q ∧ n = c ∧ q ≤ 3 ∧ c < 16 ∧ BmM m ∧ classP (restK q) m c = classP kindsP ms[i] 0 ∧ Kp (· = s.size) s2 t ∧ MxO t ⟨s.size, 0, none⟩ m) (fun _ k _ => (3 - k).toNat) (c : Int) ((0 : Nat) : Int) t vs) ((0 : Nat) : Int) t3 := by
        intro c' hc' hce
        unfold J_soil_ground_classes_0
        refine ⟨_, (g3.own (g2.own p3)).cell, ?_⟩
        refine ⟨_, (g13.own m1).cell, ⟨_, (g13.own m2).cell, ⟨_, (g13.own m3).cell, ⟨_, (g13.own m4).cell, ⟨_, (g13.own m5).cell, ⟨_, (g13.own m6).cell, ?_⟩⟩⟩⟩⟩⟩
        refine j1.2 t3 m _ _ kt3 hbm fun t4 g4 => ?_
        try simp only [nd_]
        have g14 := g13.trans g4
        refine outk6 (B := s.size) (g14.own m1) (g14.own m2) (g14.own m3) (g14.own m4) (g14.own m5) (g14.own m6) rfl rfl rfl rfl rfl rfl fun t5 k5 q1 q2 q3 q4 q5 q6 => ?_
        refine ⟨_, q1.cell, ⟨_, q2.cell, ⟨_, q3.cell, ⟨_, q4.cell, ⟨_, q5.cell, ⟨_, q6.cell, ?_⟩⟩⟩⟩⟩⟩
        refine c_isNone (m := andM m noClay) fun t6 g6 => ?_
        try simp only [nd_]
        have k6 : Kp (· = s.size) s2 t6 := ((kt.ext g14).trans k5).ext g6
        have hstep : classP (restK 0) m c = if noneM (andM m noClay) = true then c' else classP (restK (0 + 1)) (andM m noClay) c' := by rw [hce]; rfl
        refine BR_bool (fun hn => ?_) (fun hn => ?_)
        · rw [hcl, if_pos hn] at hstep
          rw [← hstep]
          exact h t6 (kp_nil (f1.trans f2) (fun b hb => by have : b = s.size := hb; omega) k6)
        · try simp only [nd_]
          rw [hcl, if_neg (by rw [hn]; decide)] at hstep
          refine ⟨_, _, rfl, ⟨0 + 1, c', andM m noClay, by decide, rfl, by decide, hc', bmm_and hbm kb.1, hstep.symm, k6, ⟨g6.own q1, g6.own q2, g6.own q3, g6.own q4, g6.own q5, g6.own q6⟩⟩, ?_⟩
          show ((3 : Int) - IntKind.i64.wrap (((0 : Nat) : Int) + 1)).toNat < ((3 : Int) - ((0 : Nat) : Int)).toNat
          decide
      refine BR_not (fun hn => ?_) (fun hn => ?_)
      · refine ⟨_, ((g2.trans g3).own p1).cell, ?_⟩
        refine NNI_of (by decide) ?_
        have := orv_pow (k := 3) hc (by decide)
        have e : ((3 : Nat) : Int) = 3 := rfl
        rw [e] at this
        rw [this]
        exact hJ _ (or_lt hc (by decide)) (by rw [if_neg (by rw [hn]; decide)])
      · exact hJ c hc (by rw [if_pos hn])
    · obtain ⟨m1, m2, m3, m4, m5, m6⟩ := mo
      refine IXH_at (by decide) ?_
      show (AGG (.agg ([.int .i64 1, x2, y2] : List Value).toArray) _) t
      simp only [AGG_mk, HD_mk, NL_mk, TYC_mk]
      refine nw3 zc_107 rfl i2.1 j2.1 fun t1 g1 w1 p1 p2 p3 => ?_
      refine ⟨_, p2.cell, ?_⟩
      refine ⟨_, (g1.own m1).cell, ⟨_, (g1.own m2).cell, ⟨_, (g1.own m3).cell, ⟨_, (g1.own m4).cell, ⟨_, (g1.own m5).cell, ⟨_, (g1.own m6).cell, ?_⟩⟩⟩⟩⟩⟩
      have kt1 : Kp (fun b => b = s1.size ∨ b = s.size) s2 t1 := (kt.mono fun b hb => .inr hb).ext g1
      refine i2.2 t1 m _ _ kt1 hbm fun t2 g2 => ?_
      try simp only [nd_]
      refine c_isNone (m := andM m isSand) fun t3 g3 => ?_
      try simp only [nd_]
      have hz1' : s2.size ≤ t.size := kt.1
      have g13 : Ext t t3 := (g1.trans g2).trans g3
      have kt3 : Kp (fun b => b = s1.size ∨ b = s.size) s2 t3 := (kt1.ext g2).ext g3
      have hJ : ∀ c' : Nat, c' < 16 → c' = (if noneM (andM m isSand) = true then c else c ||| 2 ^ 1) → J_soil_ground_classes_0 W (endK K E) t.size ⟨s.size, 0, none⟩ (c' : Nat) 3 x1 y1 1 x2 y2 2 x3 y3 (fun vs => N_soil_ground_classes_0 (fun n k t => ∃ (q c : Nat) (m : Mx), k = q ∧ n = c ∧ q ≤ 3 ∧ c < 16 ∧ BmM m ∧ classP (restK q) m c = classP kindsP ms[i] 0 ∧ Kp (· = s.size) s2 t ∧ MxO t ⟨s.size, 0, none⟩ m) (fun _ k _ => (3 - k).toNat) (c : Int) ((1 : Nat) : Int) t vs) ((1 : Nat) : Int) t3 := by
        intro c' hc' hce
        unfold J_soil_ground_classes_0
        refine ⟨_, (g3.own (g2.own p3)).cell, ?_⟩
        refine ⟨_, (g13.own m1).cell, ⟨_, (g13.own m2).cell, ⟨_, (g13.own m3).cell, ⟨_, (g13.own m4).cell, ⟨_, (g13.own m5).cell, ⟨_, (g13.own m6).cell, ?_⟩⟩⟩⟩⟩⟩
        refine j2.2 t3 m _ _ kt3 hbm fun t4 g4 => ?_
        try simp only [nd_]
        have g14 := g13.trans g4
        refine outk6 (B := s.size) (g14.own m1) (g14.own m2) (g14.own m3) (g14.own m4) (g14.own m5) (g14.own m6) rfl rfl rfl rfl rfl rfl fun t5 k5 q1 q2 q3 q4 q5 q6 => ?_
        refine ⟨_, q1.cell, ⟨_, q2.cell, ⟨_, q3.cell, ⟨_, q4.cell, ⟨_, q5.cell, ⟨_, q6.cell, ?_⟩⟩⟩⟩⟩⟩
        refine c_isNone (m := andM m noSand) fun t6 g6 => ?_
        try simp only [nd_]
        have k6 : Kp (· = s.size) s2 t6 := ((kt.ext g14).trans k5).ext g6
        have hstep : classP (restK 1) m c = if noneM (andM m noSand) = true then c' else classP (restK (1 + 1)) (andM m noSand) c' := by rw [hce]; rfl
        refine BR_bool (fun hn => ?_) (fun hn => ?_)
        · rw [hcl, if_pos hn] at hstep
          rw [← hstep]
          exact h t6 (kp_nil (f1.trans f2) (fun b hb => by have : b = s.size := hb; omega) k6)
        · try simp only [nd_]
          rw [hcl, if_neg (by rw [hn]; decide)] at hstep
          refine ⟨_, _, rfl, ⟨1 + 1, c', andM m noSand, by decide, rfl, by decide, hc', bmm_and hbm kb.2.1, hstep.symm, k6, ⟨g6.own q1, g6.own q2, g6.own q3, g6.own q4, g6.own q5, g6.own q6⟩⟩, ?_⟩
          show ((3 : Int) - IntKind.i64.wrap (((1 : Nat) : Int) + 1)).toNat < ((3 : Int) - ((1 : Nat) : Int)).toNat
          decide
      refine BR_not (fun hn => ?_) (fun hn => ?_)
      · refine ⟨_, ((g2.trans g3).own p1).cell, ?_⟩
        refine NNI_of (by decide) ?_
        have := orv_pow (k := 1) hc (by decide)
        have e : ((1 : Nat) : Int) = 1 := rfl
        rw [e] at this
        rw [this]
        exact hJ _ (or_lt hc (by decide)) (by rw [if_neg (by rw [hn]; decide)])
      · exact hJ c hc (by rw [if_pos hn])
    · obtain ⟨m1, m2, m3, m4, m5, m6⟩ := mo
      refine IXH_at (by decide) ?_
      show (AGG (.agg ([.int .i64 2, x3, y3] : List Value).toArray) _) t
      simp only [AGG_mk, HD_mk, NL_mk, TYC_mk]
      refine nw3 zc_107 rfl i3.1 j3.1 fun t1 g1 w1 p1 p2 p3 => ?_
      refine ⟨_, p2.cell, ?_⟩
      refine ⟨_, (g1.own m1).cell, ⟨_, (g1.own m2).cell, ⟨_, (g1.own m3).cell, ⟨_, (g1.own m4).cell, ⟨_, (g1.own m5).cell, ⟨_, (g1.own m6).cell, ?_⟩⟩⟩⟩⟩⟩
      have kt1 : Kp (fun b => b = s1.size ∨ b = s.size) s2 t1 := (kt.mono fun b hb => .inr hb).ext g1
      refine i3.2 t1 m _ _ kt1 hbm fun t2 g2 => ?_
      try simp only [nd_]
      refine c_isNone (m := andM m isSilt) fun t3 g3 => ?_
      try simp only [nd_]
      have hz1' : s2.size ≤ t.size := kt.1
      have g13 : Ext t t3 := (g1.trans g2).trans g3
      have kt3 : Kp (fun b => b = s1.size ∨ b = s.size) s2 t3 := (kt1.ext g2).ext g3
      have hJ : ∀ c' : Nat, c' < 16 → c' = (if noneM (andM m isSilt) = true then c else c ||| 2 ^ 2) → J_soil_ground_classes_0 W (endK K E) t.size ⟨s.size, 0, none⟩ (c' : Nat) 3 x1 y1 1 x2 y2 2 x3 y3 (fun vs => N_soil_ground_classes_0 (fun n k t => ∃ (q c : Nat) (m : Mx), k = q ∧ n = c ∧ q ≤ 3 ∧ c < 16 ∧ BmM m ∧ classP (restK q) m c = classP kindsP ms[i] 0 ∧ Kp (· = s.size) s2 t ∧ MxO t ⟨s.size, 0, none⟩ m) (fun _ k _ => (3 - k).toNat) (c : Int) ((2 : Nat) : Int) t vs) ((2 : Nat) : Int) t3 := by
        intro c' hc' hce
        unfold J_soil_ground_classes_0
        refine ⟨_, (g3.own (g2.own p3)).cell, ?_⟩
        refine ⟨_, (g13.own m1).cell, ⟨_, (g13.own m2).cell, ⟨_, (g13.own m3).cell, ⟨_, (g13.own m4).cell, ⟨_, (g13.own m5).cell, ⟨_, (g13.own m6).cell, ?_⟩⟩⟩⟩⟩⟩
        refine j3.2 t3 m _ _ kt3 hbm fun t4 g4 => ?_
        try simp only [nd_]
        have g14 := g13.trans g4
        refine outk6 (B := s.size) (g14.own m1) (g14.own m2) (g14.own m3) (g14.own m4) (g14.own m5) (g14.own m6) rfl rfl rfl rfl rfl rfl fun t5 k5 q1 q2 q3 q4 q5 q6 => ?_
        refine ⟨_, q1.cell, ⟨_, q2.cell, ⟨_, q3.cell, ⟨_, q4.cell, ⟨_, q5.cell, ⟨_, q6.cell, ?_⟩⟩⟩⟩⟩⟩
        refine c_isNone (m := andM m noSilt) fun t6 g6 => ?_
        try simp only [nd_]
        have k6 : Kp (· = s.size) s2 t6 := ((kt.ext g14).trans k5).ext g6
        have hstep : classP (restK 2) m c = if noneM (andM m noSilt) = true then c' else classP (restK (2 + 1)) (andM m noSilt) c' := by rw [hce]; rfl
        refine BR_bool (fun hn => ?_) (fun hn => ?_)
        · rw [hcl, if_pos hn] at hstep
          rw [← hstep]
          exact h t6 (kp_nil (f1.trans f2) (fun b hb => by have : b = s.size := hb; omega) k6)
        · try simp only [nd_]
          rw [hcl, if_neg (by rw [hn]; decide)] at hstep
          refine ⟨_, _, rfl, ⟨2 + 1, c', andM m noSilt, by decide, rfl, by decide, hc', bmm_and hbm kb.2.2, hstep.symm, k6, ⟨g6.own q1, g6.own q2, g6.own q3, g6.own q4, g6.own q5, g6.own q6⟩⟩, ?_⟩
          show ((3 : Int) - IntKind.i64.wrap (((2 : Nat) : Int) + 1)).toNat < ((3 : Int) - ((2 : Nat) : Int)).toNat
          decide
      refine BR_not (fun hn => ?_) (fun hn => ?_)
      · refine ⟨_, ((g2.trans g3).own p1).cell, ?_⟩
        refine NNI_of (by decide) ?_
        have := orv_pow (k := 2) hc (by decide)
        have e : ((2 : Nat) : Int) = 2 := rfl
        rw [e] at this
        rw [this]
        exact hJ _ (or_lt hc (by decide)) (by rw [if_neg (by rw [hn]; decide)])
      · exact hJ c hc (by rw [if_pos hn])
  · have hq3 : q = 3 := by omega
    subst hq3
    have hv : classP (restK 3) m c = c ||| 1 := rfl
    rw [orv_one hc, ← hv, hcl]
    exact h t (kp_nil (f1.trans f2) (fun b hb => by have : b = s.size := hb; omega) kt)
end
open Go.V
theorem zc_30 : zc Pg 30 = [.int .i64 0, .int .i64 0, .int .i64 0, .int .i64 0, .int .i64 0, .int .i64 0, .int .i64 0, .int .i64 0, .int .i64 0] := by kernel_rfl
theorem zc_62 : zc Pg 62 = [.nilFunc] := by kernel_rfl
theorem told_vc_none (W : World) (a : Addr) (K : Hp → Prop) : vc Pg W 15 [15] (fun _ => {}) false (sub (bodyOf Tryz.f15) [1]) 0 (Kdone 15 K) (updo 15 (some 5) .nilIface (Go.V.start [.pointer (some a)] 0)) = (fun s => undef = undef ∧ K s) := by kernel_rfl
theorem told_ok_fn : callable Pg 15 = true := by kernel_rfl
theorem told_code : codeOk 15 (sub (bodyOf Tryz.f15) [1]) = true := by kernel_rfl
theorem told_nr : hasR (sub (bodyOf Tryz.f15) [1]) = false := by kernel_rfl
theorem told_none {W : World} {K : Hp → Prop} {s : Hp} {a : Addr} (h : K s) : DoesD Pg W 15 [.pointer (some a)] none s K := by
  refine told_ok (id := 0) (ty := 20) (pos := "soil.go:23") (d := 5) (an := fun _ => {}) (c := sub (bodyOf Tryz.f15) [1]) (v := .nilIface) Tryz.func15 told_ok_fn (by kernel_rfl) told_code told_nr rfl (show 1 ≤ 15 by decide) (.inl ⟨rfl, rfl⟩) ?_
  show vc Pg W 15 [15] _ false _ 0 (Kdone 15 K) (updo 15 (some 5) .nilIface (Go.V.start [.pointer (some a)] 0)) s
  rw [told_vc_none]
  exact ⟨rfl, h⟩
theorem def_none {W : World} {K : Hp → Prop} {s : Hp} {a : Addr} (h : K s) : DEF Pg W (.tuple #[.func (.func 15) #[] #[], .tuple #[.pointer (some a)]]) none K s := told_none h
structure PitC (s : Hp) (a : Addr) (p : PitP) : Prop where
  c0 : cellAt s (a.add 0) = some (.int .i64 p.pos)
  c1 : cellAt s (a.add 1) = some (.int .i64 p.hard.1)
  c2 : cellAt s (a.add 2) = some (.int .i64 p.hard.2)
  c3 : cellAt s (a.add 3) = some (.int .i64 p.mix.sand.1)
  c4 : cellAt s (a.add 4) = some (.int .i64 p.mix.sand.2)
  c5 : cellAt s (a.add 5) = some (.int .i64 p.mix.silt.1)
  c6 : cellAt s (a.add 6) = some (.int .i64 p.mix.silt.2)
  c7 : cellAt s (a.add 7) = some (.int .i64 p.mix.clay.1)
  c8 : cellAt s (a.add 8) = some (.int .i64 p.mix.clay.2)
theorem PitC.ext {s s' : Hp} {a : Addr} {p : PitP} (h : PitC s a p) (e : Ext s s') : PitC s' a p := ⟨e.cell h.c0, e.cell h.c1, e.cell h.c2, e.cell h.c3, e.cell h.c4, e.cell h.c5, e.cell h.c6, e.cell h.c7, e.cell h.c8⟩
def PitR (s : Hp) (x : Option Addr) (ps : List PitP) : Prop := ∀ i (h : i < ps.length), ∃ a, x = some a ∧ PitC s (a.add (i * 9)) ps[i]
theorem PitR.ext {s s' : Hp} {x : Option Addr} {ps : List PitP} (h : PitR s x ps) (e : Ext s s') : PitR s' x ps := fun i hi => by
  obtain ⟨a, ha, hc⟩ := h i hi
  exact ⟨a, ha, hc.ext e⟩
structure SpOk (s : Sp) (high : Int) : Prop where
  l : 0 ≤ s.1
  m : s.1 ≤ s.2
  h : s.2 ≤ high
structure PitOk (p : PitP) : Prop where
  hard : SpOk p.hard 1000
  sand : SpOk p.mix.sand 20
  silt : SpOk p.mix.silt 20
  clay : SpOk p.mix.clay 20
def befP (ps : List PitP) (i : Nat) : Int := if h : 0 < i ∧ i ≤ ps.length then (ps[i - 1]'(by omega)).pos else -1
structure GrOk (g : GrP) : Prop where
  long : g.long ≤ 40
  r0 : 0 ≤ g.rise
  r1 : g.rise ≤ 1000
  c0 : 0 ≤ g.change
  c1 : g.change ≤ 20
  n8 : g.pits.length ≤ 8
  pit : ∀ p ∈ g.pits, PitOk p
  ord : ∀ i (h : i < g.pits.length), befP g.pits i < g.pits[i].pos ∧ g.pits[i].pos ≤ g.long
theorem bef_lo {g : GrP} (h : GrOk g) : ∀ i, i ≤ g.pits.length → -1 ≤ befP g.pits i
  | 0, _ => by unfold befP; rw [dif_neg (by omega)]; omega
  | i + 1, hi => by
    have ih := bef_lo h i (by omega)
    have := (h.ord i (by omega)).1
    unfold befP
    rw [dif_pos ⟨by omega, hi⟩]
    show -1 ≤ g.pits[i].pos
    omega
theorem GrOk.pos {g : GrP} (h : GrOk g) (i : Nat) (hi : i < g.pits.length) : 0 ≤ g.pits[i].pos ∧ g.pits[i].pos ≤ g.long := by
  have := bef_lo h i (by omega)
  have := h.ord i hi
  omega
abbrev grV (g : GrP) (x : Option Addr) (c : Nat) : Value := .agg #[.int .i64 g.long, .int .i64 g.rise, .int .i64 g.change, .slice x g.pits.length c]
section
variable {W : World} {K : VK} {E : List PanicEntry → Hp → Prop} {s : Hp}
theorem so_isSpan {a : Sp} {n : Int} (ho : SpOk a n) (h : ∀ s', Ext s s' → K (.bool true) s') : CALL Pg W F_soil_isSpan [spV a, .int .i64 n] K E s := by
  obtain ⟨h1, h2, h3⟩ := ho
  refine does_soil_isSpan W _ _ _ _ s ?_
  unfold T_soil_isSpan
  refine ne2 fun s1 e1 z1 o1 o2 => ⟨_, o1.cell, ?_⟩
  refine BR_dec (fun _ => ⟨_, o1.cell, ⟨_, o2.cell, ?_⟩⟩) (fun h => absurd h1 h)
  refine BR_dec (fun _ => ⟨_, o2.cell, ?_⟩) (fun h => absurd h2 h)
  have hh := h s1 e1
  rw [← decide_eq_true h3] at hh
  exact hh
theorem c_isGround {g : GrP} {x : Option Addr} {c : Nat} (hg : GrOk g) (hp : PitR s x g.pits) (h : ∀ s', Ext s s' → K (.bool true) s') : CALL Pg W F_soil_isGround [grV g x c] K E s := by
  refine does_soil_isGround W _ _ _ x _ c _ s ?_
  unfold T_soil_isGround
  have g40 := hg.long
  refine ne4 fun s1 f1 z1 o1 o2 o3 o4 => ?_
  (repeat ((with_reducible first | apply RDI_c | apply RDL_c | apply RDB_c | apply RDP_c | apply RDM_c | apply RDS_c | apply RDV_c); focus ((repeat (first | assumption | exact Own.cell (by assumption) | apply Ext.cell (by assumption))); done)))
  refine so_within ?_
  try simp only [nd_]
  rw [decide_eq_true (show (0 : Int) ≤ (g.long : Int) ∧ (g.long : Int) ≤ 40 by omega)]
  refine BR_not (fun h => by cases h) (fun _ => ?_)
  (repeat ((with_reducible first | apply RDI_c | apply RDL_c | apply RDB_c | apply RDP_c | apply RDM_c | apply RDS_c | apply RDV_c); focus ((repeat (first | assumption | exact Own.cell (by assumption) | apply Ext.cell (by assumption))); done)))
  refine so_within ?_
  try simp only [nd_]
  rw [decide_eq_true (show (0 : Int) ≤ g.rise ∧ g.rise ≤ 1000 from ⟨hg.r0, hg.r1⟩)]
  unfold J_soil_isGround_2
  refine BR_bool (fun h => by cases h) (fun _ => ?_)
  (repeat ((with_reducible first | apply RDI_c | apply RDL_c | apply RDB_c | apply RDP_c | apply RDM_c | apply RDS_c | apply RDV_c); focus ((repeat (first | assumption | exact Own.cell (by assumption) | apply Ext.cell (by assumption))); done)))
  refine so_within ?_
  try simp only [nd_]
  rw [decide_eq_true (show (0 : Int) ≤ g.change ∧ g.change ≤ 20 from ⟨hg.c0, hg.c1⟩)]
  unfold J_soil_isGround_1
  refine BR_bool (fun h => by cases h) (fun _ => ?_)
  (repeat ((with_reducible first | apply RDI_c | apply RDL_c | apply RDB_c | apply RDP_c | apply RDM_c | apply RDS_c | apply RDV_c); focus ((repeat (first | assumption | exact Own.cell (by assumption) | apply Ext.cell (by assumption))); done)))
  have n8 := hg.n8
  try dsimp only
  rw [decide_eq_false (show ¬ ((g.pits.length : Int) > 8) by omega)]
  unfold J_soil_isGround_0
  refine BR_bool (fun h => by cases h) (fun _ => ?_)
  (repeat ((with_reducible first | apply RDI_c | apply RDL_c | apply RDB_c | apply RDP_c | apply RDM_c | apply RDS_c | apply RDV_c); focus ((repeat (first | assumption | exact Own.cell (by assumption) | apply Ext.cell (by assumption))); done)))
  refine L_soil_isGround_0_rule W _ ⟨s.size, 0, none⟩ x _ c _ (fun b n k t => Ext s1 t ∧ ∃ q : Nat, k = q ∧ q ≤ g.pits.length ∧ n = befP g.pits q) (fun _ _ k _ => ((g.pits.length : Int) - k).toNat) false (-1) 0 s1 ⟨Ext.refl _, 0, rfl, by omega, rfl⟩ ?_
  rintro b n k t ⟨et, q, rfl, hq, rfl⟩
  unfold B_soil_isGround_0
  refine BR_dec (fun hlt => ?_) (fun hge => h t (f1.trans et))
  have hql : q < g.pits.length := by omega
  obtain ⟨a, rfl, hc⟩ := (hp.ext (f1.trans et)) q hql
  obtain ⟨c0, c1, c2, c3, c4, c5, c6, c7, c8⟩ := hc
  refine IXS_nat hql ⟨_, c0, ⟨_, c1, ⟨_, c2, ⟨_, c3, ⟨_, c4, ⟨_, c5, ⟨_, c6, ⟨_, c7, ⟨_, c8, ?_⟩⟩⟩⟩⟩⟩⟩⟩⟩
  refine nw9 zc_30 rfl rfl rfl rfl rfl rfl rfl rfl rfl fun t1 g1 w1 p0 p1 p2 p3 p4 p5 p6 p7 p8 => ?_
  have hpo := hg.pit _ (List.getElem_mem hql)
  have hor := hg.ord q hql
  have hbl := bef_lo hg q (by omega)
  refine ⟨_, p0.cell, ⟨_, ((et.trans g1).own o1).cell, ?_⟩⟩
  refine so_within ?_
  try simp only [nd_]
  rw [wrap_i64 (by omega) (by omega), decide_eq_true (show befP g.pits q + 1 ≤ g.pits[q].pos ∧ g.pits[q].pos ≤ (g.long : Int) by omega)]
  refine BR_not (fun h => by cases h) (fun _ => ?_)
  refine ⟨_, p1.cell, ⟨_, p2.cell, ?_⟩⟩
  refine so_isSpan hpo.hard fun t2 g2 => ?_
  try simp only [nd_]
  unfold J_soil_isGround_6
  refine BR_bool (fun h => by cases h) (fun _ => ?_)
  refine ⟨_, (g2.own p3).cell, ⟨_, (g2.own p4).cell, ?_⟩⟩
  refine so_isSpan hpo.sand fun t3 g3 => ?_
  try simp only [nd_]
  unfold J_soil_isGround_5
  refine BR_bool (fun h => by cases h) (fun _ => ?_)
  refine ⟨_, (g3.own (g2.own p5)).cell, ⟨_, (g3.own (g2.own p6)).cell, ?_⟩⟩
  refine so_isSpan hpo.silt fun t4 g4 => ?_
  try simp only [nd_]
  unfold J_soil_isGround_4
  refine BR_bool (fun h => by cases h) (fun _ => ?_)
  refine ⟨_, (g4.own (g3.own (g2.own p7))).cell, ⟨_, (g4.own (g3.own (g2.own p8))).cell, ?_⟩⟩
  refine so_isSpan hpo.clay fun t5 g5 => ?_
  try simp only [nd_]
  unfold J_soil_isGround_3
  refine BR_bool (fun h => by cases h) (fun _ => ?_)
  refine ⟨_, (g5.own (g4.own (g3.own (g2.own p0)))).cell, ?_⟩
  try simp only [nd_]
  refine ⟨_, _, _, rfl, ⟨((((et.trans g1).trans g2).trans g3).trans g4).trans g5, q + 1, wrap_succ (by omega), hql, ?_⟩, ?_⟩
  · unfold befP
    rw [dif_pos ⟨by omega, hql⟩]; rfl
  · exact ms_succ hql (by omega)
theorem c_isPlace {g : GrP} {x : Option Addr} {c : Nat} (h : ∀ s' b, Ext s s' → cellAt s' ⟨b, 0, none⟩ = some (.int .i64 g.long) → b < s'.size → K (.func (.func 41) #[] #[.pointer (some ⟨b, 0, none⟩)]) s') : CALL Pg W F_soil_isPlace [grV g x c] K E s := by
  refine does_soil_isPlace W _ _ _ x _ c _ s ?_
  unfold T_soil_isPlace
  refine ne4 fun s1 f1 z1 o1 o2 o3 o4 => ?_
  exact h s1 s.size f1 o1.cell o1.lt
theorem c_place {a : Addr} {L : Nat} {k : Nat} (ha : cellAt s a = some (.int .i64 L)) (hk : k ≤ L) (h : K (.bool true) s) : CALLV Pg W (.func (.func 41) #[] #[.pointer (some a)]) [.int .i64 (k : Nat)] K E s := by
  refine CALLV_func ?_
  refine does_soil_isPlace_c1 W _ a _ s ?_
  unfold T_soil_isPlace_c1
  refine ⟨_, ha, ?_⟩
  refine so_within ?_
  try simp only [nd_]
  rw [decide_eq_true (show (0 : Int) ≤ (k : Int) ∧ (k : Int) ≤ (L : Int) by omega)]
  exact h
theorem c_limit {n m : Int} (h : ∀ s', Ext s s' → K (spV (0, 1000)) s') : CALL Pg W F_soil_limit_hard [.agg #[], .int .i64 n, .int .i64 m] K E s := by
  refine does_soil_limit_hard W n m _ s ?_
  unfold T_soil_limit_hard
  refine NEW_rule fun s1 f1 z1 _ _ => ?_
  refine nw2 zc_27 rfl rfl fun s2 f2 z2 o1 o2 => ?_
  (repeat ((with_reducible first | apply RDI_c | apply RDL_c | apply RDB_c | apply RDP_c | apply RDM_c | apply RDS_c | apply RDV_c); focus ((repeat (first | assumption | exact Own.cell (by assumption) | apply Ext.cell (by assumption))); done)))
  exact h s2 (f1.trans f2)
theorem c_dug {p : PitP} {k : Nat} {rise : Int} (hk : k ≤ 40) (hp0 : 0 ≤ p.pos) (hp1 : p.pos ≤ 40) (hr0 : 0 ≤ rise) (hr1 : rise ≤ 1000) (ho : SpOk p.hard 1000) (h : ∀ s', Ext s s' → K (spV (hardAt p k rise)) s') :
    CALL Pg W F_soil_dug_hard [.agg #[.int .i64 p.pos, .int .i64 p.hard.1, .int .i64 p.hard.2, .int .i64 p.mix.sand.1, .int .i64 p.mix.sand.2, .int .i64 p.mix.silt.1, .int .i64 p.mix.silt.2, .int .i64 p.mix.clay.1, .int .i64 p.mix.clay.2], .int .i64 (k : Nat), .int .i64 rise] K E s := by
  obtain ⟨h1, h2, h3⟩ := ho
  refine does_soil_dug_hard W _ _ _ _ _ _ _ _ _ _ _ _ s ?_
  unfold T_soil_dug_hard
  refine ne9 fun s1 f1 z1 o1 o2 o3 o4 o5 o6 o7 o8 o9 => nz2 zc_27 fun s2 f2 z2 q1 q2 => ?_
  have hz1 : s1.size = s.size + 1 := z1
  (repeat ((with_reducible first | apply RDI_c | apply RDL_c | apply RDB_c | apply RDP_c | apply RDM_c | apply RDS_c | apply RDV_c); focus ((repeat (first | assumption | exact Own.cell (by assumption) | apply Ext.cell (by assumption))); done)))
  try dsimp only
  have e1 : (if IntKind.i64.wrap (p.pos - (k : Int)) > IntKind.i64.wrap ((k : Int) - p.pos) then IntKind.i64.wrap (p.pos - (k : Int)) else IntKind.i64.wrap ((k : Int) - p.pos)) = max ((k : Int) - p.pos) (p.pos - (k : Int)) := by
    rw [wrap_i64 (n := p.pos - (k : Int)) (by omega) (by omega), wrap_i64 (n := (k : Int) - p.pos) (by omega) (by omega)]
    split <;> omega
  rw [e1]
  have hm : 0 ≤ max ((k : Int) - p.pos) (p.pos - (k : Int)) ∧ max ((k : Int) - p.pos) (p.pos - (k : Int)) ≤ 40 := by omega
  have hf : 0 ≤ max ((k : Int) - p.pos) (p.pos - (k : Int)) * rise ∧ max ((k : Int) - p.pos) (p.pos - (k : Int)) * rise ≤ 40 * 1000 := ⟨Int.mul_nonneg hm.1 hr0, Int.mul_le_mul hm.2 hr1 hr0 (by omega)⟩
  have hv : hardAt p k rise = (p.hard.1 - max ((k : Int) - p.pos) (p.pos - (k : Int)) * rise, p.hard.2 + max ((k : Int) - p.pos) (p.pos - (k : Int)) * rise) := rfl
  rw [hv] at h
  generalize max ((k : Int) - p.pos) (p.pos - (k : Int)) * rise = far at *
  rw [wrap_i64 (n := far) (by omega) (by omega), wrap_i64 (n := p.hard.1 - far) (by omega) (by omega), wrap_i64 (n := p.hard.2 + far) (by omega) (by omega)]
  refine out2 (s0 := s) (by repeat (first | exact Ext.refl _ | assumption | refine Ext.trans ?_ (by assumption))) (by omega) (by (repeat (first | assumption | apply Ext.own (by assumption)))) (by (repeat (first | assumption | apply Ext.own (by assumption)))) rfl rfl fun t e r1 r2 => ?_
  (repeat ((with_reducible first | apply RDI_c | apply RDL_c | apply RDB_c | apply RDP_c | apply RDM_c | apply RDS_c | apply RDV_c); focus ((repeat (first | assumption | exact Own.cell (by assumption) | apply Ext.cell (by assumption))); done)))
  exact h t e
end
open Go.V
theorem und_3 : Pg.underlying 3 = some (.int .i64) := by kernel_rfl
theorem und_155 : ∃ e, Pg.underlying 155 = some (.map 3 e) ∧ ∀ (K : Value → Hp → Prop) (E : Value → Hp → Prop) (s : Hp), sp Pg (zeroValue e) K E s = K (.agg #[.int .i64 0, .int .i64 0, .int .i64 0, .int .i64 0, .int .i64 0, .int .i64 0]) s := ⟨104, by kernel_rfl, fun K E s => by kernel_rfl⟩
theorem check_int (b : Bool) (m : Int) (K : Unit → Hp → Prop) (E : Value → Hp → Prop) (s : Hp) : sp Pg (Instr.checkKey b 10000 3 (.int .i64 m)) K E s = K () s := by kernel_rfl
def kv (x : Int × Value) : Value × Value := (.int .i64 x.1, x.2)
def findV (k : Int) : List (Int × Value) → Nat → Option (Nat × Value)
  | [], _ => none
  | x :: r, i => if k = x.1 then some (i, x.2) else findV k r (i + 1)
def lookV (l : List (Int × Value)) (k : Int) : Option Value := (findV k l 0).map (·.2)
theorem findV_shift {k : Int} : ∀ (l : List (Int × Value)) (i : Nat), (findV k l i).map (·.2) = (findV k l 0).map (·.2)
  | [], _ => rfl
  | x :: r, i => by
    unfold findV
    by_cases h : k = x.1
    · rw [if_pos h, if_pos h]; rfl
    · rw [if_neg h, if_neg h, findV_shift r (i + 1), findV_shift r (0 + 1)]
theorem lookV_cons (x : Int × Value) (r : List (Int × Value)) (k : Int) : lookV (x :: r) k = if k = x.1 then some x.2 else lookV r k := by
  unfold lookV
  conv => lhs; unfold findV
  by_cases h : k = x.1
  · rw [if_pos h, if_pos h]; rfl
  · rw [if_neg h, if_neg h, findV_shift]
theorem findV_some {k : Int} : ∀ (l : List (Int × Value)) (i j : Nat) (v : Value), findV k l i = some (j, v) → ∃ n, j = i + n ∧ n < l.length ∧ l[n]? = some (k, v) ∧ ∀ w k', lookV (l.set n (k, w)) k' = if k' = k then some w else lookV l k'
  | [], _, _, _, h => by cases h
  | x :: r, i, j, v, h => by
    unfold findV at h
    by_cases he : k = x.1
    · rw [if_pos he] at h
      cases h
      refine ⟨0, rfl, by simp, by rw [he]; rfl, fun w k' => ?_⟩
      rw [List.set_cons_zero, lookV_cons, lookV_cons, ← he]
      by_cases h2 : k' = k
      · rw [if_pos h2, if_pos h2]
      · rw [if_neg h2, if_neg h2, if_neg h2]
    · rw [if_neg he] at h
      obtain ⟨n, h1, h2, h3, h4⟩ := findV_some r (i + 1) j v h
      refine ⟨n + 1, by omega, by simp; omega, by simpa using h3, fun w k' => ?_⟩
      rw [List.set_cons_succ, lookV_cons, lookV_cons, h4]
      by_cases h5 : k' = x.1
      · rw [if_pos h5, if_pos h5, if_neg (fun e => he (e.symm.trans h5))]
      · rw [if_neg h5, if_neg h5]
theorem findV_none {k : Int} : ∀ (l : List (Int × Value)) (i : Nat), findV k l i = none → ∀ w k', lookV (l ++ [(k, w)]) k' = if k' = k then some w else lookV l k'
  | [], _, _, w, k' => by
    rw [List.nil_append, lookV_cons]
  | x :: r, i, h, w, k' => by
    unfold findV at h
    by_cases he : k = x.1
    · rw [if_pos he] at h; cases h
    · rw [if_neg he] at h
      rw [List.cons_append, lookV_cons, lookV_cons, findV_none r (i + 1) h w k']
      by_cases h5 : k' = x.1
      · rw [if_pos h5, if_pos h5, if_neg (fun e => he (e.symm.trans h5))]
      · rw [if_neg h5, if_neg h5]
theorem find_now {k : Int} : ∀ (l : List (Int × Value)) (es : List MapEntry) (i : Nat), es.map (fun e => (e.key, e.val)) = l.map kv → Instr.findNow (.int .i64) (.int .i64 k) es i = some (findV k l i)
  | [], [], _, _ => rfl
  | [], e :: es, _, h => by simp at h
  | x :: l, [], _, h => by simp at h
  | x :: l, e :: es, i, h => by
    simp only [List.map_cons, List.cons.injEq, kv, Prod.mk.injEq] at h
    obtain ⟨⟨h1, h2⟩, h3⟩ := h
    unfold Instr.findNow findV
    rw [h1]
    show (match (if IntKind.i64 = IntKind.i64 then some (k == x.1) else none) with | some true => _ | some false => _ | none => _) = _
    rw [if_pos rfl]
    by_cases he : k = x.1
    · have hb : (k == x.1) = true := by simpa using he
      rw [hb, if_pos he, h2]
    · have hb : (k == x.1) = false := by simpa using he
      rw [hb, if_neg he]
      exact find_now l es (i + 1) h3
theorem find_key {k : Int} {K : Option (Nat × Value) → Hp → Prop} {E : Value → Hp → Prop} {s : Hp} {l : List (Int × Value)} {es : Array MapEntry} (h : es.toList.map (fun e => (e.key, e.val)) = l.map kv) (hk : K (findV k l 0) s) : sp Pg (Instr.findKey 3 (.int .i64 k) es.toList) K E s := by
  unfold Instr.findKey
  rw [sp_bind, sp_und und_3, find_now l es.toList 0 h]
  exact hk
theorem same_int {k : Int} : Instr.sameBits 10000 (.int .i64 k) (.int .i64 k) = true := by simp [Instr.sameBits]
theorem setO_get {s : Hp} {r : Nat} {o o' : Obj} (h : s[r]? = some o') : (s.setIfInBounds r o)[r]? = some o := by
  have := (Array.getElem?_eq_some_iff.1 h).1
  rw [Array.getElem?_setIfInBounds]
  simp [this]
theorem setO_kp {s : Hp} {r : Nat} {o : Obj} : Kp (· = r) s (s.setIfInBounds r o) := ⟨by simp, fun b _ hb => Array.getElem?_setIfInBounds_ne (fun e => hb e.symm)⟩
def MapI (s : Hp) (r : Nat) (g : Int → Option Value) : Prop := ∃ es cl l, s[r]? = some (.map es cl) ∧ es.toList.map (fun e => (e.key, e.val)) = l.map kv ∧ ∀ k, lookV l k = g k
def updI (g : Int → Option Value) (k : Int) (v : Value) : Int → Option Value := fun k' => if k' = k then some v else g k'
section
variable {s s' : Hp} {r : Nat} {g : Int → Option Value}
theorem MapI.lt (h : MapI s r g) : r < s.size := by
  obtain ⟨es, cl, l, h1, _⟩ := h
  exact (Array.getElem?_eq_some_iff.1 h1).1
theorem MapI.ext (e : Ext s s') (h : MapI s r g) : MapI s' r g := by
  have hl := h.lt
  obtain ⟨es, cl, l, h1, h2⟩ := h
  exact ⟨es, cl, l, by rw [e.2 _ hl]; exact h1, h2⟩
theorem MapI.kp {D : Nat → Prop} (e : Kp D s s') (hd : ¬ D r) (h : MapI s r g) : MapI s' r g := by
  have hl := h.lt
  obtain ⟨es, cl, l, h1, h2⟩ := h
  exact ⟨es, cl, l, by rw [e.2 _ hl hd]; exact h1, h2⟩
theorem MapI.blind : Blind (fun s => MapI s r g) := fun s l o hl ho h => by
  obtain ⟨es, cl, l', h1, h2⟩ := h
  refine ⟨es, cl, l', ?_, h2⟩
  by_cases e : l = r
  · subst e
    have := setO_get (o := junk) hl
    rw [this] at h1; cases h1
  · rw [← h1]; exact (Array.getElem?_setIfInBounds_ne e).symm
theorem MapI.cell {a : Addr} {v : Value} (h : MapI s r g) (hc : cellAt s a = some v) : a.block ≠ r := fun e => by
  obtain ⟨c, t, f, hb⟩ := block_of_cell hc
  obtain ⟨es, cl, l, h1, _⟩ := h
  rw [e, h1] at hb
  cases hb
theorem MKM_rule {K : Nat → Hp → Prop} (h : ∀ s', Ext s s' → s'.size = s.size + 1 → MapI s' s.size (fun _ => none) → K s.size s') : MKM K s :=
  h _ (Ext.push (Ext.refl s)) (by simp) ⟨#[], 0, [], by simp, rfl, fun _ => rfl⟩
theorem LKP_v {t e : TypeId} {z : Value} {k : Int} {ok : Bool} {K : VK} (ht : Pg.underlying t = some (.map 3 e)) (hz : ∀ (K : Value → Hp → Prop) (E : Value → Hp → Prop) (s : Hp), sp Pg (zeroValue e) K E s = K z s) (h : MapI s r g)
    (h1 : ∀ v, g k = some v → K (match ok with | true => .tuple #[v, .bool true] | false => v) s) (h2 : g k = none → K (match ok with | true => .tuple #[z, .bool false] | false => z) s) : LKP Pg t (.map (some r)) (.int .i64 k) ok K s := by
  obtain ⟨es, cl, l, hs, ha, hg⟩ := h
  unfold LKP Instr.lookup
  rw [sp_bind, sp_und ht]
  simp only [sp_bind]
  refine ⟨_, hs, rfl, rfl, ?_⟩
  show sp Pg (Sem.pure (Obj.map es cl)) _ _ s
  simp only [sp, sp_bind, sp_pure]
  rw [check_int]
  refine find_key ha ?_
  have hk := hg k
  unfold lookV at hk
  cases hf : findV k l 0 with
  | some x =>
    rw [hf] at hk
    have := h1 x.2 (by rw [← hk]; rfl)
    cases ok <;> exact this
  | none =>
    rw [hf] at hk
    have := h2 (by rw [← hk]; rfl)
    simp only [sp_bind]
    rw [hz]
    cases ok <;> exact this
theorem MUP_v {t e : TypeId} {k : Int} {v : Value} {K : Hp → Prop} (ht : Pg.underlying t = some (.map 3 e)) (h : MapI s r g)
    (hk : ∀ s', Kp (· = r) s s' → s'.size = s.size → MapI s' r (updI g k v) → K s') : MUP Pg t (.map (some r)) (.int .i64 k) v K s := by
  obtain ⟨es, cl, l, hs, ha, hg⟩ := h
  unfold MUP Instr.mapUpdate
  rw [sp_bind, sp_und ht]
  simp only [sp_bind]
  refine ⟨_, hs, rfl, rfl, ?_⟩
  show sp Pg (Sem.pure (Obj.map es cl)) _ _ s
  simp only [sp, sp_bind]
  rw [check_int]
  refine find_key ha ?_
  have hlen : es.size = l.length := by have := congrArg List.length ha; simpa using this
  cases hf : findV k l 0 with
  | none =>
    refine ⟨⟨_, hs, rfl, rfl⟩, ?_⟩
    refine hk _ setO_kp (by simp) ⟨_, _, l ++ [(k, v)], setO_get hs, ?_, fun k' => ?_⟩
    · rw [Array.toList_push, List.map_append, List.map_append, ha]; rfl
    · rw [findV_none l 0 hf v k', hg]; rfl
  | some x =>
    obtain ⟨j, v0⟩ := x
    obtain ⟨n, hj, hn, hx, hset⟩ := findV_some l 0 j v0 hf
    have hjn : j = n := by omega
    subst hjn
    simp only [sp_bind]
    have hje : j < es.size := by omega
    have hkey : es[j].key = .int .i64 k := by
      have h2 : (es.toList.map (fun e => (e.key, e.val)))[j]? = (l.map kv)[j]? := by rw [ha]
      rw [List.getElem?_map, List.getElem?_map, hx] at h2
      rw [List.getElem?_eq_getElem (by simpa using hje)] at h2
      simp [kv] at h2
      exact h2.1
    have hold : (Option.map (fun x => x.key) es[j]?).getD (.int .i64 k) = .int .i64 k := by
      rw [Array.getElem?_eq_getElem hje]
      exact hkey
    rw [hold]
    unfold Instr.keyThatStays
    rw [if_pos same_int]
    simp only [sp_pure]
    refine ⟨⟨_, hs, rfl, rfl⟩, ?_⟩
    refine hk _ setO_kp (by simp) ⟨_, _, l.set j (k, v), setO_get hs, ?_, fun k' => ?_⟩
    · apply List.ext_getElem?
      intro i
      rw [List.getElem?_map, List.getElem?_map, Array.getElem?_toList, Array.getElem?_modify, List.getElem?_set]
      have h2 : (es.toList.map (fun e => (e.key, e.val)))[i]? = (l.map kv)[i]? := by rw [ha]
      rw [List.getElem?_map, List.getElem?_map, Array.getElem?_toList] at h2
      by_cases e : j = i
      · subst e
        rw [if_pos rfl, if_pos rfl, if_pos hn, Array.getElem?_eq_getElem hje]
        simp [kv, hkey]
      · rw [if_neg e, if_neg e]
        exact h2
    · rw [hset, hg]; rfl
end
open Go.V
theorem zc_4 : zc Pg 4 = [.bool false] := by kernel_rfl
theorem zc_60 : zc Pg 60 = [.pointer none] := by kernel_rfl
theorem zc_161 : zc Pg 161 = [.nilIface] := by kernel_rfl
theorem zc_154 : zc Pg 154 = [.slice none 0 0] := by kernel_rfl
theorem zc_155 : zc Pg 155 = [.map none] := by kernel_rfl
theorem mth_153 : mth Pg 153 "furrowworks/soil.hard" = some F_soil_limit_hard := by kernel_rfl
theorem mth_156 : mth Pg 156 "furrowworks/soil.hard" = some F_soil_dug_hard := by kernel_rfl
def limV : Value := .iface 153 (.agg #[])
def dugV (p : PitP) : Value := .iface 156 (.agg #[.int .i64 p.pos, .int .i64 p.hard.1, .int .i64 p.hard.2, .int .i64 p.mix.sand.1, .int .i64 p.mix.sand.2, .int .i64 p.mix.silt.1, .int .i64 p.mix.silt.2, .int .i64 p.mix.clay.1, .int .i64 p.mix.clay.2])
def telV (ps : List PitP) : List Value := limV :: ps.map dugV
structure LkI (t : Hp) (g : GrP) (B7 Bp Bg Bh Bm : Nat) : Prop where
  r : cellAt t ⟨B7, 1, none⟩ = some (.int .i64 g.rise)
  c : cellAt t ⟨B7, 2, none⟩ = some (.int .i64 g.change)
  pp : cellAt t ⟨Bp, 0, none⟩ = some (.pointer (some ⟨Bg, 0, none⟩))
  l0 : cellAt t ⟨Bg, 0, none⟩ = some (.int .i64 g.long)
  l4 : cellAt t ⟨Bg, 4, none⟩ = some (.slice (some ⟨Bh, 0, none⟩) (g.long + 1) (g.long + 1))
  l5 : cellAt t ⟨Bg, 5, none⟩ = some (.slice (some ⟨Bm, 0, none⟩) (g.long + 1) (g.long + 1))
theorem LkI.kp {D : Nat → Prop} {t t' : Hp} {g : GrP} {B7 Bp Bg Bh Bm : Nat} (h : LkI t g B7 Bp Bg Bh Bm) (k : Kp D t t') (h7 : ¬ D B7) (hp : ¬ D Bp) (hg : ¬ D Bg) : LkI t' g B7 Bp Bg Bh Bm :=
  ⟨k.cell h7 h.r, k.cell h7 h.c, k.cell hp h.pp, k.cell hg h.l0, k.cell hg h.l4, k.cell hg h.l5⟩
theorem LkI.ext {t t' : Hp} {g : GrP} {B7 Bp Bg Bh Bm : Nat} (h : LkI t g B7 Bp Bg Bh Bm) (e : Ext t t') : LkI t' g B7 Bp Bg Bh Bm := h.kp (D := fun _ => False) e.kp id id id
def tellP (ps : List PitP) (k : Nat) (rise : Int) : Nat → Sp
  | 0 => (0, 1000)
  | q + 1 => match ps[q]? with | some p => hardAt p k rise | none => (0, 0)
structure LkD (B7 Bp Bg Bh Bm : Nat) : Prop where
  a : B7 ≠ Bh
  b : B7 ≠ Bm
  c : Bp ≠ Bh
  d : Bp ≠ Bm
  e : Bg ≠ Bh
  f : Bg ≠ Bm
  h : Bh ≠ Bm
def pitMV (ps : List PitP) : Int → Option Value := fun k => (pitM ps k).map mxV
theorem pitM_snoc (ps : List PitP) (p : PitP) (k : Int) : pitM (ps ++ [p]) k = if k = p.pos then some p.mix else pitM ps k := by
  unfold pitM; rw [List.foldl_append]; rfl
theorem hardL_snoc (k rise : Int) (ps : List PitP) (p : PitP) : hardL k rise (ps ++ [p]) = bothS (hardL k rise ps) (hardAt p k rise) := by
  unfold hardL; rw [List.foldl_append]; rfl
theorem fold_all {Q : Mx → Prop} : ∀ (ps : List PitP) (f : Int → Option Mx), (∀ k m, f k = some m → Q m) → (∀ p ∈ ps, Q p.mix) → ∀ k m, ps.foldl (fun f p k => if k = p.pos then some p.mix else f k) f k = some m → Q m
  | [], f, hf, _, k, m, h => hf k m h
  | p :: ps, f, hf, hp, k, m, h => by
    refine fold_all ps _ (fun k m hk => ?_) (fun q hq => hp q (List.mem_cons_of_mem _ hq)) k m h
    dsimp only at hk
    by_cases e : k = p.pos
    · rw [if_pos e] at hk; cases hk; exact hp p (by simp)
    · rw [if_neg e] at hk; exact hf k m hk
theorem pitM_all {Q : Mx → Prop} {ps : List PitP} (hp : ∀ p ∈ ps, Q p.mix) {k : Int} {m : Mx} (h : pitM ps k = some m) : Q m := fold_all ps _ (fun _ _ h => by cases h) hp k m h
theorem PitOk.bm {p : PitP} (h : PitOk p) : BmM p.mix := by
  have f : ∀ {x : Sp}, SpOk x 20 → BmS x := fun hx => by obtain ⟨a, b, c⟩ := hx; exact ⟨by omega, by omega, by omega, by omega⟩
  exact ⟨f h.sand, f h.silt, f h.clay⟩
def preL {α : Type} (f : Nat → α) (z : α) (n k : Nat) : List α := (List.range k).map f ++ List.replicate (n - k) z
theorem preL_len {α : Type} {f : Nat → α} {z : α} {n k : Nat} (h : k ≤ n) : (preL f z n k).length = n := by unfold preL; simp; omega
theorem preL_set {α : Type} {f : Nat → α} {z : α} {n k : Nat} (h : k < n) : (preL f z n k).set k (f k) = preL f z n (k + 1) := by
  unfold preL
  apply List.ext_getElem?
  intro i
  rw [List.getElem?_set]
  by_cases e : k = i
  · subst e
    rw [if_pos rfl, if_pos (by simp; omega), List.getElem?_append_left (by simp), List.getElem?_map, List.getElem?_range (by omega)]; rfl
  · rw [if_neg e]
    by_cases hlt : i < k
    · rw [List.getElem?_append_left (by simp; omega), List.getElem?_append_left (by simp; omega), List.getElem?_map, List.getElem?_map, List.getElem?_range hlt, List.getElem?_range (by omega)]
    · rw [List.getElem?_append_right (by simp; omega), List.getElem?_append_right (by simp; omega)]
      simp only [List.length_map, List.length_range, List.getElem?_replicate]
      by_cases h2 : i < n
      · rw [if_pos (by omega), if_pos (by omega)]
      · rw [if_neg (by omega), if_neg (by omega)]
theorem preL_full {α : Type} {f : Nat → α} {z : α} {n : Nat} : preL f z n n = (List.range n).map f := by unfold preL; simp
section
variable {W : World} {K : VK} {E : List PanicEntry → Hp → Prop} {s : Hp} {g : GrP} {B7 Bp Bg Bh Bm : Nat}
theorem inv_tell {ps : List PitP} (hps : ∀ p ∈ ps, PitOk p ∧ 0 ≤ p.pos ∧ p.pos ≤ 40) {q k : Nat} {rise : Int} (hk : k ≤ 40) (hr0 : 0 ≤ rise) (hr1 : rise ≤ 1000) (hq : q < (telV ps).length)
    (h : ∀ s', Ext s s' → K (spV (tellP ps k rise q)) s') : INV Pg W (telV ps)[q] "furrowworks/soil.hard" [.int .i64 (k : Nat), .int .i64 rise] K E s := by
  match q, hq with
  | 0, _ =>
    show INV Pg W limV _ _ _ _ s
    unfold limV INV
    simp only [mth_153]
    exact c_limit h
  | q + 1, hq =>
    have hql : q < ps.length := by simpa [telV] using hq
    have e : (telV ps)[q + 1] = dugV ps[q] := by simp [telV]
    rw [e]
    unfold dugV INV
    simp only [mth_156]
    have ho := hps _ (List.getElem_mem hql)
    unfold tellP at h
    simp only [List.getElem?_eq_getElem hql] at h
    exact c_dug hk ho.2.1 ho.2.2 hr0 hr1 ho.1.hard h
theorem both_top : bothS (0, 1000) (0, 1000) = (0, 1000) := by decide
end
open Go.V
structure TlI (t : Hp) (g : GrP) (B46 B48 Bt : Nat) : Prop where
  tl : ∃ x c, cellAt t ⟨B46, 0, none⟩ = some (.slice (some x) (g.pits.length + 1) c) ∧ RowAt t (some x) (telV g.pits)
  tm : cellAt t ⟨B48, 0, none⟩ = some (.map (some Bt))
  mp : MapI t Bt (pitMV g.pits)
theorem TlI.kp {D : Nat → Prop} {t t' : Hp} {g : GrP} {B46 B48 Bt : Nat} {lo : Nat} (h : TlI t g B46 B48 Bt) (hx : ∀ x l c, cellAt t ⟨B46, 0, none⟩ = some (.slice (some x) l c) → lo ≤ x.block) (k : Kp D t t') (hD : ∀ b, lo ≤ b → ¬ D b) (h1 : lo ≤ B46) (h2 : lo ≤ B48) (h3 : lo ≤ Bt) : TlI t' g B46 B48 Bt := by
  obtain ⟨⟨x, c, a1, a2⟩, a3, a4⟩ := h
  exact ⟨⟨x, c, k.cell (hD _ h1) a1, a2.keep k fun a ha => by cases ha; exact hD _ (hx _ _ _ a1)⟩, k.cell (hD _ h2) a3, a4.kp k (hD _ h3)⟩
structure TlD (t : Hp) (B46 B48 Bt lo : Nat) : Prop where
  x : ∀ x l c, cellAt t ⟨B46, 0, none⟩ = some (.slice (some x) l c) → lo ≤ x.block
  a : lo ≤ B46
  b : lo ≤ B48
  c : lo ≤ Bt
theorem tel_len (ps : List PitP) : (telV ps).length = ps.length + 1 := by simp [telV]
def hardQ (k rise : Int) (ps : List PitP) (q : Nat) : Sp := hardL k rise (ps.take (q - 1))
section
variable {W : World} {s : Hp} {g : GrP} {B7 Bp Bg Bh Bm B46 B48 Bt : Nat}
theorem GrOk.pits {g : GrP} (hg : GrOk g) : ∀ p ∈ g.pits, PitOk p ∧ 0 ≤ p.pos ∧ p.pos ≤ 40 := fun p hp => by
  obtain ⟨i, hi, rfl⟩ := List.mem_iff_getElem.1 hp
  have := hg.pos i hi
  have := hg.long
  exact ⟨hg.pit _ hp, by omega, by omega⟩
theorem look_fill {R : Ending → Hp → Prop} {za1 za2 : Addr} {fin : Option Code → Hp → Prop} {k : Nat} {t0 t : Hp} {hs : List Sp} {ms : List Mx} (hg : GrOk g) (hk : k ≤ g.long) (hd : LkD B7 Bp Bg Bh Bm) (hI : LkI t g B7 Bp Bg Bh Bm) (hT : TlI t g B46 B48 Bt) (hD : TlD t B46 B48 Bt t0.size) (h7 : B7 < t0.size) (hp : Bp < t0.size) (hgl : Bg < t0.size) (hh : Bh < t0.size) (hm : Bm < t0.size) (h0 : t0.size ≤ t.size)
    (hsr : SpR t Bh hs) (hsl : hs.length = g.long + 1) (msr : MixR t Bm ms) (msl : ms.length = g.long + 1)
    (h : ∀ t', Kp (fun b => b = Bh ∨ b = Bm) t t' → SpR t' Bh (hs.set k (hardP g k)) → MixR t' Bm (ms.set k (mix0 g k)) → fin none t')
    {Bs : Nat} (hbs : t0.size ≤ Bs) {u : Hp} (eu : Ext t u) (hbt : t.size ≤ Bs) (s1 : Own u ⟨Bs, 0, none⟩ (.int .i64 0)) (s2 : Own u ⟨Bs, 1, none⟩ (.int .i64 1000)) :
    J_soil_look_1 W R ⟨B46, 0, none⟩ fin ⟨B7, 0, none⟩ za1 za2 (some ⟨Bp, 0, none⟩) ⟨B48, 0, none⟩ (k : Int) (some ⟨Bs, 0, none⟩) u := by
  unfold J_soil_look_1
  obtain ⟨⟨x, c, a1, a2⟩, a3, a4⟩ := hT
  have hx := hD.x _ _ _ a1
  refine ⟨_, _, _, eu.cell a1, ?_⟩
  have g40 := hg.long
  have hpits := hg.pits
  refine L_soil_look_1_rule W R fin ⟨B7, 0, none⟩ za1 za2 (some ⟨Bp, 0, none⟩) ⟨B48, 0, none⟩ (k : Int) (some ⟨Bs, 0, none⟩) (some x) _ c _ (fun n v => ∃ q : Nat, n = q ∧ q ≤ g.pits.length + 1 ∧ Ext t v ∧ Own v ⟨Bs, 0, none⟩ (.int .i64 (hardQ k g.rise g.pits q).1) ∧ Own v ⟨Bs, 1, none⟩ (.int .i64 (hardQ k g.rise g.pits q).2)) (fun n _ => (((g.pits.length + 1 : Nat) : Int) - n).toNat) 0 u
    ⟨0, rfl, by omega, eu, s1, s2⟩ ?_
  rintro n v ⟨q, rfl, hq, ev, o1, o2⟩
  have hn8 := hg.n8
  unfold B_soil_look_1
  refine BR_dec (fun hlt => ?_) (fun hge => ?_)
  · have hql : q < g.pits.length + 1 := by omega
    have hqt : q < (telV g.pits).length := by rw [tel_len]; exact hql
    refine IXS_nat hql ?_
    obtain ⟨a, ha, hc⟩ := a2 q hqt
    cases ha
    refine ⟨_, ev.cell hc, ?_⟩
    try simp only [nd_]
    refine ⟨_, o1.cell, ⟨_, o2.cell, ⟨_, ev.cell hI.r, ?_⟩⟩⟩
    refine inv_tell hpits (by omega) hg.r0 hg.r1 hqt fun v1 e1 => ?_
    unfold spV
    try simp only [nd_]
    refine ANDS_i ⟨_, (e1.own o1).cell, ⟨_, (e1.own o2).cell, rfl⟩⟩ ?_
    refine c_both (a := hardQ k g.rise g.pits q) fun v2 e2 => ?_
    unfold spV
    try simp only [nd_]
    refine outk2 (e2.own (e1.own o1)) (e2.own (e1.own o2)) rfl rfl fun v3 k3 p1 p2 => ?_
    try simp only [nd_]
    have hev : Ext t v3 := ext_kp ((ev.trans e1).trans e2) hbt k3
    have hval : bothS (hardQ k g.rise g.pits q) (tellP g.pits k g.rise q) = hardQ k g.rise g.pits (q + 1) := by
      cases q with
      | zero => exact both_top
      | succ q =>
        have hqq : q < g.pits.length := by omega
        unfold tellP
        simp only [List.getElem?_eq_getElem hqq]
        unfold hardQ
        show _ = hardL k g.rise (g.pits.take (q + 1))
        rw [List.take_add_one, List.getElem?_eq_getElem hqq]
        exact (hardL_snoc _ _ _ _).symm
    rw [hval] at p1 p2
    refine ⟨_, rfl, ⟨q + 1, wrap_succ (by omega), hql, hev, p1, p2⟩, ms_succ hql (by omega)⟩
  · have hqe : q = g.pits.length + 1 := by omega
    subst hqe
    have hv : hardQ k g.rise g.pits (g.pits.length + 1) = hardP g k := by unfold hardQ hardP; simp
    rw [hv] at o1 o2
    have I1 := hI.ext ev
    try simp only [nd_]
    refine ⟨_, I1.pp, ?_⟩
    try simp only [nd_]
    refine ⟨_, _, _, I1.l4, ?_⟩
    try simp only [nd_]
    refine ⟨_, I1.pp, ?_⟩
    try simp only [nd_]
    refine ⟨_, _, _, I1.l5, ?_⟩
    try simp only [nd_]
    refine ⟨_, o1.cell, ⟨_, o2.cell, ?_⟩⟩
    refine c_anything fun w ew => ?_
    unfold mxV
    try simp only [nd_]
    have I2 := I1.ext ew
    refine ANDS_i ⟨_, (ew.own o1).cell, ⟨_, (ew.own o2).cell, rfl⟩⟩ ?_
    refine ANDS_i ⟨_, _, _, I2.l5, rfl⟩ ?_
    refine ANDS_i ⟨_, I2.pp, rfl⟩ ?_
    refine ANDS_i ⟨_, _, _, I2.l4, rfl⟩ ?_
    refine ANDS_i ⟨_, I2.pp, rfl⟩ ?_
    refine IXS_nat (by omega) ?_
    have etw : Ext t w := ev.trans ew
    refine sp_set (m := hardP g k) (hsr.ext etw) (by omega) fun w1 k1 z1 r1 => ?_
    refine IXS_nat (by omega) ?_
    have hne : Bm ≠ Bh := fun e => hd.h e.symm
    refine mix_set (m := anyM) ((msr.ext etw).kp k1 hne) (by omega) fun w2 k2 z2 r2 => ?_
    have k12 : Kp (fun b => b = Bh ∨ b = Bm) w w2 := (k1.mono fun b hb => .inl hb).trans (k2.mono fun b hb => .inr hb)
    have ktw : Kp (fun b => b = Bh ∨ b = Bm) t w2 := etw.kp.trans k12
    have hs2 : SpR w2 Bh (hs.set k (hardP g k)) := r1.kp k2 hd.h
    have hnD : ∀ b, t0.size ≤ b → ¬ (b = Bh ∨ b = Bm) := fun b hb h => by rcases h with rfl | rfl <;> omega
    have I3 := hI.kp ktw (fun h => h.elim hd.a hd.b) (fun h => h.elim hd.c hd.d) (fun h => h.elim hd.e hd.f)
    have c48 := ktw.cell (hnD _ hD.b) a3
    have m3 := a4.kp ktw (hnD _ hD.c)
    refine ⟨_, c48, ?_⟩
    have hpit : ∀ p ∈ g.pits, BmM p.mix := fun p hp => (hg.pit p hp).bm
    obtain ⟨e155, u155, z155⟩ := und_155
    refine LKP_v u155 z155 m3 (fun v' hv' => ?_) (fun hv' => ?_)
    · unfold pitMV at hv'
      cases hpm : pitM g.pits (k : Int) with
      | none => rw [hpm] at hv'; cases hv'
      | some m =>
        rw [hpm] at hv'
        cases hv'
        have hbm := pitM_all hpit hpm
        unfold mxV
        try simp only [nd_]
        refine nw6 zc_104 rfl rfl rfl rfl rfl rfl fun w3 e3 z3 q1 q2 q3 q4 q5 q6 => ?_
        refine BR_tt rfl ?_
        have I4 := I3.ext e3
        have mr3 := r2.ext e3
        try simp only [nd_]
        refine ⟨_, I4.pp, ?_⟩
        try simp only [nd_]
        refine ⟨_, _, _, I4.l5, ?_⟩
        try simp only [nd_]
        refine ⟨_, I4.pp, ?_⟩
        try simp only [nd_]
        refine ⟨_, _, _, I4.l5, ?_⟩
        refine IXS_nat (by omega) ?_
        have hkl : k < (ms.set k anyM).length := by rw [List.length_set]; omega
        have hrow := mr3 k hkl
        rw [List.getElem_set_self] at hrow
        refine ⟨_, hrow.m1.cell, ⟨_, hrow.m2.cell, ⟨_, hrow.m3.cell, ⟨_, hrow.m4.cell, ⟨_, hrow.m5.cell, ⟨_, hrow.m6.cell, ?_⟩⟩⟩⟩⟩⟩
        refine ⟨_, q1.cell, ⟨_, q2.cell, ⟨_, q3.cell, ⟨_, q4.cell, ⟨_, q5.cell, ⟨_, q6.cell, ?_⟩⟩⟩⟩⟩⟩
        refine c_and (m := anyM) (o := m) bmm_any hbm fun w4 e4 => ?_
        unfold mxV
        try simp only [nd_]
        have I5 := I4.ext e4
        refine ANDS_i ⟨_, _, _, I5.l5, rfl⟩ ?_
        refine ANDS_i ⟨_, I5.pp, rfl⟩ ?_
        refine IXS_nat (by omega) ?_
        refine mix_set (m := andM anyM m) (mr3.ext e4) hkl fun w5 k5 z5 r5 => ?_
        have hv : mix0 g k = andM anyM m := by unfold mix0; rw [hpm]
        have hss : (ms.set k anyM).set k (andM anyM m) = ms.set k (mix0 g k) := by rw [List.set_set, hv]
        rw [hss] at r5
        exact h w5 (((ktw.ext e3).ext e4).trans (k5.mono fun b hb => .inr hb)) (((hs2.ext e3).ext e4).kp k5 hd.h) r5
    · have hpm : pitM g.pits (k : Int) = none := by
        unfold pitMV at hv'
        cases hpm : pitM g.pits (k : Int) with
        | none => rfl
        | some m => rw [hpm] at hv'; cases hv'
      try simp only [nd_]
      refine nw6 zc_104 rfl rfl rfl rfl rfl rfl fun w3 e3 z3 q1 q2 q3 q4 q5 q6 => ?_
      refine BR_ff rfl ?_
      have hv : mix0 g k = anyM := by unfold mix0; rw [hpm]
      rw [← hv] at r2
      exact h w3 (ktw.ext e3) (hs2.ext e3) (r2.ext e3)
end
open Go.V
theorem CALLV_bound {P : Program} {W : World} {f : FuncId} {args : List Value} {first cap : Array Value} {K : VK} {E : List PanicEntry → Hp → Prop} {s : Hp} (h : CALL P W f (first.toList ++ args ++ cap.toList) K E s) : CALLV P W (.func (.func f) first cap) args K E s := by
  show Does P W f (first ++ args.toArray ++ cap) s _
  have e : (first ++ args.toArray ++ cap : Array Value) = (first.toList ++ args ++ cap.toList).toArray := Array.ext' (by simp)
  rw [e]; exact h
theorem ord_le (back : Bool) {L k : Nat} (h : k ≤ L) : ordB back L k ≤ L := by unfold ordB; split <;> omega
structure MxB (s : Hp) (b : Nat) (m : Mx) : Prop where
  m1 : Own s ⟨b, 0, none⟩ (.int .i64 m.sand.1)
  m2 : Own s ⟨b, 1, none⟩ (.int .i64 m.sand.2)
  m3 : Own s ⟨b, 2, none⟩ (.int .i64 m.silt.1)
  m4 : Own s ⟨b, 3, none⟩ (.int .i64 m.silt.2)
  m5 : Own s ⟨b, 4, none⟩ (.int .i64 m.clay.1)
  m6 : Own s ⟨b, 5, none⟩ (.int .i64 m.clay.2)
theorem MxB.kp {D : Nat → Prop} {s s' : Hp} {b : Nat} {m : Mx} (h : MxB s b m) (k : Kp D s s') (hd : ¬ D b) : MxB s' b m := ⟨k.own hd h.m1, k.own hd h.m2, k.own hd h.m3, k.own hd h.m4, k.own hd h.m5, k.own hd h.m6⟩
theorem MxB.ext {s s' : Hp} {b : Nat} {m : Mx} (h : MxB s b m) (e : Ext s s') : MxB s' b m := h.kp (D := fun _ => False) e.kp id
theorem mxb_set {s : Hp} {b : Nat} {m m' : Mx} {K : Hp → Prop} (h : MxB s b m) (hK : ∀ s', Kp (· = b) s s' → MxB s' b m' → K s') :
    (WR (Addr.add ⟨b, 0, none⟩ 0) (.int .i64 m'.sand.1) <| WR (Addr.add ⟨b, 0, none⟩ 1) (.int .i64 m'.sand.2) <| WR (Addr.add ⟨b, 0, none⟩ 2) (.int .i64 m'.silt.1) <| WR (Addr.add ⟨b, 0, none⟩ 3) (.int .i64 m'.silt.2) <| WR (Addr.add ⟨b, 0, none⟩ 4) (.int .i64 m'.clay.1) <| WR (Addr.add ⟨b, 0, none⟩ 5) (.int .i64 m'.clay.2) <| K) s :=
  outk6 h.m1 h.m2 h.m3 h.m4 h.m5 h.m6 rfl rfl rfl rfl rfl rfl fun s' k o1 o2 o3 o4 o5 o6 => hK s' k ⟨o1, o2, o3, o4, o5, o6⟩
section
variable {W : World} {s : Hp} {g : GrP} {B7 Bp Bg Bh Bm : Nat}
set_option maxHeartbeats 1000000 in
theorem look_side {R : Ending → Hp → Prop} {za1 za2 za4 : Addr} {nx : List Value → Hp → Prop} {j : Nat} {back : Bool} {t : Hp} {ms : List Mx} (hg : GrOk g) (hj : j < 2) (hb4 : cellAt t (Addr.add za4 (j * 1)) = some (.bool back)) (hd : LkD B7 Bp Bg Bh Bm) (hI : LkI t g B7 Bp Bg Bh Bm) (hml : Bm < t.size) (msr : MixR t Bm ms) (msl : ms.length = g.long + 1) (mbm : ∀ m ∈ ms, BmM m)
    (h : ∀ t', Kp (· = Bm) t t' → MixR t' Bm (passM g.change (ordB back g.long) ms (g.long + 1)).1 → nx [.int .i64 (IntKind.wrap .i64 ((j : Int) + 1))] t') :
    B_soil_look_2 W R ⟨B7, 0, none⟩ za1 za2 (some ⟨Bp, 0, none⟩) za4 (j : Int) nx t := by
  unfold B_soil_look_2
  have g40 := hg.long
  refine BR_dec (fun _ => ?_) (fun h => absurd (by omega) h)
  refine IXS_nat hj ⟨_, hb4, ?_⟩
  refine nz6 zc_104 fun t1 f1 z1 o1 o2 o3 o4 o5 o6 => nz1 zc_4 fun t2 f2 z2 p1 => ?_
  have hz1 : t1.size = t.size + 1 := z1
  have hm2 : MxB t2 t.size zeroM := ⟨f2.own o1, f2.own o2, f2.own o3, f2.own o4, f2.own o5, f2.own o6⟩
  refine mxb_set (m' := zeroM) hm2 fun t3 k3 hm3 => ?_
  refine outk1 (k3.own (by show ¬ t1.size = t.size; omega) p1) rfl fun t4 k4 p4 => ?_
  have e4 : Ext t t4 := ext_kp (ext_kp (f1.trans f2) (Nat.le_refl _) k3) (by omega) k4
  have hm4 : MxB t4 t.size zeroM := hm3.kp k4 (by show ¬ t.size = t1.size; omega)
  have I4 := hI.ext e4
  try simp only [nd_]
  refine ⟨_, I4.pp, ?_⟩
  have hsz4 : t1.size < t4.size := p4.lt
  have lg : Bg < t.size := cell_lt hI.l0
  have l7 : B7 < t.size := cell_lt hI.r
  have lp : Bp < t.size := cell_lt hI.pp
  have D7 : ∀ b, b < t.size → b ≠ Bm → ¬ (b = Bm ∨ b = t.size ∨ b = t1.size) := fun b hb hn h => by rcases h with h | h | h <;> omega
  -- what a pass has come to
  generalize hP : passM g.change (ordB back g.long) ms = P at h ⊢
  have hPb := pass_bm (ch := g.change) (o := ordB back g.long) (ms := ms) hg.c0 hg.c1 mbm
  rw [hP] at hPb
  have hP0 : P 0 = (ms, zeroM) := by rw [← hP]; rfl
  have hPs : ∀ k, P (k + 1) = ((P k).1.set (ordB back g.long k) (if k = 0 then (P k).1.getD (ordB back g.long k) zeroM else andM ((P k).1.getD (ordB back g.long k) zeroM) (nextM g.change (P k).2)), (if k = 0 then (P k).1.getD (ordB back g.long k) zeroM else andM ((P k).1.getD (ordB back g.long k) zeroM) (nextM g.change (P k).2))) := fun k => by rw [← hP]; rfl
  refine rng_places (L := g.long) (back := back) (by omega) (I4.l0) (fun b => b = Bm ∨ b = t.size ∨ b = t1.size) (fun b hb => ⟨?_, ?_⟩) (fun k v => MixR v Bm (P k).1 ∧ MxB v t.size (P k).2 ∧ Own v ⟨t1.size, 0, none⟩ (.bool (decide (k = 0)))) (fun _ _ => False) (fun v ev => ?_) (fun k v v' hv e => ⟨hv.1.ext e, hv.2.1.ext e, e.own hv.2.2⟩) (fun k v s2 hk es k2 hv => ?_) (fun v s2 es k2 hv => ?_) (fun c v s2 _ _ hf => hf.elim)
  · rcases hb with rfl | rfl | rfl <;> omega
  · show b ≠ Bg
    rcases hb with rfl | rfl | rfl
    · exact fun e => hd.f e.symm
    · omega
    · omega
  · rw [hP0]
    exact ⟨(msr.ext e4).ext ev, hm4.ext ev, ev.own p4⟩
  · -- a round
    obtain ⟨v1, v2, v3⟩ := hv
    have es4 : Ext t s2 := e4.trans es
    have Iv := (hI.ext es4).kp k2 (D7 _ l7 hd.b) (D7 _ lp hd.d) (D7 _ lg hd.f)
    have hol := ord_le back hk
    generalize hok : ordB back g.long k = o at hol ⊢
    obtain ⟨pl, pb, pn⟩ := hPb k
    have hop : o < (P k).1.length := by omega
    have hrow := v1 o hop
    have hgd : (P k).1.getD o zeroM = (P k).1[o] := by rw [List.getD_eq_getElem?_getD, List.getElem?_eq_getElem hop]; rfl
    have hbo : BmM (P k).1[o] := pb _ (List.getElem_mem hop)
    have hstep := hPs k
    rw [hok, hgd] at hstep
    try simp only [nd_]
    refine ⟨_, Iv.pp, ?_⟩
    try simp only [nd_]
    refine ⟨_, _, _, Iv.l5, ?_⟩
    refine IXS_nat (by omega) ?_
    refine ⟨_, hrow.m1.cell, ⟨_, hrow.m2.cell, ⟨_, hrow.m3.cell, ⟨_, hrow.m4.cell, ⟨_, hrow.m5.cell, ⟨_, hrow.m6.cell, ?_⟩⟩⟩⟩⟩⟩
    refine ⟨_, v3.cell, ?_⟩
    -- the end of a round
    have hfin : ∀ (w : Hp) (m : Mx), Kp (fun b => b = Bm ∨ b = t.size ∨ b = t1.size) s2 w → MixR w Bm (P k).1 → MxB w t.size m → Own w ⟨t1.size, 0, none⟩ (.bool false) → P (k + 1) = ((P k).1.set o m, m) →
        J_soil_look_2 W R (some ⟨Bp, 0, none⟩) t.size (o : Int) (fun j t' => match j with | none => Kp (fun b => b = Bm ∨ b = t.size ∨ b = t1.size) s2 t' ∧ MixR t' Bm (P (k + 1)).1 ∧ MxB t' t.size (P (k + 1)).2 ∧ Own t' ⟨t1.size, 0, none⟩ (.bool (decide (k + 1 = 0))) | some c => Kp (fun b => b = Bm ∨ b = t.size ∨ b = t1.size) s2 t' ∧ False) w := by
      intro w m kw hmr hmb hfr hPe
      unfold J_soil_look_2
      have Iw := (hI.ext es4).kp kw (D7 _ l7 hd.b) (D7 _ lp hd.d) (D7 _ lg hd.f)
      try simp only [nd_]
      refine ⟨_, Iw.pp, ?_⟩
      try simp only [nd_]
      refine ⟨_, _, _, Iw.l5, ?_⟩
      refine ⟨_, hmb.m1.cell, ⟨_, hmb.m2.cell, ⟨_, hmb.m3.cell, ⟨_, hmb.m4.cell, ⟨_, hmb.m5.cell, ⟨_, hmb.m6.cell, ?_⟩⟩⟩⟩⟩⟩
      refine IXS_nat (by omega) ?_
      refine mix_set (m := m) hmr hop fun w1 k1 z1 r1 => ?_
      have hnm : ¬ t.size = Bm := by omega
      have hnm' : ¬ t1.size = Bm := by omega
      refine ⟨kw.trans (k1.mono fun b hb => .inl hb), ?_⟩
      rw [hPe]
      exact ⟨r1, hmb.kp k1 hnm, k1.own hnm' hfr⟩
    by_cases hk0 : k = 0
    · rw [if_pos hk0] at hstep
      rw [decide_eq_true hk0]
      refine BR_tt rfl ?_
      try simp only [nd_]
      refine ⟨_, Iv.pp, ?_⟩
      try simp only [nd_]
      refine ⟨_, _, _, Iv.l5, ?_⟩
      refine IXS_nat (by omega) ?_
      refine ⟨_, hrow.m1.cell, ⟨_, hrow.m2.cell, ⟨_, hrow.m3.cell, ⟨_, hrow.m4.cell, ⟨_, hrow.m5.cell, ⟨_, hrow.m6.cell, ?_⟩⟩⟩⟩⟩⟩
      refine mxb_set (m' := (P k).1[o]) v2 fun w1 k1 hw1 => ?_
      refine outk1 (k1.own (by show ¬ t1.size = t.size; omega) v3) rfl fun w2 k2' p2 => ?_
      refine hfin w2 (P k).1[o] ((k2.trans (k1.mono fun b hb => .inr (.inl hb))).trans (k2'.mono fun b hb => .inr (.inr hb))) ((v1.kp k1 (by show ¬ Bm = t.size; omega)).kp k2' (by show ¬ Bm = t1.size; omega)) (hw1.kp k2' (by show ¬ t.size = t1.size; omega)) p2 hstep
    · rw [if_neg hk0] at hstep
      rw [decide_eq_false hk0]
      refine BR_ff rfl ?_
      refine ⟨_, v2.m1.cell, ⟨_, v2.m2.cell, ⟨_, v2.m3.cell, ⟨_, v2.m4.cell, ⟨_, v2.m5.cell, ⟨_, v2.m6.cell, ⟨_, Iv.c, ?_⟩⟩⟩⟩⟩⟩⟩
      refine c_next (m := (P k).2) pn hg.c0 hg.c1 fun w1 e1 => ?_
      unfold mxV
      try simp only [nd_]
      refine CALLV_bound ?_
      refine c_and (m := (P k).1[o]) (o := nextM g.change (P k).2) hbo (bmm_next pn hg.c0 hg.c1) fun w2 e2 => ?_
      unfold mxV
      try simp only [nd_]
      have e12 := e1.trans e2
      refine mxb_set (m' := andM (P k).1[o] (nextM g.change (P k).2)) (v2.ext e12) fun w3 k3' hw3 => ?_
      have hfr : Own w3 ⟨t1.size, 0, none⟩ (.bool false) := by
        have := e12.own v3
        rw [decide_eq_false hk0] at this
        exact k3'.own (by show ¬ t1.size = t.size; omega) this
      refine hfin w3 _ ((k2.ext e12).trans (k3'.mono fun b hb => .inr (.inl hb))) ((v1.ext e12).kp k3' (by show ¬ Bm = t.size; omega)) hw3 hfr hstep
  · -- behind the last one
    try simp only [nd_]
    have es4 : Ext t s2 := e4.trans es
    refine h v ⟨Nat.le_trans es4.1 k2.1, fun b hb hn => ?_⟩ hv.1
    rw [k2.2 b (Nat.lt_of_lt_of_le hb es4.1) (D7 b hb hn), es4.2 b hb]
theorem look_fine {R : Ending → Hp → Prop} {za4 : Addr} {nx : List Value → Hp → Prop} {B8 B9 : Nat} {t : Hp} {hs : List Sp} {ms : List Mx} (hg : GrOk g) (hI : LkI t g B7 Bp Bg Bh Bm) (hsr : SpR t Bh hs) (hsl : hs.length = g.long + 1) (msr : MixR t Bm ms) (msl : ms.length = g.long + 1) (hf : ∀ k (h1 : k < hs.length) (h2 : k < ms.length), hs[k].1 ≤ hs[k].2 ∧ noneM ms[k] = false) {y1 y2 : Value} (o1 : Own t ⟨B8, 0, none⟩ y1) (o2 : Own t ⟨B9, 0, none⟩ y2) (hne : B8 ≠ B9) (lo : Nat) (h8 : lo ≤ B8) (h9 : lo ≤ B9) (h7 : B7 < lo ∨ True)
    (h : ∀ t', Kp (fun b => b = B8 ∨ b = B9) t t' → R (.returned (.tuple #[.pointer (some ⟨Bg, 0, none⟩), .bool true])) t') :
    B_soil_look_2 W R ⟨B7, 0, none⟩ ⟨B8, 0, none⟩ ⟨B9, 0, none⟩ (some ⟨Bp, 0, none⟩) za4 (2 : Int) nx t := by
  unfold B_soil_look_2
  refine BR_dec (fun h => absurd h (by decide)) (fun _ => ?_)
  have g40 := hg.long
  try simp only [nd_]
  refine ⟨_, hI.pp, ?_⟩
  refine rng_places (L := g.long) (back := false) (by omega) (hI.l0) (fun _ => False) (fun b hb => hb.elim) (fun k v => Ext t v) (fun _ _ => False) (fun v ev => ev) (fun k v v' hv e => hv.trans e) (fun k v s2 hk es k2 hv => ?_) (fun v s2 es k2 hv => ?_) (fun c v s2 _ _ hf => hf.elim)
  · have Iv := hI.ext hv
    have hr := (hsr.ext hv) k (by omega)
    have hm := (msr.ext hv) k (by omega)
    obtain ⟨g1, g2⟩ := hf k (by omega) (by omega)
    try simp only [nd_]
    refine ⟨_, Iv.pp, ?_⟩
    try simp only [nd_]
    refine ⟨_, _, _, Iv.l4, ?_⟩
    refine IXS_nat (i := k) (by omega) ⟨_, hr.m1.cell, ?_⟩
    try simp only [nd_]
    refine ⟨_, Iv.pp, ?_⟩
    try simp only [nd_]
    refine ⟨_, _, _, Iv.l4, ?_⟩
    refine IXS_nat (i := k) (by omega) ⟨_, hr.m2.cell, ?_⟩
    refine BR_dec (fun h => absurd h (by omega)) (fun _ => ?_)
    try simp only [nd_]
    refine ⟨_, Iv.pp, ?_⟩
    try simp only [nd_]
    refine ⟨_, _, _, Iv.l5, ?_⟩
    refine IXS_nat (i := k) (by omega) ⟨_, hm.m1.cell, ⟨_, hm.m2.cell, ⟨_, hm.m3.cell, ⟨_, hm.m4.cell, ⟨_, hm.m5.cell, ⟨_, hm.m6.cell, ?_⟩⟩⟩⟩⟩⟩
    refine c_isNone (m := ms[k]) fun v2 e2 => ?_
    try simp only [nd_]
    rw [g2]
    refine BR_ff rfl ?_
    exact ⟨k2.ext e2, hv.trans e2⟩
  · have Iv := hI.ext hv
    try simp only [nd_]
    refine ⟨_, Iv.pp, ?_⟩
    refine outk1 (hv.own o1) rfl fun w1 k1 p1 => ?_
    refine outk1 (k1.own (fun e => hne e.symm) (hv.own o2)) rfl fun w2 k2' p2 => ?_
    refine ⟨_, (k2'.own hne p1).cell, ⟨_, p2.cell, ?_⟩⟩
    exact h w2 ((hv.kp.trans (k1.mono fun b hb => .inl hb)).trans (k2'.mono fun b hb => .inr hb))
end
open Go.V
theorem mix0_bm {g : GrP} (hg : GrOk g) (k : Nat) : BmM (mix0 g k) := by
  unfold mix0
  cases h : pitM g.pits (k : Int) with
  | none => exact bmm_any
  | some m => exact bmm_and bmm_any (pitM_all (fun p hp => (hg.pit p hp).bm) h)
theorem take_snoc {α : Type} {l : List α} {k : Nat} (h : k < l.length) : l.take (k + 1) = l.take k ++ [l[k]] := by
  rw [List.take_add_one, List.getElem?_eq_getElem h]; rfl
theorem tel_snoc {ps : List PitP} {k : Nat} (h : k < ps.length) : telV (ps.take (k + 1)) = telV (ps.take k) ++ [dugV ps[k]] := by
  unfold telV; rw [take_snoc h, List.map_append]; rfl
def hardsP (g : GrP) : List Sp := (List.range (g.long + 1)).map (hardP g)
section
variable {W : World} {s : Hp} {g : GrP} {B7 B8 B9 Bp Bg Bh Bm : Nat}
structure LkS (s t : Hp) (g : GrP) (B7 B8 B9 Bp Bg Bh Bm : Nat) (x : Option Addr) (c : Nat) : Prop where
  e : Ext s t
  i : LkI t g B7 Bp Bg Bh Bm
  d : LkD B7 Bp Bg Bh Bm
  sx : cellAt t ⟨B7, 3, none⟩ = some (.slice x g.pits.length c)
  p : PitR t x g.pits
  r8 : ∃ y, Own t ⟨B8, 0, none⟩ y
  r9 : ∃ y, Own t ⟨B9, 0, none⟩ y
  h : SpR t Bh (List.replicate (g.long + 1) (0, 0))
  m : MixR t Bm (List.replicate (g.long + 1) zeroM)
  l8 : s.size ≤ B8
  l9 : s.size ≤ B9
  lh : s.size ≤ Bh
  lm : s.size ≤ Bm
  hl : Bh < t.size
  ml : Bm < t.size
  n89 : B8 ≠ B9
  n8 : B8 ≠ Bh ∧ B8 ≠ Bm ∧ B9 ≠ Bh ∧ B9 ≠ Bm
  ng : B8 ≠ Bg ∧ B9 ≠ Bg
set_option maxHeartbeats 1000000 in
theorem look_main {R : Ending → Hp → Prop} {x : Option Addr} {c : Nat} {t0 : Hp} (hg : GrOk g) (hf : fineP g) (hS : LkS s t0 g B7 B8 B9 Bp Bg Bh Bm x c)
    (h : ∀ t', Ext s t' → LkAt t' ⟨Bg, 0, none⟩ s.size g.long (hardsP g) (mixesP g) → R (.returned (.tuple #[.pointer (some ⟨Bg, 0, none⟩), .bool true])) t') : J_soil_look_0 W R B7 B8 B9 (some ⟨Bp, 0, none⟩) t0 := by
  unfold J_soil_look_0
  have g40 := hg.long
  have gn8 := hg.n8
  obtain ⟨e0, I0, hd, hx, hp, ⟨y8, o8⟩, ⟨y9, o9⟩, hh0, hm0, l8, l9, lh, lm, hl, ml, n89, n8, ng⟩ := hS
  refine ne1 fun t1 f1 z1 a1 => ?_
  refine nw1 zc_154 rfl fun t2 f2 z2 a2 => ?_
  refine MKM_rule fun t3 f3 z3 mp3 => ?_
  refine nw1 zc_155 rfl fun t4 f4 z4 a4 => ?_
  have e14 : Ext t0 t4 := ((f1.trans f2).trans f3).trans f4
  refine ⟨_, _, _, e14.cell hx, ?_⟩
  have b1 : Own t4 ⟨t0.size, 0, none⟩ limV := f4.own (f3.own (f2.own a1))
  have b2 : Own t4 ⟨t1.size, 0, none⟩ (.slice (some ⟨t0.size, 0, none⟩) 1 1) := f4.own (f3.own a2)
  have m4 : MapI t4 t2.size (pitMV (g.pits.take 0)) := mp3.ext f4
  have fr0 : Fr t0.size t4 (some ⟨t0.size, 0, none⟩) 1 1 1 (telV (g.pits.take 0)) := by
    refine ⟨⟨by simp [telV], fun i hi => ⟨_, rfl, limV, ?_, fun hi' => ?_⟩⟩, by simp [telV], fun a ha => ?_, by omega⟩
    · have : i = 0 := by omega
      subst this; exact b1
    · have : i = 0 := by omega
      subst this; rfl
    · cases ha; exact Nat.le_refl _
  refine L_soil_look_0_rule W R ⟨B7, 0, none⟩ ⟨B8, 0, none⟩ ⟨B9, 0, none⟩ (some ⟨Bp, 0, none⟩) ⟨t1.size, 0, none⟩ ⟨t3.size, 0, none⟩ x _ c _
    (fun n v => ∃ (q : Nat) (xa : Addr) (cc : Nat), n = q ∧ q ≤ g.pits.length ∧ Ext t0 v ∧ Own v ⟨t1.size, 0, none⟩ (.slice (some xa) (q + 1) cc) ∧ Fr t0.size v (some xa) (q + 1) cc 1 (telV (g.pits.take q)) ∧ (xa.block = t0.size ∨ t3.size < xa.block) ∧ cellAt v ⟨t3.size, 0, none⟩ = some (.map (some t2.size)) ∧ MapI v t2.size (pitMV (g.pits.take q)))
    (fun n _ => ((g.pits.length : Int) - n).toNat) 0 t4 ⟨0, ⟨t0.size, 0, none⟩, 1, rfl, by omega, e14, b2, fr0, .inl rfl, a4.cell, m4⟩ ?_
  rintro n v ⟨q, xa, cc, rfl, hq, ev, ov, fr, hxa, hmap, mi⟩
  unfold B_soil_look_0
  refine BR_dec (fun hlt => ?_) (fun hge => ?_)
  · -- one more pit
    have hql : q < g.pits.length := by omega
    obtain ⟨a, rfl, hc⟩ := (hp.ext ev) q hql
    obtain ⟨c0, c1, c2, c3, c4, c5, c6, c7, c8⟩ := hc
    refine IXS_nat hql ⟨_, c0, ⟨_, c1, ⟨_, c2, ⟨_, c3, ⟨_, c4, ⟨_, c5, ⟨_, c6, ⟨_, c7, ⟨_, c8, ?_⟩⟩⟩⟩⟩⟩⟩⟩⟩
    refine nw9 zc_30 rfl rfl rfl rfl rfl rfl rfl rfl rfl fun v1 g1 w1 p0 p1 p2 p3 p4 p5 p6 p7 p8 => ?_
    refine ⟨_, _, _, (g1.own ov).cell, ?_⟩
    refine ⟨_, p0.cell, ⟨_, p1.cell, ⟨_, p2.cell, ⟨_, p3.cell, ⟨_, p4.cell, ⟨_, p5.cell, ⟨_, p6.cell, ⟨_, p7.cell, ⟨_, p8.cell, ?_⟩⟩⟩⟩⟩⟩⟩⟩⟩
    refine ne1 fun v2 g2 w2 q1 => ?_
    have e2 := g1.trans g2
    have ht3 : t3.size < v.size := by
      obtain ⟨es, cl, l, hh, _⟩ := mi
      have := cell_lt hmap
      exact this
    have ht1 : t1.size < v.size := ov.lt
    have ht2 : t2.size < v.size := mi.lt
    refine APP_fr (lo := t0.size) (fr.ext e2) (ev.trans e2).1 (ws := [dugV g.pits[q]]) (fun i hi => ⟨⟨v1.size, 0, none⟩, rfl, ?_⟩) rfl zc_161 rfl (by omega) (by simp [dugV, oneCell]) (by omega) fun v3 x3 cc3 k3 hx3 fr3 => ?_
    · have hi0 : i = 0 := by simp at hi; omega
      subst hi0; exact q1.cell
    have hne : ∀ b, (∃ a, some xa = some a ∧ a.block = b) → xa.block = b := fun b hb => by obtain ⟨a, ha, hb⟩ := hb; cases ha; exact hb
    have hz21 : t2.size = t1.size + 1 := z2
    have hz32 : t3.size = t2.size + 1 := z3
    have hz10 : t1.size = t0.size + 1 := z1
    have ov3 := k3.own (a := ⟨t1.size, 0, none⟩) (fun hb => by have : xa.block = t1.size := hne _ hb; omega) (e2.own ov)
    have hmap3 := k3.cell (a := ⟨t3.size, 0, none⟩) (fun hb => by have : xa.block = t3.size := hne _ hb; omega) (e2.cell hmap)
    have mi3 := (mi.ext e2).kp k3 (fun hb => by have : xa.block = t2.size := hne _ hb; omega)
    have hxl : xa.block < v.size := by
      obtain ⟨aa, h2, y, h3, _⟩ := fr.buf.own 0 (by have := fr.buf.le; rw [tel_len] at this; omega)
      cases h2
      have := h3.lt
      rw [add_blk] at this; exact this
    have hpv : ∀ {j : Nat} {w : Value}, Own v1 ⟨v.size, j, none⟩ w → Own v3 ⟨v.size, j, none⟩ w := fun ho => k3.own (fun hb => by have h1 : xa.block = v.size := hne _ hb; omega) (g2.own ho)
    have ev3 : Ext t0 v3 := kp_nil (ev.trans e2) (fun b hb => by have := hne b hb; omega) k3
    have hx3b : ∃ a, x3 = some a := by
      cases x3 with
      | some a => exact ⟨a, rfl⟩
      | none =>
        obtain ⟨a, ha, _⟩ := fr3.buf.own 0 (by have := fr3.buf.le; rw [List.length_append, tel_len] at this; simp at this; omega)
        cases ha
    obtain ⟨x3a, rfl⟩ := hx3b
    have hx3' : x3a.block = t0.size ∨ t3.size < x3a.block := by
      rcases hx3 x3a rfl with ⟨a', ha, hb⟩ | hb
      · cases ha; rw [← hb]; exact hxa
      · have := e2.1; exact .inr (by omega)
    refine outk1 ov3 rfl fun v4 k4 ov4 => ?_
    have hmap4 := k4.cell (a := ⟨t3.size, 0, none⟩) (by show ¬ t3.size = t1.size; omega) hmap3
    refine ⟨_, hmap4, ?_⟩
    have hv14 : ∀ {j : Nat} {w : Value}, Own v1 ⟨v.size, j, none⟩ w → Own v4 ⟨v.size, j, none⟩ w := fun ho => k4.own (by show ¬ v.size = t1.size; omega) (hpv ho)
    refine ⟨_, (hv14 p0).cell, ⟨_, (hv14 p3).cell, ⟨_, (hv14 p4).cell, ⟨_, (hv14 p5).cell, ⟨_, (hv14 p6).cell, ⟨_, (hv14 p7).cell, ⟨_, (hv14 p8).cell, ?_⟩⟩⟩⟩⟩⟩⟩
    obtain ⟨e155, u155, z155⟩ := und_155
    refine MUP_v u155 (mi3.kp k4 (by show ¬ t2.size = t1.size; omega)) fun v5 k5 z5 mi5 => ?_
    try simp only [nd_]
    have hlen : (telV (g.pits.take q)).length = q + 1 := by rw [tel_len, List.length_take]; omega
    have fr5 : Fr t0.size v5 (some x3a) (q + 1 + 1) cc3 1 (telV (g.pits.take (q + 1))) := by
      rw [tel_snoc hql]
      refine (fr3.kp k4 fun a ha => ?_).kp k5 fun a ha => ?_
      · cases ha; show ¬ x3a.block = t1.size; omega
      · cases ha; show ¬ x3a.block = t2.size; omega
    have hmi : updI (pitMV (g.pits.take q)) g.pits[q].pos (mxV g.pits[q].mix) = pitMV (g.pits.take (q + 1)) := by
      funext k'
      unfold updI pitMV
      rw [take_snoc hql, pitM_snoc]
      by_cases e : k' = g.pits[q].pos
      · rw [if_pos e, if_pos e]; rfl
      · rw [if_neg e, if_neg e]
    have mi5' : MapI v5 t2.size (pitMV (g.pits.take (q + 1))) := by rw [← hmi]; exact mi5
    refine ⟨_, rfl, ⟨q + 1, x3a, cc3, wrap_succ (by omega), hql, kp_nil (kp_nil ev3 (fun b hb => by have : b = t1.size := hb; omega) k4) (fun b hb => by have : b = t2.size := hb; omega) k5, k5.own (by show ¬ t1.size = t2.size; omega) ov4, fr5, hx3', k5.cell (by show ¬ t3.size = t2.size; omega) hmap4, mi5'⟩, ms_succ hql (by omega)⟩
  · -- all pits are told
    have hqe : q = g.pits.length := by omega
    subst hqe
    rw [List.take_length] at fr mi
    have Iv := I0.ext ev
    have hz21 : t2.size = t1.size + 1 := z2
    have hz32 : t3.size = t2.size + 1 := z3
    have hz10 : t1.size = t0.size + 1 := z1
    have lg : Bg < t0.size := cell_lt I0.l0
    have l7 : B7 < t0.size := cell_lt I0.r
    have lp : Bp < t0.size := cell_lt I0.pp
    try simp only [nd_]
    refine ⟨_, Iv.pp, ?_⟩
    have hevs := ev.1
    refine rng_places (L := g.long) (back := false) (by omega) Iv.l0 (fun b => b = Bh ∨ b = Bm) (fun b hb => ⟨by rcases hb with rfl | rfl <;> omega, by show b ≠ Bg; rcases hb with rfl | rfl; exact fun e => hd.e e.symm; exact fun e => hd.f e.symm⟩)
      (fun k w => SpR w Bh (preL (hardP g) (0, 0) (g.long + 1) k) ∧ MixR w Bm (preL (mix0 g) zeroM (g.long + 1) k)) (fun _ _ => False) (fun w ew => ⟨(hh0.ext ev).ext ew, (hm0.ext ev).ext ew⟩) (fun k w w' hw e => ⟨hw.1.ext e, hw.2.ext e⟩) (fun k w s2 hk es k2 hw => ?_) (fun w s2 es k2 hw => ?_) (fun c v s2 _ _ hf => hf.elim)
    · -- a round
      have hnD : ∀ b, t0.size ≤ b → ¬ (b = Bh ∨ b = Bm) := fun b hb h => by rcases h with rfl | rfl <;> omega
      have Iw := (Iv.ext es).kp k2 (fun h => h.elim hd.a hd.b) (fun h => h.elim hd.c hd.d) (fun h => h.elim hd.e hd.f)
      have cw := k2.cell (a := ⟨t1.size, 0, none⟩) (hnD _ (by show t0.size ≤ t1.size; omega)) (es.cell ov.cell)
      have hxlo : t0.size ≤ xa.block := fr.fr xa rfl
      have rw' : RowAt w (some xa) (telV g.pits) := (fr.row.ext es).keep k2 fun a ha => by cases ha; exact hnD _ hxlo
      have hT : TlI w g t1.size t3.size t2.size := ⟨⟨xa, cc, cw, rw'⟩, k2.cell (hnD _ (by show t0.size ≤ t3.size; omega)) (es.cell hmap), (mi.ext es).kp k2 (hnD _ (by omega))⟩
      have hD : TlD w t1.size t3.size t2.size t0.size := ⟨fun x l c hc => by rw [cw] at hc; cases hc; exact hxlo, by omega, by omega, by omega⟩
      have hlen1 : (preL (hardP g) (0, 0) (g.long + 1) k).length = g.long + 1 := preL_len (by omega)
      have hlen2 : (preL (mix0 g) zeroM (g.long + 1) k).length = g.long + 1 := preL_len (by omega)
      have hws : t0.size ≤ w.size := by have := k2.1; have := es.1; omega
      have fin : ∀ (u : Hp), Ext w u → ∀ Bs, w.size ≤ Bs → Own u ⟨Bs, 0, none⟩ (.int .i64 0) → Own u ⟨Bs, 1, none⟩ (.int .i64 1000) → J_soil_look_1 W R ⟨t1.size, 0, none⟩ (fun j t' => match j with | none => Kp (fun b => b = Bh ∨ b = Bm) s2 t' ∧ SpR t' Bh (preL (hardP g) (0, 0) (g.long + 1) (k + 1)) ∧ MixR t' Bm (preL (mix0 g) zeroM (g.long + 1) (k + 1)) | some c => Kp (fun b => b = Bh ∨ b = Bm) s2 t' ∧ False) ⟨B7, 0, none⟩ ⟨B8, 0, none⟩ ⟨B9, 0, none⟩ (some ⟨Bp, 0, none⟩) ⟨t3.size, 0, none⟩ (k : Int) (some ⟨Bs, 0, none⟩) u := by
        intro u eu Bs hBs s1 s2'
        refine look_fill hg hk hd Iw hT hD l7 lp lg hl ml hws hw.1 hlen1 hw.2 hlen2 (fun t' kt r1 r2 => ?_) (by omega) eu hBs s1 s2'
        rw [preL_set (by omega)] at r1 r2
        exact ⟨k2.trans kt, r1, r2⟩
      try simp only [nd_]
      refine ⟨_, _, _, cw, ?_⟩
      refine IXS_nat (i := 0) (by omega) ?_
      obtain ⟨aa, ha, hc⟩ := rw' 0 (by rw [tel_len]; omega)
      cases ha
      refine ⟨_, hc, ⟨_, Iw.r, ?_⟩⟩
      refine CONJ_two ?_ ?_
      · refine inv_tell (ps := g.pits) (q := 0) (k := k) hg.pits (by omega) hg.r0 hg.r1 (by rw [tel_len]; omega) fun w1 e1 => ?_
        unfold spV tellP
        try simp only [nd_]
        refine nz2 zc_27 fun w2 e2 z2 q1 q2 => ?_
        have e12 := e1.trans e2
        refine ANDS_i ⟨_, e12.cell Iw.r, rfl⟩ ?_
        refine ANDS_i ⟨_, e12.cell hc, rfl⟩ ?_
        refine ANDS_i ⟨_, _, _, e12.cell cw, rfl⟩ ?_
        refine outk2 q1 q2 rfl rfl fun w3 k3 p1 p2 => ?_
        exact fin w3 (ext_kp e12 (by have := e1.1; omega) k3) _ e1.1 p1 p2
      · refine nz2 zc_27 fun w2 e2 z2 q1 q2 => ?_
        refine ANDS_i ⟨_, e2.cell Iw.r, rfl⟩ ?_
        refine ANDS_i ⟨_, e2.cell hc, rfl⟩ ?_
        refine ANDS_i ⟨_, _, _, e2.cell cw, rfl⟩ ?_
        refine inv_tell (ps := g.pits) (q := 0) (k := k) hg.pits (by omega) hg.r0 hg.r1 (by rw [tel_len]; omega) fun w1 e1 => ?_
        unfold spV tellP
        try simp only [nd_]
        refine outk2 (e1.own q1) (e1.own q2) rfl rfl fun w3 k3 p1 p2 => ?_
        exact fin w3 (ext_kp (e2.trans e1) (Nat.le_refl _) k3) _ (Nat.le_refl _) p1 p2
    · -- both sides
      have hnn : ∀ b, b ≠ Bh → b ≠ Bm → ¬ (b = Bh ∨ b = Bm) := fun b h1 h2 h => h.elim h1 h2
      have Iw := (Iv.ext es).kp k2 (hnn _ hd.a hd.b) (hnn _ hd.c hd.d) (hnn _ hd.e hd.f)
      have o8w := k2.own (a := ⟨B8, 0, none⟩) (hnn _ n8.1 n8.2.1) (es.own (ev.own o8))
      have o9w := k2.own (a := ⟨B9, 0, none⟩) (hnn _ n8.2.2.1 n8.2.2.2) (es.own (ev.own o9))
      obtain ⟨rh, rm⟩ := hw
      rw [preL_full] at rh rm
      have ew : Ext s w := kp_nil ((e0.trans ev).trans es) (fun b hb => by rcases hb with rfl | rfl <;> assumption) k2
      simp only [AFT]
      refine ne2 fun w1 g1 x1 c1 c2 => ?_
      have hw1 : w.size < w1.size := by omega
      have hlw : Bm < w.size := by have := k2.1; have := es.1; omega
      let msj : Nat → List Mx := fun j => if j = 0 then ms0 g else if j = 1 then (pass1 g (g.long + 1)).1 else mixesP g
      have lm0 : (ms0 g).length = g.long + 1 := by unfold ms0; simp
      have bm0 : ∀ m ∈ ms0 g, BmM m := fun m hm => by unfold ms0 at hm; obtain ⟨k, _, rfl⟩ := List.mem_map.1 hm; exact mix0_bm hg k
      have p1 := pass_bm (o := ordB false g.long) hg.c0 hg.c1 bm0 (g.long + 1)
      have p2 := pass_bm (o := ordB true g.long) hg.c0 hg.c1 p1.2.1 (g.long + 1)
      have hmsl : ∀ j, (msj j).length = g.long + 1 := fun j => by
        show (if j = 0 then _ else if j = 1 then _ else _ : List Mx).length = _
        split
        · exact lm0
        · split
          · exact p1.1.trans lm0
          · exact p2.1.trans (p1.1.trans lm0)
      have hmsb : ∀ j, ∀ m ∈ msj j, BmM m := fun j => by
        show ∀ m ∈ (if j = 0 then _ else if j = 1 then _ else _ : List Mx), BmM m
        split
        · exact bm0
        · split
          · exact p1.2.1
          · exact p2.2.1
      refine L_soil_look_2_rule W R ⟨B7, 0, none⟩ ⟨B8, 0, none⟩ ⟨B9, 0, none⟩ (some ⟨Bp, 0, none⟩) ⟨w.size, 0, none⟩ (fun n v => ∃ j : Nat, n = j ∧ j ≤ 2 ∧ Kp (· = Bm) w1 v ∧ MixR v Bm (msj j)) (fun n _ => (2 - n).toNat) 0 w1 ⟨0, rfl, by omega, Kp.refl _, rm.ext g1⟩ ?_
      rintro n u ⟨j, rfl, hj, ku, ru⟩
      have hnm : ∀ b, b ≠ Bm → ¬ (b = Bm) := fun b h => h
      have Iu := (Iw.ext g1).kp ku hd.b hd.d hd.f
      by_cases hj2 : j = 2
      · subst hj2
        have hfin := hf
        refine look_fine (hs := hardsP g) (ms := mixesP g) hg Iu (((rh.ext g1)).kp ku hd.h) (by unfold hardsP; simp) ru (hmsl 2) (fun k h1 h2 => ?_) (ku.own n8.2.1 (g1.own o8w)) (ku.own n8.2.2.2 (g1.own o9w)) n89 0 (Nat.zero_le _) (Nat.zero_le _) (.inr trivial) fun t' k' => ?_
        · have hk : k ≤ g.long := by unfold hardsP at h1; simp at h1; omega
          have := hf k hk
          have he : (hardsP g)[k]'h1 = hardP g k := by simp [hardsP]
          rw [he]
          refine ⟨this.1, ?_⟩
          have h3 := this.2
          rw [List.getD_eq_getElem?_getD, List.getElem?_eq_getElem h2] at h3
          exact h3
        · have hn8 : ∀ b, b ≠ B8 → b ≠ B9 → ¬ (b = B8 ∨ b = B9) := fun b h1 h2 h => h.elim h1 h2
          have hgd : ¬ (Bg = B8 ∨ Bg = B9) := hn8 _ (fun e => ng.1 e.symm) (fun e => ng.2 e.symm)
          refine h t' (kp_nil (kp_nil (ew.trans g1) (fun b hb => by rw [hb]; exact lm) ku) (fun b hb => by rcases hb with rfl | rfl <;> assumption) k') ⟨k'.cell (a := Addr.add ⟨Bg, 0, none⟩ 0) hgd Iu.l0, ⟨Bh, lh, ?_, (((rh.ext g1)).kp ku hd.h).kp k' (hn8 _ (fun e => n8.1 e.symm) (fun e => n8.2.2.1 e.symm))⟩, ⟨Bm, ?_, ru.kp k' (hn8 _ (fun e => n8.2.1 e.symm) (fun e => n8.2.2.2 e.symm))⟩⟩
          · have : (hardsP g).length = g.long + 1 := by unfold hardsP; simp
            rw [this]; exact k'.cell (a := ⟨Bg, 4, none⟩) hgd Iu.l4
          · have : (mixesP g).length = g.long + 1 := hmsl 2
            rw [this]; exact k'.cell (a := ⟨Bg, 5, none⟩) hgd Iu.l5
      · have hj1 : j = 0 ∨ j = 1 := by omega
        have hc : cellAt u (Addr.add ⟨w.size, 0, none⟩ (j * 1)) = some (.bool (decide (j = 1))) := by
          have hwn : ¬ w.size = Bm := by omega
          rcases hj1 with rfl | rfl
          · exact (ku.own (a := ⟨w.size, 0, none⟩) hwn c1).cell
          · exact (ku.own (a := ⟨w.size, 1, none⟩) hwn c2).cell
        refine look_side (back := decide (j = 1)) (ms := msj j) hg (by omega) hc hd Iu (by have := ku.1; omega) ru (hmsl j) (hmsb j) fun t' kt r' => ?_
        refine ⟨_, rfl, ⟨j + 1, wrap_succ (by omega), by omega, ku.trans kt, ?_⟩, ?_⟩
        · rcases hj1 with rfl | rfl
          · exact r'
          · exact r'
        · show ((2 : Int) - IntKind.i64.wrap ((j : Int) + 1)).toNat < ((2 : Int) - (j : Int)).toNat
          rw [wrap_succ (k := j) (by omega)]; omega
end
open Go.V
section
variable {W : World} {K : VK} {E : List PanicEntry → Hp → Prop} {s : Hp} {g : GrP} {x : Option Addr} {c : Nat}
theorem look_start {R : Ending → Hp → Prop} {B7 B8 B9 Bp Bg Bh Bm : Nat} {u : Hp} (hg : GrOk g) (hf : fineP g) (e : Ext s u) (hpp : s.size ≤ Bp) (yp : ∃ y, Own u ⟨Bp, 0, none⟩ y)
    (c1 : cellAt u ⟨B7, 1, none⟩ = some (.int .i64 g.rise)) (c2 : cellAt u ⟨B7, 2, none⟩ = some (.int .i64 g.change)) (c3 : cellAt u ⟨B7, 3, none⟩ = some (.slice x g.pits.length c))
    (l0 : cellAt u ⟨Bg, 0, none⟩ = some (.int .i64 g.long)) (l4 : cellAt u ⟨Bg, 4, none⟩ = some (.slice (some ⟨Bh, 0, none⟩) (g.long + 1) (g.long + 1))) (l5 : cellAt u ⟨Bg, 5, none⟩ = some (.slice (some ⟨Bm, 0, none⟩) (g.long + 1) (g.long + 1)))
    (hp : PitR u x g.pits) (hp0 : PitR s x g.pits) (r8 : ∃ y, Own u ⟨B8, 0, none⟩ y) (r9 : ∃ y, Own u ⟨B9, 0, none⟩ y) (hh : SpR u Bh (List.replicate (g.long + 1) (0, 0))) (hm : MixR u Bm (List.replicate (g.long + 1) zeroM)) (hl : Bh < u.size) (ml : Bm < u.size)
    (d : LkD B7 Bp Bg Bh Bm) (l8 : s.size ≤ B8) (l9 : s.size ≤ B9) (lh : s.size ≤ Bh) (lm : s.size ≤ Bm) (n89 : B8 ≠ B9) (n8 : B8 ≠ Bh ∧ B8 ≠ Bm ∧ B9 ≠ Bh ∧ B9 ≠ Bm) (ng : B8 ≠ Bg ∧ B9 ≠ Bg) (np : B7 ≠ Bp ∧ Bg ≠ Bp ∧ B8 ≠ Bp ∧ B9 ≠ Bp)
    (h : ∀ t', Ext s t' → LkAt t' ⟨Bg, 0, none⟩ s.size g.long (hardsP g) (mixesP g) → R (.returned (.tuple #[.pointer (some ⟨Bg, 0, none⟩), .bool true])) t') :
    (WR (Addr.add ⟨Bp, 0, none⟩ 0) (.pointer (some ⟨Bg, 0, none⟩)) <| J_soil_look_0 W R B7 B8 B9 (some ⟨Bp, 0, none⟩)) u := by
  obtain ⟨y, yp⟩ := yp
  obtain ⟨y8, r8⟩ := r8
  obtain ⟨y9, r9⟩ := r9
  refine outk1 yp rfl fun t k p => ?_
  have hlt := k.1
  have et : Ext s t := ext_kp e hpp k
  exact look_main hg hf ⟨et, ⟨k.cell np.1 c1, k.cell np.1 c2, p.cell, k.cell np.2.1 l0, k.cell np.2.1 l4, k.cell np.2.1 l5⟩, d, k.cell np.1 c3, hp0.ext et, ⟨_, k.own np.2.2.1 r8⟩, ⟨_, k.own np.2.2.2 r9⟩, hh.kp k (fun e => d.c e.symm), hm.kp k (fun e => d.d e.symm), l8, l9, lh, lm, by omega, by omega, n89, n8, ng⟩ h
set_option maxHeartbeats 1000000 in
theorem c_look (hg : GrOk g) (hf : fineP g) (hp : PitR s x g.pits) (h : ∀ s' B, Ext s s' → LkAt s' ⟨B, 0, none⟩ s.size g.long (hardsP g) (mixesP g) → K (.tuple #[.pointer (some ⟨B, 0, none⟩), .bool true]) s') : CALL Pg W F_soil_look [grV g x c] K E s := by
  refine does_soil_look W _ _ _ x _ c _ s ?_
  unfold T_soil_look
  have g40 := hg.long
  refine ne4 fun s1 f1 z1 o1 o2 o3 o4 => nz1 zc_60 fun s2 f2 z2 o8 => nz1 zc_4 fun s3 f3 z3 o9 => ?_
  have hz1 : s1.size = s.size + 1 := z1
  have hz2 : s2.size = s1.size + 1 := z2
  (repeat ((with_reducible first | apply RDI_c | apply RDL_c | apply RDB_c | apply RDP_c | apply RDM_c | apply RDS_c | apply RDV_c); focus ((repeat (first | assumption | exact Own.cell (by assumption) | apply Ext.cell (by assumption))); done)))
  try dsimp only
  rw [wrap_succ (by omega), Int.toNat_natCast]
  repeat' (first
    | with_reducible refine CONJ_one ?_
    | with_reducible refine CONJ_more ?_ ?_
    | (((with_reducible refine ANDS_i ?_ ?_); focus ((repeat ((with_reducible first | apply RDI_c | apply RDL_c | apply RDB_c | apply RDP_c | apply RDM_c | apply RDS_c | apply RDV_c); focus ((repeat (first | assumption | exact Own.cell (by assumption) | apply Ext.cell (by assumption))); done))); exact rfl)))
    | (with_reducible refine mks_sp (by omega) fun t f z r1 => ?_)
    | (with_reducible refine mks_mix (by omega) fun t f z r2 => ?_)
    | (with_reducible refine ne6 fun t f z a0 a1 a2 a3 a4 a5 => ?_)
    | (with_reducible refine nz1 zc_60 fun t f z b0 => ?_))
  all_goals
    have hz3 : s3.size = s2.size + 1 := z3
    refine look_start hg hf (by repeat (first | exact Ext.refl _ | assumption | refine Ext.trans ?_ (by assumption))) (by omega) ⟨_, by (repeat (first | assumption | apply Ext.own (by assumption)))⟩ (by (repeat (first | assumption | exact Own.cell (by assumption) | apply Ext.cell (by assumption)))) (by (repeat (first | assumption | exact Own.cell (by assumption) | apply Ext.cell (by assumption)))) (by (repeat (first | assumption | exact Own.cell (by assumption) | apply Ext.cell (by assumption)))) (by (repeat (first | assumption | exact Own.cell (by assumption) | apply Ext.cell (by assumption)))) (by (repeat (first | assumption | exact Own.cell (by assumption) | apply Ext.cell (by assumption)))) (by (repeat (first | assumption | exact Own.cell (by assumption) | apply Ext.cell (by assumption)))) (hp.ext (by repeat (first | exact Ext.refl _ | assumption | refine Ext.trans ?_ (by assumption)))) hp ⟨_, by (repeat (first | assumption | apply Ext.own (by assumption)))⟩ ⟨_, by (repeat (first | assumption | apply Ext.own (by assumption)))⟩ (by repeat (first | assumption | refine SpR.ext ?_ (by assumption))) (by repeat (first | assumption | refine MixR.ext ?_ (by assumption))) (by omega) (by omega) ⟨by omega, by omega, by omega, by omega, by omega, by omega, by omega⟩ (by omega) (by omega) (by omega) (by omega) (by omega) ⟨by omega, by omega, by omega, by omega⟩ ⟨by omega, by omega⟩ ⟨by omega, by omega, by omega, by omega⟩ fun t' e' l' => ?_
    exact h t' _ e' l'
def Nums (s : Hp) (b : Nat) (l : List Nat) : Prop := ∀ i (h : i < l.length), cellAt s ⟨b, i, none⟩ = some (.int .i64 (l[i] : Nat))
theorem Nums.ext {s s' : Hp} {b : Nat} {l : List Nat} (h : Nums s b l) (e : Ext s s') : Nums s' b l := fun i hi => e.cell (h i hi)
theorem c_open {v : Value} {b : Nat} {l : List Nat} (hg : GrOk g) (hf : fineP g) (hp : PitR s x g.pits) (hl : l.length ≤ 1000) (hb : Nums s b l) (hv : ∀ s1 k K E, Ext s s1 → k ∈ l → (∀ s2, Ext s1 s2 → K (.bool true) s2) → CALLV Pg W v [.int .i64 (k : Nat)] K E s1)
    (h : ∀ s' B, Ext s s' → LkAt s' ⟨B, 0, none⟩ s.size g.long (hardsP g) (mixesP g) → K (.pointer (some ⟨B, 0, none⟩)) s') : CALL Pg W F_soil_open [grV g x c, v, .slice (some ⟨b, 0, none⟩) l.length l.length] K E s := by
  refine does_soil_open W _ _ _ x _ c v _ _ _ _ s ?_
  unfold T_soil_open
  refine ne4 fun s1 f1 z1 o1 o2 o3 o4 => ?_
  (repeat ((with_reducible first | apply RDI_c | apply RDL_c | apply RDB_c | apply RDP_c | apply RDM_c | apply RDS_c | apply RDV_c); focus ((repeat (first | assumption | exact Own.cell (by assumption) | apply Ext.cell (by assumption))); done)))
  refine c_isGround (g := g) hg (hp.ext f1) fun s2 f2 => ?_
  try simp only [nd_]
  refine so_must ?_
  try simp only [nd_]
  refine L_soil_open_0_rule W _ v ⟨s.size, 0, none⟩ (some ⟨b, 0, none⟩) _ _ _ (fun n t => Ext s2 t ∧ ∃ q : Nat, n = q ∧ q ≤ l.length) (fun n _ => ((l.length : Int) - n).toNat) 0 s2 ⟨Ext.refl _, 0, rfl, by omega⟩ ?_
  rintro n t ⟨et, q, rfl, hq⟩
  unfold B_soil_open_0
  have e0 : Ext s t := (f1.trans f2).trans et
  refine BR_dec (fun hlt => ?_) (fun hge => ?_)
  · have hql : q < l.length := by omega
    refine IXS_nat hql ?_
    have hc : cellAt t (Addr.add ⟨b, 0, none⟩ (q * 1)) = some (.int .i64 (l[q] : Nat)) := by
      rw [add_nil, Nat.mul_one, Nat.zero_add]
      exact e0.cell (hb q hql)
    refine ⟨_, hc, ?_⟩
    refine hv t l[q] _ _ e0 (List.getElem_mem hql) fun t2 e2 => ?_
    try simp only [nd_]
    refine so_must ?_
    try simp only [nd_]
    exact ⟨_, rfl, ⟨et.trans e2, q + 1, wrap_succ (by omega), hql⟩, ms_succ hql (by omega)⟩
  · have e1 := f2.trans et
    refine ⟨_, (e1.own o1).cell, ⟨_, (e1.own o2).cell, ⟨_, (e1.own o3).cell, ⟨_, _, _, (e1.own o4).cell, ?_⟩⟩⟩⟩
    refine c_look (g := g) hg hf (hp.ext e0) fun t2 B e2 hlk => ?_
    try simp only [nd_]
    refine so_must ?_
    try simp only [nd_]
    refine h t2 B (e0.trans e2) ?_
    obtain ⟨h1, ⟨b, h0, h2⟩, h3⟩ := hlk
    exact ⟨h1, ⟨b, Nat.le_trans e0.1 h0, h2⟩, h3⟩
end
open Go.V
theorem hards_len (g : GrP) : (hardsP g).length = g.long + 1 := by unfold hardsP; simp
theorem hards_at {g : GrP} {k : Nat} (h : k < (hardsP g).length) : (hardsP g)[k] = hardP g k := by simp [hardsP]
theorem mixes_bm {g : GrP} (hg : GrOk g) : (mixesP g).length = g.long + 1 ∧ ∀ m ∈ mixesP g, BmM m := by
  have lm0 : (ms0 g).length = g.long + 1 := by unfold ms0; simp
  have bm0 : ∀ m ∈ ms0 g, BmM m := fun m hm => by unfold ms0 at hm; obtain ⟨k, _, rfl⟩ := List.mem_map.1 hm; exact mix0_bm hg k
  have p1 := pass_bm (o := ordB false g.long) hg.c0 hg.c1 bm0 (g.long + 1)
  have p2 := pass_bm (o := ordB true g.long) hg.c0 hg.c1 p1.2.1 (g.long + 1)
  exact ⟨p2.1.trans (p1.1.trans lm0), p2.2.1⟩
theorem hard_b {g : GrP} {k : Nat} : 0 ≤ (hardP g k).1 ∧ (hardP g k).2 ≤ 1000 := by
  have key : ∀ (l : List PitP) (a : Sp), 0 ≤ a.1 → a.2 ≤ 1000 → 0 ≤ (l.foldl (fun s p => bothS s (hardAt p k g.rise)) a).1 ∧ (l.foldl (fun s p => bothS s (hardAt p k g.rise)) a).2 ≤ 1000 := by
    intro l
    induction l with
    | nil => exact fun a h1 h2 => ⟨h1, h2⟩
    | cons p l ih =>
      intro a h1 h2
      exact ih _ (by unfold bothS; simp only; omega) (by unfold bothS; simp only; omega)
  exact key g.pits (0, 1000) (by decide) (by decide)
section
variable {W : World} {K : VK} {E : List PanicEntry → Hp → Prop} {s : Hp} {g : GrP} {x : Option Addr} {c : Nat}
theorem place_fn {b : Nat} {k : Nat} {l : List Nat} (hb : cellAt s ⟨b, 0, none⟩ = some (.int .i64 g.long)) (hl : ∀ k ∈ l, k ≤ g.long) : ∀ s1 k K E, Ext s s1 → k ∈ l → (∀ s2, Ext s1 s2 → K (.bool true) s2) → CALLV Pg W (.func (.func 41) #[] #[.pointer (some ⟨b, 0, none⟩)]) [.int .i64 (k : Nat)] K E s1 :=
  fun s1 k K E e hk h => c_place (e.cell hb) (hl k hk) (h s1 (Ext.refl _))
set_option maxHeartbeats 1000000 in
theorem c_Hard {k : Nat} (hg : GrOk g) (hf : fineP g) (hp : PitR s x g.pits) (hk : k ≤ g.long) (h : ∀ s', Ext s s' → K (.tuple #[spV (hardP g k), .int .i64 0]) s') : CALL Pg W F_soil_Hard [grV g x c, .int .i64 (k : Nat)] K E s := by
  refine does_soil_Hard W _ _ _ x _ c _ _ s ?_
  unfold T_soil_Hard
  refine ne4 fun s1 f1 z1 o1 o2 o3 o4 => nz2 zc_27 fun s2 f2 z2 q1 q2 => nz1 zc_34 fun s3 f3 z3 q3 => ?_
  have hz1 : s1.size = s.size + 1 := z1
  have hz2 : s2.size = s1.size + 1 := z2
  (repeat ((with_reducible first | apply RDI_c | apply RDL_c | apply RDB_c | apply RDP_c | apply RDM_c | apply RDS_c | apply RDV_c); focus ((repeat (first | assumption | exact Own.cell (by assumption) | apply Ext.cell (by assumption))); done)))
  have fin : ∀ (t : Hp) (B lo : Nat), Ext s3 t → LkAt t ⟨B, 0, none⟩ lo g.long (hardsP g) (mixesP g) → (RDL (Addr.add ⟨B, 0, none⟩ 4) fun x48 l49 c50 => IXS x48 l49 (k : Int) 2 fun a51 => RDI .i64 (Addr.add a51 0) fun n52 => RDI .i64 (Addr.add a51 1) fun n53 => WR (Addr.add ⟨s1.size, 0, none⟩ 0) (.int .i64 n52) <| WR (Addr.add ⟨s1.size, 0, none⟩ 1) (.int .i64 n53) <| WR (Addr.add ⟨s2.size, 0, none⟩ 0) (.int .i64 0) <| J_soil_Hard_0 W (endK K E) s2.size s1.size) t := by
    intro t B lo e lk
    obtain ⟨_, ⟨b, _, l1, l2⟩, _⟩ := lk
    have hl := hards_len g
    refine ⟨_, _, _, l1, ?_⟩
    refine IXS_nat (by omega) ?_
    have hr := l2 k (by omega)
    rw [hards_at] at hr
    refine ⟨_, hr.m1.cell, ⟨_, hr.m2.cell, ?_⟩⟩
    have e0 : Ext s t := ((f1.trans f2).trans f3).trans e
    refine outk2 (e.own (f3.own q1)) (e.own (f3.own q2)) rfl rfl fun t1 k1 p1 p2 => ?_
    refine outk1 (k1.own (by show ¬ s2.size = s1.size; omega) (e.own q3)) rfl fun t2 k2 p3 => ?_
    unfold J_soil_Hard_0
    refine def_none ?_
    have hn : ¬ s1.size = s2.size := by omega
    refine ⟨_, (k2.own hn p1).cell, ⟨_, (k2.own hn p2).cell, ⟨_, p3.cell, ?_⟩⟩⟩
    exact h t2 (ext_kp (ext_kp e0 (by omega) k1) (by omega) k2)
  refine CONJ_two ?_ ?_
  · refine c_isPlace (g := g) fun t b f cb lb => ?_
    (repeat (((with_reducible refine ANDS_i ?_ ?_); focus ((repeat ((with_reducible first | apply RDI_c | apply RDL_c | apply RDB_c | apply RDP_c | apply RDM_c | apply RDS_c | apply RDV_c); focus ((repeat (first | assumption | exact Own.cell (by assumption) | apply Ext.cell (by assumption))); done))); exact rfl))))
    refine ne1 fun t1 g1 w1 a1 => ?_
    (repeat (((with_reducible refine ANDS_i ?_ ?_); focus ((repeat ((with_reducible first | apply RDI_c | apply RDL_c | apply RDB_c | apply RDP_c | apply RDM_c | apply RDS_c | apply RDV_c); focus ((repeat (first | assumption | exact Own.cell (by assumption) | apply Ext.cell (by assumption))); done))); exact rfl))))
    refine c_open (l := [k]) hg hf (hp.ext (by repeat (first | exact Ext.refl _ | assumption | refine Ext.trans ?_ (by assumption)))) (by simp) (fun i hi => ?_) (place_fn (g := g) (k := k) (g1.cell cb) (by simp; exact hk)) fun t2 B e2 lk => ?_
    · have : i = 0 := by simp at hi; omega
      subst this; exact a1.cell
    · try simp only [nd_]
      exact fin t2 B _ ((f.trans g1).trans e2) lk
  · refine ne1 fun t1 g1 w1 a1 => ?_
    (repeat (((with_reducible refine ANDS_i ?_ ?_); focus ((repeat ((with_reducible first | apply RDI_c | apply RDL_c | apply RDB_c | apply RDP_c | apply RDM_c | apply RDS_c | apply RDV_c); focus ((repeat (first | assumption | exact Own.cell (by assumption) | apply Ext.cell (by assumption))); done))); exact rfl))))
    refine c_isPlace (g := g) fun t b f cb lb => ?_
    (repeat (((with_reducible refine ANDS_i ?_ ?_); focus ((repeat ((with_reducible first | apply RDI_c | apply RDL_c | apply RDB_c | apply RDP_c | apply RDM_c | apply RDS_c | apply RDV_c); focus ((repeat (first | assumption | exact Own.cell (by assumption) | apply Ext.cell (by assumption))); done))); exact rfl))))
    refine c_open (l := [k]) hg hf (hp.ext (by repeat (first | exact Ext.refl _ | assumption | refine Ext.trans ?_ (by assumption)))) (by simp) (fun i hi => ?_) (place_fn (g := g) (k := k) cb (by simp; exact hk)) fun t2 B e2 lk => ?_
    · have : i = 0 := by simp at hi; omega
      subst this; exact f.cell a1.cell
    · try simp only [nd_]
      exact fin t2 B _ ((g1.trans f).trans e2) lk
set_option maxHeartbeats 1000000 in
theorem c_Class {k : Nat} (hg : GrOk g) (hf : fineP g) (hp : PitR s x g.pits) (hk : k ≤ g.long) (h : ∀ s', Ext s s' → K (.tuple #[.int .i64 (classP kindsP ((mixesP g).getD k zeroM) 0 : Nat), .int .i64 0]) s') : CALL Pg W F_soil_Class [grV g x c, .int .i64 (k : Nat)] K E s := by
  refine does_soil_Class W _ _ _ x _ c _ _ s ?_
  unfold T_soil_Class
  refine ne4 fun s1 f1 z1 o1 o2 o3 o4 => nz1 zc_34 fun s2 f2 z2 q3 => ?_
  have hz1 : s1.size = s.size + 1 := z1
  have hml := (mixes_bm hg).1
  have hkl : k < (mixesP g).length := by omega
  have hbm := (mixes_bm hg).2 _ (List.getElem_mem hkl)
  have hgd : (mixesP g).getD k zeroM = (mixesP g)[k] := by rw [List.getD_eq_getElem?_getD, List.getElem?_eq_getElem hkl]; rfl
  rw [hgd] at h
  (repeat ((with_reducible first | apply RDI_c | apply RDL_c | apply RDB_c | apply RDP_c | apply RDM_c | apply RDS_c | apply RDV_c); focus ((repeat (first | assumption | exact Own.cell (by assumption) | apply Ext.cell (by assumption))); done)))
  refine CONJ_two ?_ ?_
  · refine c_isPlace (g := g) fun t b f cb lb => ?_
    (repeat (((with_reducible refine ANDS_i ?_ ?_); focus ((repeat ((with_reducible first | apply RDI_c | apply RDL_c | apply RDB_c | apply RDP_c | apply RDM_c | apply RDS_c | apply RDV_c); focus ((repeat (first | assumption | exact Own.cell (by assumption) | apply Ext.cell (by assumption))); done))); exact rfl))))
    refine ne1 fun t1 g1 w1 a1 => ?_
    (repeat (((with_reducible refine ANDS_i ?_ ?_); focus ((repeat ((with_reducible first | apply RDI_c | apply RDL_c | apply RDB_c | apply RDP_c | apply RDM_c | apply RDS_c | apply RDV_c); focus ((repeat (first | assumption | exact Own.cell (by assumption) | apply Ext.cell (by assumption))); done))); exact rfl))))
    refine c_open (l := [k]) hg hf (hp.ext (by repeat (first | exact Ext.refl _ | assumption | refine Ext.trans ?_ (by assumption)))) (by simp) (fun i hi => ?_) (place_fn (g := g) (k := k) (g1.cell cb) (by simp; exact hk)) fun t2 B e2 lk => ?_
    · have : i = 0 := by simp at hi; omega
      subst this; exact a1.cell
    · try simp only [nd_]
      refine c_classes lk hkl hbm fun t3 e3 => ?_
      try simp only [nd_]
      refine outk1 (by (repeat (first | assumption | apply Ext.own (by assumption)))) rfl fun t4 k4 p4 => ?_
      refine def_none ?_
      refine ⟨_, p4.cell, ?_⟩
      exact h t4 (ext_kp (by repeat (first | exact Ext.refl _ | assumption | refine Ext.trans ?_ (by assumption))) (by omega) k4)
  · refine ne1 fun t1 g1 w1 a1 => ?_
    (repeat (((with_reducible refine ANDS_i ?_ ?_); focus ((repeat ((with_reducible first | apply RDI_c | apply RDL_c | apply RDB_c | apply RDP_c | apply RDM_c | apply RDS_c | apply RDV_c); focus ((repeat (first | assumption | exact Own.cell (by assumption) | apply Ext.cell (by assumption))); done))); exact rfl))))
    refine c_isPlace (g := g) fun t b f cb lb => ?_
    (repeat (((with_reducible refine ANDS_i ?_ ?_); focus ((repeat ((with_reducible first | apply RDI_c | apply RDL_c | apply RDB_c | apply RDP_c | apply RDM_c | apply RDS_c | apply RDV_c); focus ((repeat (first | assumption | exact Own.cell (by assumption) | apply Ext.cell (by assumption))); done))); exact rfl))))
    refine c_open (l := [k]) hg hf (hp.ext (by repeat (first | exact Ext.refl _ | assumption | refine Ext.trans ?_ (by assumption)))) (by simp) (fun i hi => ?_) (place_fn (g := g) (k := k) cb (by simp; exact hk)) fun t2 B e2 lk => ?_
    · have : i = 0 := by simp at hi; omega
      subst this; exact f.cell a1.cell
    · try simp only [nd_]
      refine c_classes lk hkl hbm fun t3 e3 => ?_
      try simp only [nd_]
      refine outk1 (by (repeat (first | assumption | apply Ext.own (by assumption)))) rfl fun t4 k4 p4 => ?_
      refine def_none ?_
      refine ⟨_, p4.cell, ?_⟩
      exact h t4 (ext_kp (by repeat (first | exact Ext.refl _ | assumption | refine Ext.trans ?_ (by assumption))) (by omega) k4)
end
open Go.V
def workN (g : GrP) (a : Nat) : Nat → Sp
  | 0 => (0, 0)
  | n + 1 => ((workN g a n).1 + (hardP g (a + n)).1, (workN g a n).2 + (hardP g (a + n)).2)
theorem work_b {g : GrP} (hf : fineP g) (a : Nat) : ∀ n, a + n ≤ g.long + 1 → 0 ≤ (workN g a n).1 ∧ (workN g a n).1 ≤ (workN g a n).2 ∧ (workN g a n).2 ≤ n * 1000
  | 0, _ => ⟨Int.le_refl _, Int.le_refl _, Int.le_refl _⟩
  | n + 1, h => by
    have ih := work_b hf a n (by omega)
    have h1 := (hf (a + n) (by omega)).1
    have h2 := hard_b (g := g) (k := a + n)
    unfold workN
    simp only
    omega
section
variable {W : World} {K : VK} {E : List PanicEntry → Hp → Prop} {s : Hp} {g : GrP} {x : Option Addr} {c : Nat}
theorem c_valid {b2 b3 b4 : Nat} {bp : Nat} {a b k : Nat} (h2 : cellAt s ⟨b2, 0, none⟩ = some (.func (.func 41) #[] #[.pointer (some ⟨bp, 0, none⟩)])) (hp : cellAt s ⟨bp, 0, none⟩ = some (.int .i64 g.long)) (h3 : cellAt s ⟨b3, 0, none⟩ = some (.int .i64 (a : Nat))) (h4 : cellAt s ⟨b4, 0, none⟩ = some (.int .i64 (b : Nat))) (hab : a ≤ b) (hk : k ≤ g.long) (h : K (.bool true) s) :
    CALLV Pg W (.func (.func 19) #[] #[.pointer (some ⟨b2, 0, none⟩), .pointer (some ⟨b3, 0, none⟩), .pointer (some ⟨b4, 0, none⟩)]) [.int .i64 (k : Nat)] K E s := by
  refine CALLV_func ?_
  refine does_soil_Work_c1 W _ _ _ _ _ s ?_
  unfold T_soil_Work_c1
  refine ⟨_, h2, ?_⟩
  refine c_place (L := g.long) hp hk ?_
  try simp only [nd_]
  refine BR_tt rfl ⟨_, h3, ⟨_, h4, ?_⟩⟩
  try dsimp only
  rw [decide_eq_true (show (a : Int) ≤ (b : Int) by omega)]
  exact h
set_option maxHeartbeats 1000000 in
theorem c_Work {a b : Nat} (hg : GrOk g) (hf : fineP g) (hp : PitR s x g.pits) (hab : a ≤ b) (hb : b ≤ g.long) (h : ∀ s', Ext s s' → K (.tuple #[spV (workN g a (b + 1 - a)), .int .i64 0]) s') : CALL Pg W F_soil_Work [grV g x c, .int .i64 (a : Nat), .int .i64 (b : Nat)] K E s := by
  refine does_soil_Work W _ _ _ x _ c _ _ _ s ?_
  unfold T_soil_Work
  have g40 := hg.long
  refine ne4 fun s1 f1 z1 o1 o2 o3 o4 => ne1 fun s2 f2 z2 o5 => ne1 fun s3 f3 z3 o6 => nz2 zc_27 fun s4 f4 z4 q1 q2 => nz1 zc_34 fun s5 f5 z5 q3 => ?_
  have hz1 : s1.size = s.size + 1 := z1
  have hz2 : s2.size = s1.size + 1 := z2
  have hz3 : s3.size = s2.size + 1 := z3
  have hz4 : s4.size = s3.size + 1 := z4
  (repeat ((with_reducible first | apply RDI_c | apply RDL_c | apply RDB_c | apply RDP_c | apply RDM_c | apply RDS_c | apply RDV_c); focus ((repeat (first | assumption | exact Own.cell (by assumption) | apply Ext.cell (by assumption))); done)))
  refine c_isPlace (g := g) fun s6 bp f6 cb lb => ?_
  refine nz1 zc_62 fun s7 f7 z7 q4 => ?_
  unfold ONE
  show (WR _ _ _) s7
  refine outk1 q4 rfl fun s8 k8 q5 => ?_
  have f8 : Ext s6 s8 := ext_kp f7 (Nat.le_refl _) k8
  have f7' : True := trivial
  clear f7
  (repeat ((with_reducible first | apply RDI_c | apply RDL_c | apply RDB_c | apply RDP_c | apply RDM_c | apply RDS_c | apply RDV_c); focus ((repeat (first | assumption | exact Own.cell (by assumption) | apply Ext.cell (by assumption))); done)))
  refine ne2 fun s9 f9 z9 p1 p2 => ?_
  have e0 : Ext s s9 := (((((((f1.trans f2).trans f3).trans f4).trans f5).trans f6).trans f8).trans f9)
  refine c_open (l := [a, b]) hg hf (hp.ext e0) (by simp) (fun i hi => ?_) (fun u k K E eu hk hK => ?_) fun t B e2 lk => ?_
  · have : i = 0 ∨ i = 1 := by simp at hi; omega
    rcases this with rfl | rfl
    · exact p1.cell
    · exact p2.cell
  · have hkl : k ≤ g.long := by simp at hk; omega
    have c1 : cellAt u ⟨s6.size, 0, none⟩ = some (.func (.func 41) #[] #[.pointer (some ⟨bp, 0, none⟩)]) := eu.cell (f9.cell q5.cell)
    have c2 : cellAt u ⟨bp, 0, none⟩ = some (.int .i64 g.long) := eu.cell (f9.cell (f8.cell cb))
    have c3 : cellAt u ⟨s1.size, 0, none⟩ = some (.int .i64 (a : Nat)) := eu.cell ((((((f3.trans f4).trans f5).trans f6).trans f8).trans f9).own o5).cell
    have c4 : cellAt u ⟨s2.size, 0, none⟩ = some (.int .i64 (b : Nat)) := eu.cell (((((f4.trans f5).trans f6).trans f8).trans f9).own o6).cell
    exact c_valid c1 c2 c3 c4 hab hkl (hK u (Ext.refl _))
  · try simp only [nd_]
    obtain ⟨_, ⟨bh, lb, l1, l2⟩, _⟩ := lk
    have hl := hards_len g
    refine ⟨_, _, _, l1, ?_⟩
    have c3 : cellAt t ⟨s1.size, 0, none⟩ = some (.int .i64 (a : Nat)) := e2.cell ((((((f3.trans f4).trans f5).trans f6).trans f8).trans f9).own o5).cell
    have c4 : cellAt t ⟨s2.size, 0, none⟩ = some (.int .i64 (b : Nat)) := e2.cell (((((f4.trans f5).trans f6).trans f8).trans f9).own o6).cell
    refine ⟨_, c3, ⟨_, c4, ?_⟩⟩
    try dsimp only
    rw [wrap_succ (by omega)]
    refine ⟨⟨by omega, by omega, by omega⟩, ?_⟩
    rw [toNat_nat, toNat_nat, if_neg (by omega)]
    have e5 : Ext s5 t := ((f6.trans f8).trans f9).trans e2
    have r1 : Own t ⟨s3.size, 0, none⟩ (.int .i64 0) := e5.own (f5.own q1)
    have r2 : Own t ⟨s3.size, 1, none⟩ (.int .i64 0) := e5.own (f5.own q2)
    have r3 : Own t ⟨s4.size, 0, none⟩ (.int .i64 0) := e5.own q3
    have et : Ext s t := e0.trans e2
    refine L_soil_Work_0_rule W _ ⟨s3.size, 0, none⟩ ⟨s4.size, 0, none⟩ _ (b + 1 - a) _ _ (fun n v => ∃ q : Nat, n = q ∧ q ≤ b + 1 - a ∧ Kp (· = s3.size) t v ∧ Own v ⟨s3.size, 0, none⟩ (.int .i64 (workN g a q).1) ∧ Own v ⟨s3.size, 1, none⟩ (.int .i64 (workN g a q).2)) (fun n _ => (((b + 1 - a : Nat) : Int) - n).toNat) 0 t
      ⟨0, rfl, by omega, Kp.refl _, r1, r2⟩ ?_
    rintro n v ⟨q, rfl, hq, kv, w1, w2⟩
    unfold B_soil_Work_0
    have h39 := f4.1
    have e49 : Ext s4 s9 := (((f5.trans f6).trans f8).trans f9)
    have h49 := e49.1
    have hbh : ¬ bh = s3.size := by omega
    refine BR_dec (fun hlt => ?_) (fun hge => ?_)
    · have hql : q < b + 1 - a := by omega
      refine IXS_nat hql ?_
      have hr := (l2.kp kv hbh) (a + q) (by omega)
      rw [hards_at] at hr
      have ea : (Addr.add ⟨bh, 0, none⟩ ((a + q) * 2)) = ((Addr.add ⟨bh, 0, none⟩ (a * 2)).add (q * 2)) := by rw [addr_add, Nat.add_mul]
      rw [ea] at hr
      refine ⟨_, hr.m1.cell, ⟨_, hr.m2.cell, ?_⟩⟩
      refine nw2 zc_27 rfl rfl fun v1 g1 x1 p1 p2 => ?_
      have wb := work_b hf a q (by omega)
      have hbb := hard_b (g := g) (k := a + q)
      have hfb := (hf (a + q) (by omega)).1
      refine ⟨_, (g1.own w1).cell, ⟨_, p1.cell, ⟨_, (g1.own w2).cell, ⟨_, p2.cell, ?_⟩⟩⟩⟩
      try dsimp only
      rw [wrap_i64 (n := (workN g a q).1 + (hardP g (a + q)).1) (by omega) (by omega), wrap_i64 (n := (workN g a q).2 + (hardP g (a + q)).2) (by omega) (by omega)]
      have hv : s3.size < v.size := w1.lt
      have hn : ¬ v.size = s3.size := by omega
      refine WR_own (a := ⟨s3.size, 0, none⟩) (g1.own w1) rfl ?_
      have u1 := own_set (v := .int .i64 ((workN g a q).1 + (hardP g (a + q)).1)) (g1.own w1)
      have u2 := own_set_ne (a := ⟨s3.size, 0, none⟩) (w := .int .i64 ((workN g a q).1 + (hardP g (a + q)).1)) (.inr (by simp)) (g1.own w2)
      have u3 := own_set_ne (a := ⟨s3.size, 0, none⟩) (w := .int .i64 ((workN g a q).1 + (hardP g (a + q)).1)) (.inl hn) p2
      have kk : Kp (· = s3.size) t (setC v1 ⟨s3.size, 0, none⟩ (.int .i64 ((workN g a q).1 + (hardP g (a + q)).1))) := (kv.ext g1).setC (.inl rfl)
      refine ANDS_i ⟨_, u3.cell, rfl⟩ ?_
      generalize setC v1 ⟨s3.size, 0, none⟩ (.int .i64 ((workN g a q).1 + (hardP g (a + q)).1)) = v2 at u1 u2 u3 kk ⊢
      refine WR_own (a := ⟨s3.size, 1, none⟩) u2 rfl ?_
      have u4 := own_set (v := .int .i64 ((workN g a q).2 + (hardP g (a + q)).2)) u2
      have u5 := own_set_ne (a := ⟨s3.size, 1, none⟩) (w := .int .i64 ((workN g a q).2 + (hardP g (a + q)).2)) (.inr (by simp)) u1
      try simp only [nd_]
      exact ⟨_, rfl, ⟨q + 1, wrap_succ (by omega), hql, kk.setC (.inl rfl), u5, u4⟩, ms_succ hql (by omega)⟩
    · have hqe : q = b + 1 - a := by omega
      subst hqe
      refine ⟨_, w1.cell, ⟨_, w2.cell, ?_⟩⟩
      refine outk2 w1 w2 rfl rfl fun v1 k1 p1 p2 => ?_
      have hn : ¬ s4.size = s3.size := by omega
      refine outk1 (k1.own hn (kv.own hn r3)) rfl fun v2 k2 p3 => ?_
      refine def_none ?_
      have hn' : ¬ s3.size = s4.size := by omega
      refine ⟨_, (k2.own hn' p1).cell, ⟨_, (k2.own hn' p2).cell, ⟨_, p3.cell, ?_⟩⟩⟩
      exact h v2 (ext_kp (ext_kp (ext_kp et (by omega) kv) (by omega) k1) (by omega) k2)
end
end Go.Proofs.YtpmldejcdaoljaaGreat.G
