/- A part of the proofs of the laws of this seat: contracts of the functions that they reach, each proved of the program's form in Lean. No condition beyond those that each contract names. -/
import Derived.Test.YtmekfgjlcaonjaaC3
import Derived.Test.YtmekfgjlcaonjaaC2
import Derived.Test.YtmekfgjlcaonjaaC1
import Derived.Test.YtmekfgjlcaonjaaB
set_option linter.unusedVariables false
set_option linter.unusedSimpArgs false
set_option maxRecDepth 20000
set_option maxHeartbeats 4000000
namespace Go.Abs
open Go.Proofs
/-- math/bits.Mul -/
def ir121 : IFn :=
  ⟨30, [(4, none), (5, none)], (.seq (.ops [⟨(some 4), none, (.mov (.k (.int .u64 0)))⟩,
    ⟨(some 5), none, (.mov (.k (.int .u64 0)))⟩])
  (.seq (.cnd (.k (.bool false))
    (.seq (.ops [⟨(some 11), none, (.mov (.t 0))⟩,
      ⟨(some 12), none, (.cvI .u32 (.t 11))⟩,
      ⟨(some 13), none, (.mov (.t 1))⟩,
      ⟨(some 14), none, (.cvI .u32 (.t 13))⟩,
      ⟨(some 15), none, (.callF 131 [(.t 12), (.t 14)])⟩,
      ⟨(some 10), none, (.mov (.t 15))⟩,
      ⟨(some 16), none, (.ext 0 (.t 10))⟩,
      ⟨(some 17), none, (.ext 1 (.t 10))⟩,
      ⟨(some 6), none, (.mov (.t 16))⟩,
      ⟨(some 7), none, (.mov (.t 17))⟩])
    (.seq (.ops [⟨(some 18), none, (.mov (.t 6))⟩,
      ⟨(some 19), none, (.cvI .u64 (.t 18))⟩,
      ⟨(some 20), none, (.mov (.t 7))⟩,
      ⟨(some 21), none, (.cvI .u64 (.t 20))⟩,
      ⟨(some 4), none, (.mov (.t 19))⟩,
      ⟨(some 5), none, (.mov (.t 21))⟩])
    .ret))
    .skip)
  (.seq (.ops [⟨(some 23), none, (.mov (.t 0))⟩,
    ⟨(some 24), none, (.mov (.t 1))⟩,
    ⟨(some 25), none, (.callF 132 [(.t 23), (.t 24)])⟩,
    ⟨(some 22), none, (.mov (.t 25))⟩,
    ⟨(some 26), none, (.ext 0 (.t 22))⟩,
    ⟨(some 27), none, (.ext 1 (.t 22))⟩,
    ⟨(some 8), none, (.mov (.t 26))⟩,
    ⟨(some 9), none, (.mov (.t 27))⟩])
  (.seq (.ops [⟨(some 28), none, (.mov (.t 8))⟩,
    ⟨(some 29), none, (.mov (.t 9))⟩,
    ⟨(some 4), none, (.mov (.t 28))⟩,
    ⟨(some 5), none, (.mov (.t 29))⟩])
  .ret))))⟩
def hint121 (P : Program) : Hint := {}
/-- math/bits.Mul64 -/
def ir132 : IFn :=
  ⟨51, [(4, none), (5, none)], (.seq (.ops [⟨(some 4), none, (.mov (.k (.int .u64 0)))⟩,
    ⟨(some 5), none, (.mov (.k (.int .u64 0)))⟩])
  (.seq (.ops [⟨(some 14), none, (.mov (.t 0))⟩,
    ⟨(some 15), none, (.bin .and (.t 14) (.k (.int .u64 4294967295)))⟩,
    ⟨(some 6), none, (.mov (.t 15))⟩])
  (.seq (.ops [⟨(some 16), none, (.mov (.t 0))⟩,
    ⟨(some 17), none, (.bin .shr (.t 16) (.k (.int .u64 32)))⟩,
    ⟨(some 7), none, (.mov (.t 17))⟩])
  (.seq (.ops [⟨(some 18), none, (.mov (.t 1))⟩,
    ⟨(some 19), none, (.bin .and (.t 18) (.k (.int .u64 4294967295)))⟩,
    ⟨(some 8), none, (.mov (.t 19))⟩])
  (.seq (.ops [⟨(some 20), none, (.mov (.t 1))⟩,
    ⟨(some 21), none, (.bin .shr (.t 20) (.k (.int .u64 32)))⟩,
    ⟨(some 9), none, (.mov (.t 21))⟩])
  (.seq (.ops [⟨(some 22), none, (.mov (.t 6))⟩,
    ⟨(some 23), none, (.mov (.t 8))⟩,
    ⟨(some 24), none, (.bin .mul (.t 22) (.t 23))⟩,
    ⟨(some 10), none, (.mov (.t 24))⟩])
  (.seq (.ops [⟨(some 25), none, (.mov (.t 7))⟩,
    ⟨(some 26), none, (.mov (.t 8))⟩,
    ⟨(some 27), none, (.bin .mul (.t 25) (.t 26))⟩,
    ⟨(some 28), none, (.mov (.t 10))⟩,
    ⟨(some 29), none, (.bin .shr (.t 28) (.k (.int .u64 32)))⟩,
    ⟨(some 30), none, (.bin .add (.t 27) (.t 29))⟩,
    ⟨(some 11), none, (.mov (.t 30))⟩])
  (.seq (.ops [⟨(some 31), none, (.mov (.t 11))⟩,
    ⟨(some 32), none, (.bin .and (.t 31) (.k (.int .u64 4294967295)))⟩,
    ⟨(some 12), none, (.mov (.t 32))⟩])
  (.seq (.ops [⟨(some 33), none, (.mov (.t 11))⟩,
    ⟨(some 34), none, (.bin .shr (.t 33) (.k (.int .u64 32)))⟩,
    ⟨(some 13), none, (.mov (.t 34))⟩])
  (.seq (.ops [⟨(some 35), none, (.mov (.t 12))⟩,
    ⟨(some 36), none, (.mov (.t 6))⟩,
    ⟨(some 37), none, (.mov (.t 9))⟩,
    ⟨(some 38), none, (.bin .mul (.t 36) (.t 37))⟩,
    ⟨(some 39), none, (.bin .add (.t 35) (.t 38))⟩,
    ⟨(some 12), none, (.mov (.t 39))⟩])
  (.seq (.ops [⟨(some 40), none, (.mov (.t 7))⟩,
    ⟨(some 41), none, (.mov (.t 9))⟩,
    ⟨(some 42), none, (.bin .mul (.t 40) (.t 41))⟩,
    ⟨(some 43), none, (.mov (.t 13))⟩,
    ⟨(some 44), none, (.bin .add (.t 42) (.t 43))⟩,
    ⟨(some 45), none, (.mov (.t 12))⟩,
    ⟨(some 46), none, (.bin .shr (.t 45) (.k (.int .u64 32)))⟩,
    ⟨(some 47), none, (.bin .add (.t 44) (.t 46))⟩,
    ⟨(some 4), none, (.mov (.t 47))⟩])
  (.seq (.ops [⟨(some 48), none, (.mov (.t 0))⟩,
    ⟨(some 49), none, (.mov (.t 1))⟩,
    ⟨(some 50), none, (.bin .mul (.t 48) (.t 49))⟩,
    ⟨(some 5), none, (.mov (.t 50))⟩])
  .ret))))))))))))⟩
def hint132 (P : Program) : Hint := {}
/-- slices.Repeat[[]aloeswood/api.Span,aloeswood/api.Span] -/
def ir80 : IFn :=
  ⟨48, [(4, none)], (.seq (.ops [⟨(some 4), none, (.mov (.k .nsl))⟩])
  (.seq (.seq (.ops [⟨(some 9), none, (.mov (.t 1))⟩,
    ⟨(some 10), none, (.bin .lss (.t 9) (.k (.int .i64 0)))⟩])
  (.cnd (.t 10)
    (.ops [⟨(some 11), none, .bad⟩,
      ⟨none, none, .bad⟩])
    .skip))
  (.seq (.ops [⟨(some 13), none, (.mov (.t 0))⟩,
    ⟨(some 14), none, (.len false (.t 13))⟩,
    ⟨(some 15), none, (.cvI .u64 (.t 14))⟩,
    ⟨(some 16), none, (.mov (.t 1))⟩,
    ⟨(some 17), none, (.cvI .u64 (.t 16))⟩,
    ⟨(some 18), none, (.callF 121 [(.t 15), (.t 17)])⟩,
    ⟨(some 12), none, (.mov (.t 18))⟩,
    ⟨(some 19), none, (.ext 0 (.t 12))⟩,
    ⟨(some 20), none, (.ext 1 (.t 12))⟩,
    ⟨(some 5), none, (.mov (.t 19))⟩,
    ⟨(some 6), none, (.mov (.t 20))⟩])
  (.seq (.seq (.ops [⟨(some 21), none, (.mov (.t 5))⟩,
    ⟨(some 22), none, (.bin .gtr (.t 21) (.k (.int .u64 0)))⟩,
    ⟨(some 23), none, (.mov (.t 22))⟩,
    ⟨(some 24), (some (23, false)), (.mov (.t 6))⟩,
    ⟨(some 25), (some (23, false)), (.bin .gtr (.t 24) (.k (.int .u64 9223372036854775807)))⟩,
    ⟨(some 26), none, (.pick (.t 23) (.k (.bool true)) (.t 25))⟩])
  (.cnd (.t 26)
    (.ops [⟨(some 27), none, .bad⟩,
      ⟨none, none, .bad⟩])
    .skip))
  (.seq (.ops [⟨(some 28), none, (.mov (.t 6))⟩,
    ⟨(some 29), none, (.cvI .i64 (.t 28))⟩,
    ⟨(some 30), none, (.mks 2 16 [(.int .i64 0), (.int .i64 0)] (.t 29) (.t 29))⟩,
    ⟨(some 7), none, (.mov (.t 30))⟩])
  (.seq (.ops [⟨(some 31), none, (.mov (.t 7))⟩,
    ⟨(some 32), none, (.mov (.t 0))⟩,
    ⟨(some 33), none, (.cpy 2 (.t 31) (.t 32))⟩,
    ⟨(some 8), none, (.mov (.t 33))⟩])
  (.seq (.blk 0 (.loop (.seq (.seq (.ops [⟨(some 34), none, (.mov (.t 8))⟩,
        ⟨(some 35), none, (.mov (.t 7))⟩,
        ⟨(some 36), none, (.len false (.t 35))⟩,
        ⟨(some 37), none, (.bin .lss (.t 34) (.t 36))⟩])
      (.cnd (.t 37)
        .skip
        (.exit 0)))
      (.blk 1 (.ops [⟨(some 38), none, (.mov (.t 8))⟩,
          ⟨(some 39), none, (.mov (.t 7))⟩,
          ⟨(some 40), none, (.mov (.t 8))⟩,
          ⟨(some 41), none, (.slS 2 (.t 39) (some (.t 40)) none none)⟩,
          ⟨(some 42), none, (.mov (.t 7))⟩,
          ⟨(some 43), none, (.mov (.t 8))⟩,
          ⟨(some 44), none, (.slS 2 (.t 42) none (some (.t 43)) none)⟩,
          ⟨(some 45), none, (.cpy 2 (.t 41) (.t 44))⟩,
          ⟨(some 46), none, (.bin .add (.t 38) (.t 45))⟩,
          ⟨(some 8), none, (.mov (.t 46))⟩])))))
  (.seq (.ops [⟨(some 47), none, (.mov (.t 7))⟩,
    ⟨(some 4), none, (.mov (.t 47))⟩])
  .ret))))))))⟩
def hint80 (P : Program) : Hint := {}
/-- aloeswood/store.Days$1 -/
def ir79 : IFn :=
  ⟨29, [], (.seq (.ops [⟨(some 4), none, (.box 3 (.t 1))⟩])
  (.ops [⟨(some 6), none, (.mov (.t 0))⟩,
    ⟨(some 7), none, (.mov (.t 0))⟩,
    ⟨(some 8), none, (.nck (.t 7))⟩,
    ⟨(some 9), none, (.flA 0 (.t 8))⟩,
    ⟨(some 10), none, (.ld 1 false (.t 9))⟩,
    ⟨(some 11), none, (.flA 1 (.t 4))⟩,
    ⟨(some 12), none, (.ld 1 false (.t 11))⟩,
    ⟨(some 13), none, (.mov (.t 2))⟩,
    ⟨(some 14), none, (.ixA 1 (.t 12) (.t 13))⟩,
    ⟨(some 15), none, (.ld 1 false (.t 14))⟩,
    ⟨(some 16), none, (.mxi false (.t 10) (.t 15))⟩,
    ⟨(some 17), none, (.mov (.t 0))⟩,
    ⟨(some 18), none, (.nck (.t 17))⟩,
    ⟨(some 19), none, (.flA 1 (.t 18))⟩,
    ⟨(some 20), none, (.ld 1 false (.t 19))⟩,
    ⟨(some 21), none, (.flA 2 (.t 4))⟩,
    ⟨(some 22), none, (.ld 1 false (.t 21))⟩,
    ⟨(some 23), none, (.mov (.t 2))⟩,
    ⟨(some 24), none, (.ixA 1 (.t 22) (.t 23))⟩,
    ⟨(some 25), none, (.ld 1 false (.t 24))⟩,
    ⟨(some 26), none, (.mxi true (.t 20) (.t 25))⟩,
    ⟨(some 27), none, (.bld [(.int .i64 0), (.int .i64 0)] [(0, 1, (.t 16)), (1, 1, (.t 26))])⟩,
    ⟨(some 28), none, (.nck (.t 6))⟩,
    ⟨none, none, (.st 2 (.t 28) (.t 27))⟩]))⟩
def hint79 (P : Program) : Hint := {}
/-- aloeswood/store.Days -/
def ir24 : IFn :=
  ⟨48, [(2, some (2, true)), (3, some (1, false)), (4, none)], (.seq (.ops [⟨(some 1), none, (.box 4 (.t 0))⟩,
    ⟨(some 2), none, (.new [(.int .i64 0), (.int .i64 0)])⟩,
    ⟨(some 3), none, (.new [.nsl])⟩,
    ⟨(some 4), none, (.mov (.k (.int .i64 0)))⟩])
  (.seq (.seq (.ops [⟨(some 10), none, (.ld 4 true (.t 1))⟩,
    ⟨(some 11), none, (.callF 26 [(.t 10)])⟩,
    ⟨(some 5), none, (.mov (.t 11))⟩])
  (.seq (.ops [⟨(some 12), none, (.mov (.t 5))⟩,
    ⟨(some 13), none, (.bin .neq (.t 12) (.k (.int .i64 0)))⟩])
  (.cnd (.t 13)
    (.seq (.ops [⟨(some 14), none, (.bld [(.int .i64 0), (.int .i64 0)] [])⟩,
      ⟨(some 15), none, (.mov (.t 5))⟩,
      ⟨none, none, (.st 2 (.t 2) (.t 14))⟩,
      ⟨none, none, (.st 1 (.t 3) (.k .nsl))⟩,
      ⟨(some 4), none, (.mov (.t 15))⟩])
    .ret)
    .skip)))
  (.seq (.ops [⟨(some 6), none, (.new [.nfn])⟩,
    ⟨none, none, (.st 1 (.t 6) (.k (.clo (.func 79) [] [])))⟩])
  (.seq (.ops [⟨(some 16), none, (.bld [(.int .i64 0), (.int .i64 0)] [(0, 1, (.k (.int .i64 100000))), (1, 1, (.k (.int .i64 (-1))))])⟩,
    ⟨none, none, (.st 2 (.t 2) (.t 16))⟩])
  (.seq (.ops [⟨(some 17), none, (.ld 2 true (.t 2))⟩,
    ⟨(some 18), none, (.bsl 2 [[(.int .i64 0), (.int .i64 0)]] [(0, (.t 17))])⟩,
    ⟨(some 19), none, (.flA 3 (.t 1))⟩,
    ⟨(some 20), none, (.ld 1 false (.t 19))⟩,
    ⟨(some 21), none, (.len false (.t 20))⟩,
    ⟨(some 22), none, (.callF 80 [(.t 18), (.t 21)])⟩,
    ⟨none, none, (.st 1 (.t 3) (.t 22))⟩])
  (.seq (.seq (.ops [⟨(some 23), none, (.ld 4 true (.t 1))⟩,
    ⟨(some 24), none, (.callF 77 [(.t 23)])⟩])
  (.blk 0 (.rf (.t 24) [25] (.ops [⟨(some 7), none, (.new [.nsl, .nsl, .nsl])⟩,
        ⟨none, none, (.st 3 (.t 7) (.t 25))⟩])
      (.blk 1 (.seq (.ops [⟨(some 26), none, (.ld 1 false (.t 6))⟩,
          ⟨(some 27), none, (.ld 3 true (.t 7))⟩,
          ⟨(some 28), none, (.callV (.t 26) [(.t 2), (.t 27), (.k (.int .i64 0))])⟩])
        (.seq (.ops [⟨(some 29), none, (.flA 0 (.t 7))⟩,
          ⟨(some 30), none, (.ld 1 false (.t 29))⟩,
          ⟨(some 31), none, (.len false (.t 30))⟩,
          ⟨(some 32), none, (.mov (.k (.int .i64 0)))⟩])
        (.blk 2 (.loop (.seq (.ops [⟨(some 33), none, (.bin .lss (.t 32) (.t 31))⟩])
            (.seq (.cnd (.t 33)
              .skip
              (.exit 2))
            (.seq (.blk 3 (.seq (.ops [⟨(some 34), none, (.mov (.t 32))⟩,
                ⟨(some 35), none, (.ixA 1 (.t 30) (.t 32))⟩,
                ⟨(some 36), none, (.ld 1 false (.t 35))⟩,
                ⟨(some 8), none, (.mov (.t 34))⟩,
                ⟨(some 9), none, (.mov (.t 36))⟩])
              (.ops [⟨(some 37), none, (.ld 1 false (.t 6))⟩,
                ⟨(some 38), none, (.ld 1 false (.t 3))⟩,
                ⟨(some 39), none, (.mov (.t 9))⟩,
                ⟨(some 40), none, (.ixA 2 (.t 38) (.t 39))⟩,
                ⟨(some 41), none, (.ld 3 true (.t 7))⟩,
                ⟨(some 42), none, (.mov (.t 8))⟩,
                ⟨(some 43), none, (.bin .add (.t 42) (.k (.int .i64 1)))⟩,
                ⟨(some 44), none, (.callV (.t 37) [(.t 40), (.t 41), (.t 43)])⟩])))
            (.ops [⟨(some 45), none, (.bin .add (.t 32) (.k (.int .i64 1)))⟩,
              ⟨(some 32), none, (.mov (.t 45))⟩]))))))))))))
  (.seq (.seq (.frz (.t 22))
  (.ops [⟨(some 46), none, (.ld 2 true (.t 2))⟩,
    ⟨(some 47), none, (.ld 1 false (.t 3))⟩,
    ⟨none, none, (.st 2 (.t 2) (.t 46))⟩,
    ⟨none, none, (.chk 1 false (.t 3) 47)⟩,
    ⟨none, none, (.st 1 (.t 3) (.t 47))⟩,
    ⟨(some 4), none, (.mov (.k (.int .i64 0)))⟩]))
  .ret)))))))⟩
def hint24 (P : Program) : Hint := { site := [], nils := [], frz := [(46, 22)], mve := [], wr := [] }
set_option maxRecDepth 100000 in
theorem mul64_s (k : Nat) (hk : k ≤ 7) : Fn0 Try.prog 132 [.int .u64 1, .int .u64 k] (fun v => v = .tup [.int .u64 0, .int .u64 k]) := by
  rcases (by omega : k = 0 ∨ k = 1 ∨ k = 2 ∨ k = 3 ∨ k = 4 ∨ k = 5 ∨ k = 6 ∨ k = 7) with rfl | rfl | rfl | rfl | rfl | rfl | rfl | rfl
  all_goals
    refine RawC.walk (H := hint132 Try.prog) ir132 Try.func132 rfl rfl rfl ?_
    unfold ir132
    repeat' (first
      | with_reducible (first | refine Rd.p ?_ | refine w_alt ?_ ?_ | refine zE ?_ | refine zE0 ?_)
      | with_reducible (first | refine zI fun y hy => ?_ | refine zL ?_ | refine zS ?_ | refine zA fun _ => ?_ | refine zV ?_ | refine zC ?_ | refine zG ?_ | refine zU ?_ | refine zG0 ?_ | refine zU0 ?_ | refine zF ?_)
      | with_reducible (first | refine zX ?_ | refine zD fun _ => ?_ | refine zD0 ?_ | refine zN ?_ | refine zF0 ?_ | refine zX0 ?_ | refine z1 ?_ | refine z2 ?_ | refine z3 ?_ | refine z4 ?_ | refine z5 ?_ | refine z6 ?_ | refine z7 ?_ | refine z8 ?_ | refine y1 ?_ | refine y2 ?_ | refine y3 ?_ | refine y4 ?_ | refine y5 ?_ | refine y6 ?_ | refine y7 ?_ | refine y8 ?_ | refine Rt.p (fun _ => ?_) fun _ => ?_)
      | ((with_reducible apply w_ixM); (focus exact rfl); (focus exact rfl); case' hk => intro y hy) | ((with_reducible (first | apply w_val | apply q_ends)); (focus exact rfl)))
    with_unfolding_all rfl
theorem mul_s (k : Nat) (hk : k ≤ 7) : Fn0 Try.prog 121 [.int .u64 1, .int .u64 k] (fun v => v = .tup [.int .u64 0, .int .u64 k]) := by
  refine RawC.walk (H := hint121 Try.prog) ir121 Try.func121 rfl rfl rfl ?_
  unfold ir121
  repeat' (first
    | with_reducible (first | refine Rd.p ?_ | refine w_alt ?_ ?_ | refine zE ?_ | refine zE0 ?_)
    | with_reducible (first | refine zI fun y hy => ?_ | refine zL ?_ | refine zS ?_ | refine zA fun _ => ?_ | refine zV ?_ | refine zC ?_ | refine zG ?_ | refine zU ?_ | refine zG0 ?_ | refine zU0 ?_ | refine zF ?_)
    | ((with_reducible refine acall_id ?_); refine ACall.val (mul64_s k hk) rfl rfl ?_)
    | with_reducible (first | refine zX ?_ | refine zD fun _ => ?_ | refine zD0 ?_ | refine zN ?_ | refine zF0 ?_ | refine zX0 ?_ | refine z1 ?_ | refine z2 ?_ | refine z3 ?_ | refine z4 ?_ | refine z5 ?_ | refine z6 ?_ | refine z7 ?_ | refine z8 ?_ | refine y1 ?_ | refine y2 ?_ | refine y3 ?_ | refine y4 ?_ | refine y5 ?_ | refine y6 ?_ | refine y7 ?_ | refine y8 ?_ | refine Rt.p (fun _ => ?_) fun _ => ?_)
    | ((with_reducible apply w_ixM); (focus exact rfl); (focus exact rfl); case' hk => intro y hy) | ((with_reducible (first | apply w_val | apply q_ends)); (focus exact rfl)))
  rfl
def rp (n : Nat) (p : List AV) : List AV := (List.replicate n p).flatten
theorem rp_add (a b : Nat) (p : List AV) : rp (a + b) p = rp a p ++ rp b p := by
  unfold rp; rw [← List.replicate_append_replicate, List.flatten_append]
theorem rp_len (n : Nat) (p : List AV) (h : p.length = 2) : (rp n p).length = n * 2 := by
  induction n with
  | zero => rfl
  | succ n ih => rw [rp_add, List.length_append, ih]; simp [rp, h]; omega
theorem rp_scal (n : Nat) (p : List AV) (h : p.all AV.scal = true) : (rp n p).all AV.scal = true := by
  induction n with
  | zero => rfl
  | succ n ih => rw [rp_add, List.all_append, ih]; simpa [rp] using h
theorem rp_set (n m r : Nat) (p q : List AV) (hp : p.length = 2) (hq : q.length = 2) : setL (rp n p ++ rp (m + r) q) (n * 2) (rp m p) = rp (n + m) p ++ rp r q := by
  have h1 := rp_len n p hp
  have h2 := rp_len m p hp
  have h3 := rp_len m q hq
  have h4 := rp_len r q hq
  rw [← over_eq _ _ _ (by rw [rp_add, List.length_append, List.length_append]; omega), h2]
  rw [List.take_left' h1, List.drop_append, rp_add m r q, rp_add n m p]
  rw [List.drop_eq_nil_of_le (by omega), List.nil_append, show n * 2 + m * 2 - (rp n p).length = m * 2 by omega, List.drop_left' h3]
section
variable {P : Program} {K : (Nat → AV) → Sig → Prop} {e : Nat → AV} {σ : Sig}
theorem w_cvU {d : Nat} {k : IntKind} {x : IOpd} {r : List IStep} {n : Int} (hx : x.ev e = .int k n) (h0 : 0 ≤ n ∧ n < 18446744073709551616) (hk : stepsW P r K (upd e d (.int .u64 n)) σ) : stepsW P (⟨some d, none, .cvI .u64 x⟩ :: r) K e σ := by
  refine w_val (p := True) (v := .int .u64 n) ?_ trivial hk
  show cvIO .u64 (x.ev e) = _
  rw [hx]
  show some (True, AV.int .u64 (IntKind.u64.wrap n)) = _
  rw [wrap_u64_id n h0.1 h0.2]
theorem w_mks2 {d : Nat} {l : IOpd} {r : List IStep} {n : Nat} (hl : l.ev e = .int .i64 n) (hn : n ≤ 1000000)
    (hk : ∀ g, stepsW P r K (upd e d (.msl d g n 2)) (newS σ d g (rp n [.int .i64 0, .int .i64 0]))) : stepsW P (⟨some d, none, .mks 2 16 [.int .i64 0, .int .i64 0] l l⟩ :: r) K e σ := by
  refine w_det (p := 0 ≤ (n : Int) ∧ (n : Int) = n ∧ (n : Int) * 16 ≤ 140737488355328 ∧ (n : Int) ≤ 9223372036854775807) (v := fun g => .msl d g n 2) (σ' := fun g => newS σ d g (rp n [.int .i64 0, .int .i64 0])) (fun g => ?_) ⟨by omega, rfl, by omega, by omega⟩ hk
  show (match l.ev e, l.ev e with
    | .int _ n, .int _ c => some (0 ≤ n ∧ c = n ∧ n * (16 : Nat) ≤ 140737488355328 ∧ n ≤ 9223372036854775807, AV.msl d g n.toNat 2, newS σ d g (List.replicate n.toNat [AV.int .i64 0, .int .i64 0]).flatten)
    | _, _ => none) = _
  rw [hl]; rfl
theorem w_cpyE {d i g off n sz m : Nat} {x y : IOpd} {r : List IStep} {c src : List AV} {q : Prop} (kk : Nat) (c' : List AV) (hx : dstV (x.ev e) = some (i, g, off, n, sz)) (hσ : σ i = (g, .row c)) (hy : srcO sz σ (y.ev e) = some (q, m, src)) (hq : q) (hkk : min m n = kk) (hfit : off + n * sz ≤ c.length)
    (hsc : (src.take (kk * sz)).all AV.scal = true) (hc : setL c off (src.take (kk * sz)) = c') (hk : stepsW P r K (upd e d (.int .i64 kk)) (upd σ i (g, .row c'))) : stepsW P (⟨some d, none, .cpy sz x y⟩ :: r) K e σ := by
  subst hkk; subst hc
  refine w_det (p := q ∧ g = g ∧ sz = sz ∧ off + n * sz ≤ c.length ∧ (src.take (min m n * sz)).all AV.scal = true) (v := fun _ => .int .i64 (min m n : Nat)) (σ' := fun _ => upd σ i (g, .row (setL c off (src.take (min m n * sz))))) (fun g' => ?_) ⟨hq, rfl, rfl, hfit, hsc⟩ fun _ => hk
  show cpyO sz σ (x.ev e) (y.ev e) = _
  unfold cpyO
  rw [hx]
  simp only [hσ, hy]
end
theorem rep_s (lo hi : Int) (k : Nat) (hk : k ≤ 7) : RawC Try.prog 80 [.slc 2 [[.int .i64 lo, .int .i64 hi]] .non, .int .i64 k] (sg [])
    (SR (fun g v => v = .msl 30 g k 2) (fun g => [(30, (g, .row (rp k [.int .i64 lo, .int .i64 hi])))])) := by
  have hm := mul_s k hk
  have hp : [AV.int .i64 lo, .int .i64 hi].length = 2 := rfl
  have hq : [AV.int .i64 0, .int .i64 0].length = 2 := rfl
  have hs : [AV.int .i64 lo, .int .i64 hi].all AV.scal = true := rfl
  have hlq := rp_len k [AV.int .i64 0, .int .i64 0] hq
  refine RawC.walk (H := hint80 Try.prog) ir80 Try.func80 rfl rfl rfl ?_
  unfold ir80
  repeat' (first
    | with_reducible (first | refine Rd.p ?_ | refine w_alt ?_ ?_ | refine zE ?_ | refine zE0 ?_)
    | (refine w_cvU rfl ⟨by omega, by omega⟩ ?_)
    | (refine w_mks2 rfl (by omega) ?_; intro _)
    | (refine w_cpyE (min 1 k) (rp (min 1 k) [.int .i64 lo, .int .i64 hi] ++ rp (k - min 1 k) [.int .i64 0, .int .i64 0]) rfl rfl rfl rfl rfl (by rw [hlq]; omega) ?_ ?_ ?_)
    | with_reducible (first | refine zI fun y hy => ?_ | refine zL ?_ | refine zS ?_ | refine zA fun _ => ?_ | refine zV ?_ | refine zC ?_ | refine zG ?_ | refine zU ?_ | refine zG0 ?_ | refine zU0 ?_ | refine zF ?_)
    | ((with_reducible refine acall_id ?_); refine ACall.val hm rfl rfl ?_)
    | with_reducible (first | refine zX ?_ | refine zD fun _ => ?_ | refine zD0 ?_ | refine zN ?_ | refine zF0 ?_ | refine zX0 ?_ | refine z1 ?_ | refine z2 ?_ | refine z3 ?_ | refine z4 ?_ | refine z5 ?_ | refine z6 ?_ | refine z7 ?_ | refine z8 ?_ | refine y1 ?_ | refine y2 ?_ | refine y3 ?_ | refine y4 ?_ | refine y5 ?_ | refine y6 ?_ | refine y7 ?_ | refine y8 ?_ | refine Rt.p (fun _ => ?_) fun _ => ?_)
    | ((with_reducible apply w_ixM); (focus exact rfl); (focus exact rfl); case' hk => intro y hy) | ((with_reducible (first | apply w_val | apply q_ends)); (focus exact rfl)))
  · rcases (by omega : k = 0 ∨ 1 ≤ k) with rfl | h1
    · rfl
    · rw [Nat.min_eq_left h1]; rfl
  · rcases (by omega : k = 0 ∨ 1 ≤ k) with rfl | h1
    · rfl
    · have := rp_set 0 1 (k - 1) _ _ hp hq
      rw [show 1 + (k - 1) = k by omega] at this
      rw [Nat.min_eq_left h1]
      exact this
  rename_i g
  refine w_loopK [7] [] (fun n : Nat => n ≤ k ∧ (n = 0 → k = 0)) (fun n => k - n) (fun n => [(8, .int .i64 n)]) (fun n => [(30, (g, .row (rp n [.int .i64 lo, .int .i64 hi] ++ rp (k - n) [.int .i64 0, .int .i64 0])))]) (min 1 k) (by omega) ⟨rfl, trivial⟩ ⟨rfl, trivial⟩ ?_
  rintro n hn e σ
  dsimp only at hn ⊢
  by_cases hnk : n = k
  · subst hnk
    repeat' (first
      | with_reducible (first | refine Rd.p ?_ | refine w_alt ?_ ?_ | refine zE ?_ | refine zE0 ?_)
      | with_reducible (first | refine zI fun y hy => ?_ | refine zL ?_ | refine zS ?_ | refine zA fun _ => ?_ | refine zV ?_ | refine zC ?_ | refine zG ?_ | refine zU ?_ | refine zG0 ?_ | refine zU0 ?_ | refine zF ?_)
      | with_reducible (first | refine zX ?_ | refine zD fun _ => ?_ | refine zD0 ?_ | refine zN ?_ | refine zF0 ?_ | refine zX0 ?_ | refine z1 ?_ | refine z2 ?_ | refine z3 ?_ | refine z4 ?_ | refine z5 ?_ | refine z6 ?_ | refine z7 ?_ | refine z8 ?_ | refine y1 ?_ | refine y2 ?_ | refine y3 ?_ | refine y4 ?_ | refine y5 ?_ | refine y6 ?_ | refine y7 ?_ | refine y8 ?_ | refine Rt.p (fun _ => ?_) fun _ => ?_)
      | ((with_reducible apply w_ixM); (focus exact rfl); (focus exact rfl); case' hk => intro y hy) | ((with_reducible (first | apply w_val | apply q_ends)); (focus exact rfl)))
    refine ⟨g, rfl, slots_cons ?_ slots_nil⟩
    show (_, _) = _
    rw [Nat.sub_self]; simp [rp]
  · have h1 := rp_len n [AV.int .i64 lo, .int .i64 hi] hp
    have h2 := rp_len (k - n) [AV.int .i64 0, .int .i64 0] hq
    repeat' (first
      | with_reducible (first | refine Rd.p ?_ | refine w_alt ?_ ?_ | refine zE ?_ | refine zE0 ?_)
      | (refine w_cpyE (min n (k - n)) (rp (n + min n (k - n)) [.int .i64 lo, .int .i64 hi] ++ rp (k - n - min n (k - n)) [.int .i64 0, .int .i64 0]) rfl rfl rfl ⟨rfl, rfl, by rw [List.length_append]; omega⟩ ?_ ?_ ?_ ?_ ?_)
      | with_reducible (first | refine zI fun y hy => ?_ | refine zL ?_ | refine zS ?_ | refine zA fun _ => ?_ | refine zV ?_ | refine zC ?_ | refine zG ?_ | refine zU ?_ | refine zG0 ?_ | refine zU0 ?_ | refine zF ?_)
      | with_reducible (first | refine zX ?_ | refine zD fun _ => ?_ | refine zD0 ?_ | refine zN ?_ | refine zF0 ?_ | refine zX0 ?_ | refine z1 ?_ | refine z2 ?_ | refine z3 ?_ | refine z4 ?_ | refine z5 ?_ | refine z6 ?_ | refine z7 ?_ | refine z8 ?_ | refine y1 ?_ | refine y2 ?_ | refine y3 ?_ | refine y4 ?_ | refine y5 ?_ | refine y6 ?_ | refine y7 ?_ | refine y8 ?_ | refine Rt.p (fun _ => ?_) fun _ => ?_)
      | ((with_reducible apply w_ixM); (focus exact rfl); (focus exact rfl); case' hk => intro y hy) | ((with_reducible (first | apply w_val | apply q_ends)); (focus exact rfl)))
    · simp only [Int.sub_zero, Int.toNat_natCast]; omega
    · rw [List.length_append, h1, h2]; omega
    · have hx : rp n [AV.int .i64 lo, .int .i64 hi] = rp (min n (k - n)) [.int .i64 lo, .int .i64 hi] ++ rp (n - min n (k - n)) [.int .i64 lo, .int .i64 hi] := by rw [← rp_add]; congr 1; omega
      show (List.take _ (List.drop 0 _)).all _ = true
      rw [List.drop_zero, hx, List.append_assoc, List.take_left' (rp_len _ _ hp)]
      exact rp_scal _ _ hs
    · have hx : rp n [AV.int .i64 lo, .int .i64 hi] = rp (min n (k - n)) [.int .i64 lo, .int .i64 hi] ++ rp (n - min n (k - n)) [.int .i64 lo, .int .i64 hi] := by rw [← rp_add]; congr 1; omega
      have hs := rp_set n (min n (k - n)) (k - n - min n (k - n)) _ _ hp hq
      rw [show min n (k - n) + (k - n - min n (k - n)) = k - n by omega] at hs
      have ht : (List.take (min n (k - n) * 2) (List.drop ((0 : Int).toNat * 2) (rp n [AV.int .i64 lo, .int .i64 hi] ++ rp (k - n) [AV.int .i64 0, .int .i64 0]))) = rp (min n (k - n)) [AV.int .i64 lo, .int .i64 hi] := by
        show List.take _ (List.drop 0 _) = _
        rw [List.drop_zero, hx, List.append_assoc, List.take_left' (rp_len _ _ hp)]
      rw [ht]; exact hs
    · refine q_loop (n + min n (k - n)) ?_ ?_ (slots_cons ?_ slots_nil) (slots_cons ?_ slots_nil) (by repeat' (first | exact kept_nil | apply kept_cons | rfl)) (by repeat' (first | exact kept_nil | apply kept_cons | rfl))
      · omega
      · omega
      · show AV.int .i64 _ = AV.int .i64 _; first | rfl | (refine int_eq ?_; omega)
      · show (_, _) = _
        rw [show k - (n + min n (k - n)) = k - n - min n (k - n) by omega]
/-- A span in a row of numbers becomes wider. -/
def wideS (xs : List Int) (off : Nat) (a b : Int) : List Int := (xs.set off (min (xs.getD off 0) a)).set (off + 1) (max (xs.getD (off + 1) 0) b)
theorem wideS_len (xs : List Int) (off : Nat) (a b : Int) : (wideS xs off a b).length = xs.length := by simp [wideS]
theorem w_st2 {P : Program} {K : (Nat → AV) → Sig → Prop} {e : Nat → AV} {σ : Sig} {x v : IOpd} {r : List IStep} {i g off : Nat} {a b : Int} {xs : List Int} (hx : x.ev e = .ref i g off) (hv : v.ev e = .agg [.int .i64 a, .int .i64 b]) (hσ : σ i = (g, .row (xs.map (AV.int .i64)))) (ho : off + 1 < xs.length)
    (hk : stepsW P r K e (upd σ i (g, .row (((xs.set off a).set (off + 1) b).map (AV.int .i64))))) : stepsW P (⟨none, none, .st 2 x v⟩ :: r) K e σ := by
  refine w_det0 (p := g = g ∧ ([AV.int .i64 a, AV.int .i64 b].length = 2 ∧ [AV.int .i64 a, AV.int .i64 b].all AV.scal = true) ∧ off + 2 ≤ (xs.map (AV.int .i64)).length) (v := .junk) (σ' := upd σ i (g, .row (setL (xs.map (AV.int .i64)) off [.int .i64 a, .int .i64 b]))) (fun _ => ?_) ⟨rfl, ⟨rfl, rfl⟩, by simp; omega⟩ ?_
  · show stO 2 σ (v.ev e) (x.ev e) = _
    rw [hx, hv]
    simp only [stO, cellsO, hσ]
  · have : setL (xs.map (AV.int .i64)) off [.int .i64 a, .int .i64 b] = ((xs.set off a).set (off + 1) b).map (AV.int .i64) := by
      simp [setL, List.map_set]
    rw [this]; exact hk
theorem wide_s (xs : List Int) (g off : Nat) (o le la : List Int) (i : Int) (ho : off + 1 < xs.length) (h1 : 0 ≤ i ∧ i < le.length) (h2 : 0 ≤ i ∧ i < la.length) :
    RawC Try.prog 79 [.ref 1000 g off, .agg [.slc 1 (iR o) .non, .slc 1 (iR le) .non, .slc 1 (iR la) .non], .int .i64 i] (sg [(1000, (g, .row (xs.map (AV.int .i64))))])
      (SR (fun _ : Unit => fun v => v = .tup []) (fun _ => [(1000, (g, .row ((wideS xs off (getI le i) (getI la i)).map (AV.int .i64))))])) := by
  refine RawC.walk (H := hint79 Try.prog) ir79 Try.func79 rfl rfl rfl ?_
  unfold ir79
  repeat' (first
    | with_reducible (first | refine Rd.p ?_ | refine w_alt ?_ ?_ | refine zE ?_ | refine zE0 ?_)
    | (refine w_ldI rfl rfl (by omega) ?_)
    | (first | refine w_ixG (xs := le) rfl rfl h1 ?_ | refine w_ixG (xs := la) rfl rfl h2 ?_)
    | (refine w_st2 rfl rfl rfl (by omega) ?_)
    | with_reducible (first | refine zI fun y hy => ?_ | refine zL ?_ | refine zS ?_ | refine zA fun _ => ?_ | refine zV ?_ | refine zC ?_ | refine zG ?_ | refine zU ?_ | refine zG0 ?_ | refine zU0 ?_ | refine zF ?_)
    | with_reducible (first | refine zX ?_ | refine zD fun _ => ?_ | refine zD0 ?_ | refine zN ?_ | refine zF0 ?_ | refine zX0 ?_ | refine z1 ?_ | refine z2 ?_ | refine z3 ?_ | refine z4 ?_ | refine z5 ?_ | refine z6 ?_ | refine z7 ?_ | refine z8 ?_ | refine y1 ?_ | refine y2 ?_ | refine y3 ?_ | refine y4 ?_ | refine y5 ?_ | refine y6 ?_ | refine y7 ?_ | refine y8 ?_ | refine Rt.p (fun _ => ?_) fun _ => ?_)
    | ((with_reducible apply w_ixM); (focus exact rfl); (focus exact rfl); case' hk => intro y hy) | ((with_reducible (first | apply w_val | apply q_ends)); (focus exact rfl)))
  exact ⟨(), rfl, rfl, trivial⟩
/-- The days of the links, in the row of all spans. -/
def linkW (c : Chn) (x : List Int × List Int) : Nat → List Int → List Int → List Int
  | _, [], xs => xs
  | i, k :: r, xs => linkW c x (i + 1) r (wideS xs (k.toNat * 2) (getI x.2 (i + 1)) (getI (latF c x.1) (i + 1)))
def daysT (c : Chn) (st : List Int × List Int) (x : List Int × List Int) : List Int × List Int := (wideS st.1 0 (getI x.2 0) (getI (latF c x.1) 0), linkW c x 0 x.1 st.2)
def rowI (n : Nat) : List Int := (List.replicate n [100000, -1]).flatten
def daysF (c : Chn) : List Int × List Int := (talesF c).foldl (daysT c) ([100000, -1], rowI c.ls.length)
theorem linkW_len (c : Chn) (x : List Int × List Int) : ∀ (i : Nat) (l xs : List Int), (linkW c x i l xs).length = xs.length
  | _, [], _ => rfl
  | i, k :: r, xs => by rw [linkW, linkW_len c x (i + 1) r, wideS_len]
theorem rowI_len (n : Nat) : (rowI n).length = n * 2 := by
  induction n with
  | zero => rfl
  | succ n ih => unfold rowI at *; rw [List.replicate_succ, List.flatten_cons, List.length_append, ih]; simp; omega
theorem rowI_rp (n : Nat) : (rowI n).map (AV.int .i64) = rp n [.int .i64 100000, .int .i64 (-1)] := by
  unfold rowI rp
  rw [List.map_flatten, List.map_replicate]; rfl
def pairs : Nat → List Int → List (Int × Int)
  | n + 1, a :: b :: r => (a, b) :: pairs n r
  | _, _ => []
theorem chunk2 : ∀ (n : Nat) (xs : List Int), xs.length = n * 2 → chunk 2 n (normL (xs.map (AV.int .i64))) = sR (pairs n xs)
  | 0, _, _ => rfl
  | n + 1, [], h => by simp at h
  | n + 1, [a], h => by simp at h; omega
  | n + 1, a :: b :: r, h => by
    have := chunk2 n r (by simp at h; omega)
    show [AV.int .i64 a, .int .i64 b] :: chunk 2 n (normL (r.map (AV.int .i64))) = _
    rw [this]; rfl
theorem w_frzG {P : Program} {Q : Post} {e : Nat → AV} {σ : Sig} {t i g n sz : Nat} {c : List AV} (F : List (Nat × AV)) (S : List (Nat × (Nat × Res))) (hx : e t = .msl i g n sz) (hσ : σ i = (g, .row c)) (hs : c.all AV.scal = true)
    (hF : slots F (frzE i g c e)) (hS : slots S (frzS i g c σ)) (hk : ∀ e' σ', Q .nor (updL F e') (updL S σ')) : awp P (.frz (.t t)) Q e σ := by
  show frzW (e t) e σ (Q .nor)
  rw [hx]
  show (match σ i with | (g', .row c) => g = g' ∧ c.all AV.scal = true ∧ Q .nor (frzE i g c e) (frzS i g c σ) | _ => False)
  rw [hσ]
  refine ⟨rfl, hs, ?_⟩
  have := hk (frzE i g c e) (frzS i g c σ)
  rw [updL_slots hF, updL_slots hS] at this
  exact this
theorem frzA_msl2 {i g n : Nat} {xs : List Int} (hn : xs.length = n * 2) : frzA i g (xs.map (AV.int .i64)) (.msl i g n 2) = .slc 2 (sR (pairs n xs)) .non := by
  show (if i = i ∧ g = g ∧ n * 2 = (xs.map (AV.int .i64)).length then _ else _) = _
  rw [if_pos ⟨rfl, rfl, by simp [hn]⟩, chunk2 n xs hn]
theorem talesF_mem {c : Chn} {x : List Int × List Int} (h : x ∈ talesF c) : x.1.length = c.ls.length ∧ x.2.length = c.ls.length + 1 ∧ (latF c x.1).length = c.ls.length + 1 ∧ ∀ i ∈ x.1, 0 ≤ i ∧ i < (c.ls.length : Int) := by
  obtain ⟨h1, h2, h3⟩ := talesK_mem h
  simp only [List.length_nil, List.length_cons, Nat.zero_add] at h1 h2
  refine ⟨h1, by omega, ?_, h3 fun i hi => by cases hi⟩
  simp [latF, latB_len, h1]
theorem Sub.tag2 {sz : Nat} {es : List (List AV)} {t : Tag} : Sub (.slc sz es t) (.slc sz es .non) := fun G v h => h.imp (fun h => ⟨h.1.weak, h.2⟩) fun ⟨b, o, cap, h1, h2, h3, _⟩ => ⟨b, o, cap, h1, h2, h3, trivial⟩
theorem renL_int (ρ : List (Nat × Nat)) : ∀ xs : List Int, renL ρ (xs.map (AV.int .i64)) = xs.map (AV.int .i64)
  | [] => rfl
  | x :: xs => by rw [List.map_cons, renL, renL_int ρ xs]; rfl
theorem wide_call {σ : Sig} {d j : Nat} {Q : AV → Sig → Prop} (xs : List Int) (g off : Nat) (o le la : List Int) (i : Int) (hσ : σ j = (g, .row (xs.map (AV.int .i64)))) (hj : renOK [(1000, j)] = true) (ho : off + 1 < xs.length) (h1 : 0 ≤ i ∧ i < le.length) (h2 : 0 ≤ i ∧ i < la.length)
    (hQ : Q (.tup []) (upd σ j (g, .row ((wideS xs off (getI le i) (getI la i)).map (AV.int .i64))))) :
    ACall Try.prog 79 [.ref j g off, .agg [.slc 1 (iR o) .non, .slc 1 (iR le) .non, .slc 1 (iR la) .non], .int .i64 i] σ d Q := by
  refine ACall.liftS (wide_s xs g off o le la i ho h1 h2) [(1000, j)] none hj ?_ ?_ ⟨⟨_, by rw [hσ]⟩, trivial⟩ (fun _ => rfl) ?_
  · show _ = ren _ _ :: _
    have : lk (flipL [(1000, j)]) j = some 1000 := by simp [flipL, lk]
    simp only [ren, this]; rfl
  · show _ = [(1000, ((σ j).1, renR _ (σ j).2))]
    rw [hσ]; simp only [renR, renL_int]
  · rintro u av rfl
    show Q (.tup []) (upd σ j (g, renR _ (.row _)))
    simp only [renR, renL_int]; exact hQ
theorem rep_call {σ : Sig} {d : Nat} {Q : AV → Sig → Prop} (k : Nat) (hk : k ≤ 7) (hd : renOK [(30, d)] = true) (hQ : ∀ g, Q (.msl d g k 2) (upd σ d (g, .row ((rowI k).map (AV.int .i64))))) : ACall Try.prog 80 [.slc 2 [[.int .i64 100000, .int .i64 (-1)]] .non, .int .i64 k] σ d Q := by
  refine ACall.liftS (rep_s 100000 (-1) k hk) [] (some 30) hd rfl rfl trivial (fun _ => rfl) ?_
  rintro g av rfl
  have := hQ g
  show Q (.msl d g k 2) (upd σ d (g, renR _ (.row _)))
  rw [← rowI_rp]
  simp only [renR, renL_int]; exact this
theorem days_c (c : Chn) (hl : c.ls.length < 1000) : Fn0 Try.prog 24 [cA c] (fun v => if chainE c = 0 then v = .tup [.agg ((daysF c).1.map (AV.int .i64)), .slc 2 (sR (pairs c.ls.length (daysF c).2)) .non, .int .i64 0] else v = .tup [.agg [.int .i64 0, .int .i64 0], .nsl, .int .i64 (chainE c)]) := by
  by_cases he : chainE c = 0
  case neg =>
    simp only [if_neg he]
    refine RawC.walk (H := hint24 Try.prog) ir24 Try.func24 rfl rfl rfl ?_
    unfold ir24
    repeat' (first
      | with_reducible (first | refine Rd.p ?_ | refine w_alt ?_ ?_ | refine zE ?_ | refine zE0 ?_)
      | with_reducible (first | refine zI fun y hy => ?_ | refine zL ?_ | refine zS ?_ | refine zA fun _ => ?_ | refine zV ?_ | refine zC ?_ | refine zG ?_ | refine zU ?_ | refine zG0 ?_ | refine zU0 ?_ | refine zF ?_)
      | ((with_reducible refine acall_id ?_); refine ACall.val (check_s c hl) rfl rfl ?_)
      | with_reducible (first | refine zX ?_ | refine zD fun _ => ?_ | refine zD0 ?_ | refine zN ?_ | refine zF0 ?_ | refine zX0 ?_ | refine z1 ?_ | refine z2 ?_ | refine z3 ?_ | refine z4 ?_ | refine z5 ?_ | refine z6 ?_ | refine z7 ?_ | refine z8 ?_ | refine y1 ?_ | refine y2 ?_ | refine y3 ?_ | refine y4 ?_ | refine y5 ?_ | refine y6 ?_ | refine y7 ?_ | refine y8 ?_ | refine Rt.p (fun _ => ?_) fun _ => ?_)
      | ((with_reducible apply w_ixM); (focus exact rfl); (focus exact rfl); case' hk => intro y hy) | ((with_reducible (first | apply w_val | apply q_ends)); (focus exact rfl)))
    rfl
  obtain ⟨hf, hne⟩ := chainE_0 he
  have ok := formE_0 hf
  have hit := tales_it c ok.n ⟨ok.m.1, ok.m.2.1⟩ ok.h
  simp only [if_pos he]
  refine RawC.walk (H := hint24 Try.prog) ir24 Try.func24 rfl rfl rfl ?_
  unfold ir24
  repeat' (first
    | with_reducible (first | refine Rd.p ?_ | refine w_alt ?_ ?_ | refine zE ?_ | refine zE0 ?_)
    | with_reducible (first | refine zI fun y hy => ?_ | refine zL ?_ | refine zS ?_ | refine zA fun _ => ?_ | refine zV ?_ | refine zC ?_ | refine zG ?_ | refine zU ?_ | refine zG0 ?_ | refine zU0 ?_ | refine zF ?_)
    | ((with_reducible refine acall_id ?_); refine ACall.val (check_s c hl) rfl rfl ?_)
    | ((with_reducible refine acall_id ?_); refine ACall.val (tales_c c) rfl rfl ?_)
    | ((with_reducible refine acall_id ?_); (refine ACall.weak (args' := [.slc 2 [[.int .i64 100000, .int .i64 (-1)]] .non, .int .i64 c.ls.length]) (fun _ _ hr => SubL.rel (.cons Sub.tag2 (.cons (Sub.refl _) .nil)) hr) (rep_call c.ls.length ok.n rfl ?_); intro g22))
    | with_reducible (first | refine zX ?_ | refine zD fun _ => ?_ | refine zD0 ?_ | refine zN ?_ | refine zF0 ?_ | refine zX0 ?_ | refine z1 ?_ | refine z2 ?_ | refine z3 ?_ | refine z4 ?_ | refine z5 ?_ | refine z6 ?_ | refine z7 ?_ | refine z8 ?_ | refine y1 ?_ | refine y2 ?_ | refine y3 ?_ | refine y4 ?_ | refine y5 ?_ | refine y6 ?_ | refine y7 ?_ | refine y8 ?_ | refine Rt.p (fun _ => ?_) fun _ => ?_)
    | ((with_reducible apply w_ixM); (focus exact rfl); (focus exact rfl); case' hk => intro y hy) | ((with_reducible (first | apply w_val | apply q_ends)); (focus exact rfl)))
  rename_i g1 g2 g3 g6
  refine w_rfM (encT c) (talesF c) rfl hit (fun _ => rfl) [1, 3, 6] (fun (rest : List (List Int × List Int)) (y : List Int × List Int) => daysF c = rest.foldl (daysT c) y ∧ y.1.length = 2 ∧ y.2.length = c.ls.length * 2 ∧ ∀ x ∈ rest, x ∈ talesF c) (fun y => [(2, (g2, .row (y.1.map (AV.int .i64)))), (22, (g22, .row (y.2.map (AV.int .i64))))]) ([100000, -1], rowI c.ls.length) ⟨rfl, rfl, rowI_len _, fun x hx => hx⟩ ⟨rfl, rfl, trivial⟩ ?_ ?_
  · rintro x rest ⟨m, ks⟩ ⟨hr, h1, h2, h3⟩ σ'
    dsimp only at hr h1 h2 h3 ⊢
    obtain ⟨x1, x2, x3, x4⟩ := talesF_mem (h3 x (by simp))
    repeat' (first
      | with_reducible (first | refine Rd.p ?_ | refine w_alt ?_ ?_ | refine zE ?_ | refine zE0 ?_)
      | with_reducible (first | refine zI fun y hy => ?_ | refine zL ?_ | refine zS ?_ | refine zA fun _ => ?_ | refine zV ?_ | refine zC ?_ | refine zG ?_ | refine zU ?_ | refine zG0 ?_ | refine zU0 ?_ | refine zF ?_)
      | ((with_reducible refine acall_id ?_); (refine wide_call m _ 0 x.1 x.2 (latF c x.1) 0 rfl rfl (by omega) (by omega) (by omega) ?_))
      | with_reducible (first | refine zX ?_ | refine zD fun _ => ?_ | refine zD0 ?_ | refine zN ?_ | refine zF0 ?_ | refine zX0 ?_ | refine z1 ?_ | refine z2 ?_ | refine z3 ?_ | refine z4 ?_ | refine z5 ?_ | refine z6 ?_ | refine z7 ?_ | refine z8 ?_ | refine y1 ?_ | refine y2 ?_ | refine y3 ?_ | refine y4 ?_ | refine y5 ?_ | refine y6 ?_ | refine y7 ?_ | refine y8 ?_ | refine Rt.p (fun _ => ?_) fun _ => ?_)
      | ((with_reducible apply w_ixM); (focus exact rfl); (focus exact rfl); case' hk => intro y hy) | ((with_reducible (first | apply w_val | apply q_ends)); (focus exact rfl)))
    rename_i g7
    refine w_loopK [2, 3, 6, 7, 30, 31] [1, 2, 3, 6, 7] (fun y : Nat × List Int × List Int × List Int => x.1 = y.2.1 ++ y.2.2.1 ∧ y.2.1.length = y.1 ∧ linkW c x 0 x.1 ks = linkW c x y.1 y.2.2.1 y.2.2.2 ∧ y.2.2.2.length = c.ls.length * 2) (fun y => y.2.2.1.length) (fun y => [(32, .int .i64 y.1)]) (fun y => [(22, (g22, .row (y.2.2.2.map (AV.int .i64))))]) (0, [], x.1, ks) ⟨rfl, rfl, rfl, h2⟩ ⟨rfl, trivial⟩ ⟨rfl, trivial⟩ ?_
    rintro ⟨i, pre, post, xs⟩ ⟨hp, hi, hw, hx⟩ e σ
    dsimp only at hp hi hw hx ⊢
    have hlen := congrArg List.length hp
    rw [List.length_append] at hlen
    cases post with
    | nil =>
      simp only [List.length_nil] at hlen
      repeat' (first
        | with_reducible (first | refine Rd.p ?_ | refine w_alt ?_ ?_ | refine zE ?_ | refine zE0 ?_)
        | with_reducible (first | refine zI fun y hy => ?_ | refine zL ?_ | refine zS ?_ | refine zA fun _ => ?_ | refine zV ?_ | refine zC ?_ | refine zG ?_ | refine zU ?_ | refine zG0 ?_ | refine zU0 ?_ | refine zF ?_)
        | with_reducible (first | refine zX ?_ | refine zD fun _ => ?_ | refine zD0 ?_ | refine zN ?_ | refine zF0 ?_ | refine zX0 ?_ | refine z1 ?_ | refine z2 ?_ | refine z3 ?_ | refine z4 ?_ | refine z5 ?_ | refine z6 ?_ | refine z7 ?_ | refine z8 ?_ | refine y1 ?_ | refine y2 ?_ | refine y3 ?_ | refine y4 ?_ | refine y5 ?_ | refine y6 ?_ | refine y7 ?_ | refine y8 ?_ | refine Rt.p (fun _ => ?_) fun _ => ?_)
        | ((with_reducible apply w_ixM); (focus exact rfl); (focus exact rfl); case' hk => intro y hy) | ((with_reducible (first | apply w_val | apply q_ends)); (focus exact rfl)))
      refine q_rnd (wideS m 0 (getI x.2 0) (getI (latF c x.1) 0), xs) ?_ (by repeat' (first | exact slots_nil | apply slots_cons | rfl | (rw [map_snoc]; rfl) | (rw [len_snoc]; rfl) | (rw [hS]; rfl) | (rw [hS, map_snoc]; rfl) | (refine int_eq ?_; (try dsimp only); omega) | (refine congrArg AV.bool ?_; simp_all; done))) (by repeat' (first | exact kept_nil | apply kept_cons | rfl))
      refine ⟨?_, by simpa [wideS_len] using h1, hx, fun y hy => h3 y (by simp [hy])⟩
      rw [hr, List.foldl_cons, daysT]
      dsimp only
      rw [hw, linkW]
    | cons k post =>
      simp only [List.length_cons] at hlen
      have hk := x4 k (by rw [hp]; simp)
      repeat' (first
        | with_reducible (first | refine Rd.p ?_ | refine w_alt ?_ ?_ | refine zE ?_ | refine zE0 ?_)
        | (refine w_ixP (pre := pre) (y := k) (post := post) hp rfl (by show AV.int .i64 _ = AV.int .i64 _; rw [hi]) ?_)
        | with_reducible (first | refine zI fun y hy => ?_ | refine zL ?_ | refine zS ?_ | refine zA fun _ => ?_ | refine zV ?_ | refine zC ?_ | refine zG ?_ | refine zU ?_ | refine zG0 ?_ | refine zU0 ?_ | refine zF ?_)
        | ((with_reducible refine acall_id ?_); (refine wide_call xs _ (k.toNat * 2) x.1 x.2 (latF c x.1) ((i : Int) + 1) rfl rfl (by omega) (by omega) (by omega) ?_))
        | with_reducible (first | refine zX ?_ | refine zD fun _ => ?_ | refine zD0 ?_ | refine zN ?_ | refine zF0 ?_ | refine zX0 ?_ | refine z1 ?_ | refine z2 ?_ | refine z3 ?_ | refine z4 ?_ | refine z5 ?_ | refine z6 ?_ | refine z7 ?_ | refine z8 ?_ | refine y1 ?_ | refine y2 ?_ | refine y3 ?_ | refine y4 ?_ | refine y5 ?_ | refine y6 ?_ | refine y7 ?_ | refine y8 ?_ | refine Rt.p (fun _ => ?_) fun _ => ?_)
        | ((with_reducible apply w_ixM); (focus exact rfl); (focus exact rfl); case' hk => intro y hy) | ((with_reducible (first | apply w_val | apply q_ends)); (focus exact rfl)))
      refine zQ (i + 1, pre ++ [k], post, wideS xs (k.toNat * 2) (getI x.2 ((i : Int) + 1)) (getI (latF c x.1) ((i : Int) + 1))) ?_ ?_
      · exact ⟨by rw [hp]; simp, by simp [hi], by rw [hw, linkW], by rw [wideS_len]; exact hx⟩
      · simp
  · rintro ⟨m, ks⟩ ⟨hr, h1, h2, h3⟩ σ'
    dsimp only at hr h1 h2 h3 ⊢
    rw [hr]
    obtain ⟨a, b, rfl⟩ : ∃ a b, m = [a, b] := by
      cases m with
      | nil => simp at h1
      | cons a m => cases m with
        | nil => simp at h1
        | cons b m => cases m with
          | nil => exact ⟨a, b, rfl⟩
          | cons _ _ => simp at h1
    repeat' (first
      | with_reducible (first | refine Rd.p ?_ | refine w_alt ?_ ?_ | refine zE ?_ | refine zE0 ?_)
      | with_reducible (first | refine zI fun y hy => ?_ | refine zL ?_ | refine zS ?_ | refine zA fun _ => ?_ | refine zV ?_ | refine zC ?_ | refine zG ?_ | refine zU ?_ | refine zG0 ?_ | refine zU0 ?_ | refine zF ?_)
      | (refine w_frzG [(2, .ref 2 g2 0), (3, .ref 3 g3 0)] [(2, (g2, .row [.int .i64 a, .int .i64 b])), (3, (g3, .row [.slc 2 (sR (pairs c.ls.length ks)) .non]))] rfl rfl (by simp [AV.scal]) ⟨rfl, rfl, trivial⟩ ⟨frzS_at rfl (by decide) rfl, frzS_at rfl (by decide) (by show [frzA _ _ _ _] = _; rw [frzA_msl2 h2]), trivial⟩ ?_; intro _ _)
      | with_reducible (first | refine zX ?_ | refine zD fun _ => ?_ | refine zD0 ?_ | refine zN ?_ | refine zF0 ?_ | refine zX0 ?_ | refine z1 ?_ | refine z2 ?_ | refine z3 ?_ | refine z4 ?_ | refine z5 ?_ | refine z6 ?_ | refine z7 ?_ | refine z8 ?_ | refine y1 ?_ | refine y2 ?_ | refine y3 ?_ | refine y4 ?_ | refine y5 ?_ | refine y6 ?_ | refine y7 ?_ | refine y8 ?_ | refine Rt.p (fun _ => ?_) fun _ => ?_)
      | ((with_reducible apply w_ixM); (focus exact rfl); (focus exact rfl); case' hk => intro y hy) | ((with_reducible (first | apply w_val | apply q_ends)); (focus exact rfl)))
    rfl
end Go.Abs
