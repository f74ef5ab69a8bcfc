/- A part of the proofs of the laws of this seat: contracts of the functions that they reach, each proved of the program's form in Lean. No condition beyond those that each contract names. -/
import Derived.Test.YtmekfgjlcaonjaaE8
import Derived.Test.YtmekfgjlcaonjaaE7
import Derived.Test.YtmekfgjlcaonjaaE6
import Derived.Test.YtmekfgjlcaonjaaE5
import Derived.Test.YtmekfgjlcaonjaaE3
import Derived.Test.YtmekfgjlcaonjaaE2
import Derived.Test.YtmekfgjlcaonjaaE1
import Derived.Test.YtmekfgjlcaonjaaD8
import Derived.Test.YtmekfgjlcaonjaaC16
import Derived.Test.YtmekfgjlcaonjaaC14
import Derived.Test.YtmekfgjlcaonjaaC13
import Derived.Test.YtmekfgjlcaonjaaC12
import Derived.Test.YtmekfgjlcaonjaaC11
import Derived.Test.YtmekfgjlcaonjaaC10
import Derived.Test.YtmekfgjlcaonjaaC9
import Derived.Test.YtmekfgjlcaonjaaC8
import Derived.Test.YtmekfgjlcaonjaaC7
import Derived.Test.YtmekfgjlcaonjaaC5
import Derived.Test.YtmekfgjlcaonjaaC4
import Derived.Test.YtmekfgjlcaonjaaC2
import Derived.Test.YtmekfgjlcaonjaaC1
import Derived.Test.YtmekfgjlcaonjaaB
set_option linter.unusedVariables false
set_option linter.unusedSimpArgs false
set_option maxRecDepth 20000
set_option maxHeartbeats 4000000
namespace Go.Abs
open Go.Proofs
/-- aloeswood/aloeswoodref09.Plan -/
def ir45 : IFn :=
  ⟨22, [(2, none), (3, none)], (.seq (.ops [⟨(some 1), none, (.box 2 (.t 0))⟩,
    ⟨(some 2), none, (.mov (.k .nsl))⟩,
    ⟨(some 3), none, (.mov (.k (.int .i64 0)))⟩])
  (.seq (.seq (.ops [⟨(some 6), none, (.ld 2 true (.t 1))⟩,
    ⟨(some 7), none, (.callF 63 [(.t 6)])⟩,
    ⟨(some 4), none, (.mov (.t 7))⟩])
  (.seq (.ops [⟨(some 8), none, (.mov (.t 4))⟩,
    ⟨(some 9), none, (.bin .neq (.t 8) (.k (.int .i64 0)))⟩])
  (.cnd (.t 9)
    (.seq (.ops [⟨(some 10), none, (.mov (.t 4))⟩,
      ⟨(some 2), none, (.mov (.k .nsl))⟩,
      ⟨(some 3), none, (.mov (.t 10))⟩])
    .ret)
    .skip)))
  (.seq (.ops [⟨(some 11), none, (.ld 2 true (.t 1))⟩,
    ⟨(some 12), none, (.ld 2 true (.t 1))⟩,
    ⟨(some 13), none, (.callF 57 [(.t 12)])⟩,
    ⟨none, none, (.chk 2 true (.t 1) 11)⟩,
    ⟨(some 14), none, (.bld [.nsl, .nsl, (.int .i64 0), .nsl, (.int .i64 0)] [(0, 2, (.t 11)), (2, 1, (.t 13))])⟩,
    ⟨(some 15), none, (.box 5 (.t 14))⟩,
    ⟨(some 5), none, (.mov (.t 15))⟩])
  (.seq (.ops [⟨(some 16), none, (.mov (.t 5))⟩,
    ⟨(some 17), none, (.callF 94 [(.t 16), (.k .nsl), (.k (.int .i64 0))])⟩])
  (.seq (.ops [⟨(some 18), none, (.mov (.t 5))⟩,
    ⟨(some 19), none, (.nck (.t 18))⟩,
    ⟨(some 20), none, (.flA 3 (.t 19))⟩,
    ⟨(some 21), none, (.ld 1 false (.t 20))⟩,
    ⟨(some 2), none, (.mov (.t 21))⟩,
    ⟨(some 3), none, (.mov (.k (.int .i64 0)))⟩])
  .ret)))))⟩
def hint45 (P : Program) : Hint := {}
/-- aloeswood/aloeswoodref09.Fewest -/
def ir47 : IFn :=
  ⟨27, [(2, none), (3, none), (4, none)], (.seq (.ops [⟨(some 1), none, (.box 2 (.t 0))⟩,
    ⟨(some 2), none, (.mov (.k .nsl))⟩,
    ⟨(some 3), none, (.mov (.k (.int .i64 0)))⟩,
    ⟨(some 4), none, (.mov (.k (.int .i64 0)))⟩])
  (.seq (.seq (.ops [⟨(some 7), none, (.ld 2 true (.t 1))⟩,
    ⟨(some 8), none, (.callF 63 [(.t 7)])⟩,
    ⟨(some 5), none, (.mov (.t 8))⟩])
  (.seq (.ops [⟨(some 9), none, (.mov (.t 5))⟩,
    ⟨(some 10), none, (.bin .neq (.t 9) (.k (.int .i64 0)))⟩])
  (.cnd (.t 10)
    (.seq (.ops [⟨(some 11), none, (.mov (.t 5))⟩,
      ⟨(some 2), none, (.mov (.k .nsl))⟩,
      ⟨(some 3), none, (.mov (.k (.int .i64 0)))⟩,
      ⟨(some 4), none, (.mov (.t 11))⟩])
    .ret)
    .skip)))
  (.seq (.ops [⟨(some 12), none, (.ld 2 true (.t 1))⟩,
    ⟨(some 13), none, (.ld 2 true (.t 1))⟩,
    ⟨(some 14), none, (.callF 57 [(.t 13)])⟩,
    ⟨none, none, (.chk 2 true (.t 1) 12)⟩,
    ⟨(some 15), none, (.bld [.nsl, .nsl, (.int .i64 0), .nsl, (.int .i64 0)] [(0, 2, (.t 12)), (2, 1, (.t 14)), (4, 1, (.k (.int .i64 (-1))))])⟩,
    ⟨(some 16), none, (.box 5 (.t 15))⟩,
    ⟨(some 6), none, (.mov (.t 16))⟩])
  (.seq (.ops [⟨(some 17), none, (.mov (.t 6))⟩,
    ⟨(some 18), none, (.callF 96 [(.t 17), (.k .nsl), (.k (.int .i64 0)), (.k (.int .i64 0))])⟩])
  (.seq (.ops [⟨(some 19), none, (.mov (.t 6))⟩,
    ⟨(some 20), none, (.nck (.t 19))⟩,
    ⟨(some 21), none, (.flA 3 (.t 20))⟩,
    ⟨(some 22), none, (.ld 1 false (.t 21))⟩,
    ⟨(some 23), none, (.mov (.t 6))⟩,
    ⟨(some 24), none, (.nck (.t 23))⟩,
    ⟨(some 25), none, (.flA 4 (.t 24))⟩,
    ⟨(some 26), none, (.ld 1 false (.t 25))⟩,
    ⟨(some 2), none, (.mov (.t 22))⟩,
    ⟨(some 3), none, (.mov (.t 26))⟩,
    ⟨(some 4), none, (.mov (.k (.int .i64 0)))⟩])
  .ret)))))⟩
def hint47 (P : Program) : Hint := {}
/-- aloeswood/aloeswoodlaw09.StorePlans -/
def ir6 : IFn :=
  ⟨100, [(4, none)], (.seq (.ops [⟨(some 2), none, (.box 2 (.t 0))⟩,
    ⟨(some 4), none, (.mov (.k (.bool false)))⟩])
  (.seq (.seq (.ops [⟨(some 18), none, (.ld 2 true (.t 2))⟩,
    ⟨(some 19), none, (.callF 41 [(.t 18)])⟩])
  (.cnd (.t 19)
    (.seq (.ops [⟨(some 20), none, (.callF 16 [])⟩,
      ⟨(some 4), none, (.mov (.t 20))⟩])
    .ret)
    .skip))
  (.seq (.ops [⟨(some 21), none, (.ld 2 true (.t 2))⟩,
    ⟨(some 22), none, (.mov (.t 1))⟩,
    ⟨(some 23), none, (.callF 17 [(.t 22)])⟩,
    ⟨none, none, (.chk 2 true (.t 2) 21)⟩,
    ⟨(some 24), none, (.callF 42 [(.t 23), (.k (.int .i64 7))])⟩,
    ⟨none, none, (.chk 2 true (.t 2) 21)⟩,
    ⟨(some 25), none, (.bsl 2 [[.nsl, .nsl], [.nsl, .nsl]] [(0, (.t 21)), (1, (.t 24))])⟩,
    ⟨(some 5), none, (.mov (.t 25))⟩])
  (.seq (.seq (.ops [⟨(some 6), none, (.mov (.k (.int .i64 0)))⟩])
  (.blk 0 (.loop (.seq (.seq (.ops [⟨(some 26), none, (.mov (.t 6))⟩,
        ⟨(some 27), none, (.mov (.t 5))⟩,
        ⟨(some 28), none, (.len false (.t 27))⟩,
        ⟨(some 29), none, (.bin .lss (.t 26) (.t 28))⟩])
      (.cnd (.t 29)
        .skip
        (.exit 0)))
      (.seq (.blk 1 (.seq (.ops [⟨(some 32), none, (.mov (.t 5))⟩,
          ⟨(some 33), none, (.mov (.t 6))⟩,
          ⟨(some 34), none, (.ixA 2 (.t 32) (.t 33))⟩,
          ⟨(some 35), none, (.ld 2 true (.t 34))⟩,
          ⟨(some 36), none, (.callF 43 [(.t 35)])⟩,
          ⟨(some 7), none, (.new [.nsl, .nsl])⟩,
          ⟨none, none, (.st 2 (.t 7) (.t 36))⟩])
        (.seq (.ops [⟨(some 38), none, (.ld 2 true (.t 7))⟩,
          ⟨(some 39), none, (.callF 44 [(.t 38)])⟩,
          ⟨(some 37), none, (.mov (.t 39))⟩,
          ⟨(some 40), none, (.ext 0 (.t 37))⟩,
          ⟨(some 41), none, (.ext 1 (.t 37))⟩,
          ⟨(some 8), none, (.mov (.t 40))⟩,
          ⟨(some 9), none, (.mov (.t 41))⟩])
        (.seq (.ops [⟨(some 43), none, (.mov (.t 5))⟩,
          ⟨(some 44), none, (.mov (.t 6))⟩,
          ⟨(some 45), none, (.ixA 2 (.t 43) (.t 44))⟩,
          ⟨(some 46), none, (.ld 2 true (.t 45))⟩,
          ⟨(some 47), none, (.callF 45 [(.t 46)])⟩,
          ⟨(some 42), none, (.mov (.t 47))⟩,
          ⟨(some 48), none, (.ext 0 (.t 42))⟩,
          ⟨(some 49), none, (.ext 1 (.t 42))⟩,
          ⟨(some 10), none, (.mov (.t 48))⟩,
          ⟨(some 11), none, (.mov (.t 49))⟩])
        (.seq (.ops [⟨(some 51), none, (.ld 2 true (.t 7))⟩,
          ⟨(some 52), none, (.callF 46 [(.t 51)])⟩,
          ⟨(some 50), none, (.mov (.t 52))⟩,
          ⟨(some 53), none, (.ext 0 (.t 50))⟩,
          ⟨(some 54), none, (.ext 1 (.t 50))⟩,
          ⟨(some 55), none, (.ext 2 (.t 50))⟩,
          ⟨(some 12), none, (.mov (.t 53))⟩,
          ⟨(some 13), none, (.mov (.t 54))⟩,
          ⟨(some 14), none, (.mov (.t 55))⟩])
        (.seq (.ops [⟨(some 57), none, (.mov (.t 5))⟩,
          ⟨(some 58), none, (.mov (.t 6))⟩,
          ⟨(some 59), none, (.ixA 2 (.t 57) (.t 58))⟩,
          ⟨(some 60), none, (.ld 2 true (.t 59))⟩,
          ⟨(some 61), none, (.callF 47 [(.t 60)])⟩,
          ⟨(some 56), none, (.mov (.t 61))⟩,
          ⟨(some 62), none, (.ext 0 (.t 56))⟩,
          ⟨(some 63), none, (.ext 1 (.t 56))⟩,
          ⟨(some 64), none, (.ext 2 (.t 56))⟩,
          ⟨(some 15), none, (.mov (.t 62))⟩,
          ⟨(some 16), none, (.mov (.t 63))⟩,
          ⟨(some 17), none, (.mov (.t 64))⟩])
        (.seq (.ops [⟨(some 65), none, (.mov (.t 9))⟩,
          ⟨(some 66), none, (.mov (.t 11))⟩,
          ⟨(some 67), none, (.bin .neq (.t 65) (.t 66))⟩,
          ⟨(some 68), none, (.mov (.t 67))⟩,
          ⟨(some 69), (some (68, false)), (.mov (.t 14))⟩,
          ⟨(some 70), (some (68, false)), (.mov (.t 17))⟩,
          ⟨(some 71), (some (68, false)), (.bin .neq (.t 69) (.t 70))⟩,
          ⟨(some 72), none, (.pick (.t 68) (.k (.bool true)) (.t 71))⟩,
          ⟨(some 73), none, (.mov (.t 72))⟩,
          ⟨(some 74), (some (73, false)), (.mov (.t 13))⟩,
          ⟨(some 75), (some (73, false)), (.mov (.t 16))⟩,
          ⟨(some 76), (some (73, false)), (.bin .neq (.t 74) (.t 75))⟩,
          ⟨(some 77), none, (.pick (.t 73) (.k (.bool true)) (.t 76))⟩,
          ⟨(some 78), none, (.mov (.t 77))⟩,
          ⟨(some 79), (some (78, false)), (.mov (.t 8))⟩,
          ⟨(some 80), (some (78, false)), (.mov (.t 10))⟩,
          ⟨(some 81), (some (78, false)), (.callF 40 [(.t 79), (.t 80)])⟩,
          ⟨(some 82), (some (78, false)), (.not (.t 81))⟩,
          ⟨(some 83), none, (.pick (.t 78) (.k (.bool true)) (.t 82))⟩,
          ⟨(some 84), none, (.mov (.t 83))⟩,
          ⟨(some 85), (some (84, false)), (.mov (.t 12))⟩,
          ⟨(some 86), (some (84, false)), (.mov (.t 15))⟩,
          ⟨(some 87), (some (84, false)), (.callF 40 [(.t 85), (.t 86)])⟩,
          ⟨(some 88), (some (84, false)), (.not (.t 87))⟩,
          ⟨(some 89), none, (.pick (.t 84) (.k (.bool true)) (.t 88))⟩,
          ⟨(some 90), none, (.mov (.t 89))⟩,
          ⟨(some 91), (some (90, false)), (.ld 2 true (.t 7))⟩,
          ⟨(some 92), (some (90, false)), (.mov (.t 5))⟩,
          ⟨(some 93), (some (90, false)), (.mov (.t 6))⟩,
          ⟨(some 94), (some (90, false)), (.ixA 2 (.t 92) (.t 93))⟩,
          ⟨(some 95), (some (90, false)), (.ld 2 true (.t 94))⟩,
          ⟨(some 96), (some (90, false)), (.callF 48 [(.t 91), (.t 95)])⟩,
          ⟨(some 97), (some (90, false)), (.not (.t 96))⟩,
          ⟨(some 98), none, (.pick (.t 90) (.k (.bool true)) (.t 97))⟩])
        (.cnd (.t 98)
          (.seq (.ops [⟨(some 4), none, (.mov (.k (.bool false)))⟩])
          .ret)
          .skip))))))))
      (.ops [⟨(some 30), none, (.mov (.t 6))⟩,
        ⟨(some 31), none, (.bin .add (.t 30) (.k (.int .i64 1)))⟩,
        ⟨(some 6), none, (.mov (.t 31))⟩]))))))
  (.seq (.ops [⟨(some 99), none, (.callF 16 [])⟩,
    ⟨(some 4), none, (.mov (.t 99))⟩])
  .ret)))))⟩
def hint6 (P : Program) : Hint := {}
theorem rPlan_s (s : Sea) (h1 : s.ss.length < 1000) (h2 : s.gs.length < 1000) (h3 : ∀ l ∈ s.gs, l.length < 1000) :
    Fn0 Try.prog 45 [seA s] (fun v => ∃ o : Option Unit, (o = none → planF s = []) ∧ v = .tup [bV (planF s) (o.map fun _ => none), .int .i64 (seaE s)]) := by
  have hck := rcheckS_s s h1 h2 h3
  by_cases he : seaE s = 0
  · have ok := okS_of he
    have hp : planF s = rlongF s s.gs.length [] [] := by
      rw [planF, if_pos he]; exact (rlongF_eq s s.gs.length [] [] (by simp) (by simp)).1
    rw [he] at hck
    have hI := fun g => rlong_s s g 0 he s.gs.length [] [] none (by simp) (fun x h => by cases h) (fun _ => rfl) (by simp)
    have hI' := fun g => RawC.weak (args := [.ref 1000 g 0, .nsl, .int .i64 0]) (fun _ _ hr => SubL.rel (.cons (Sub.refl _) (.cons Sub.nil (.cons (Sub.refl _) .nil))) hr) (hI g)
    rw [he]
    refine RawC.walk (H := hint45 Try.prog) ir45 Try.func45 rfl rfl rfl ?_
    unfold ir45
    repeat' (first
      | with_reducible (first | refine Rd.p ?_ | refine w_alt ?_ ?_ | refine zE ?_ | refine zE0 ?_)
      | with_reducible (first | refine zI fun y hy => ?_ | refine zL ?_ | refine zS ?_ | refine zA fun _ => ?_ | refine zV ?_ | refine zC ?_ | refine zG ?_ | refine zU ?_ | refine zG0 ?_ | refine zU0 ?_ | refine zF ?_)
      | ((with_reducible refine acall_id ?_); refine ACall.val hck rfl rfl ?_)
      | ((with_reducible refine acall_id ?_); refine ACall.val (combR_c s ok.s4 ok.s6) rfl rfl ?_)
      | ((with_reducible refine acall_id ?_); (refine ACall.liftS (hI' _) [(1000, 15)] none rfl rfl rfl ⟨⟨_, rfl⟩, trivial⟩ (fun _ => rfl) ?_; rintro ⟨b2, o2⟩ _ ⟨rfl, hb2, hob2, hb29⟩; dsimp only at hb2 hob2; rcases o2 with _ | _ | g2))
      | with_reducible (first | refine zX ?_ | refine zD fun _ => ?_ | refine zD0 ?_ | refine zN ?_ | refine zF0 ?_ | refine zX0 ?_ | refine z1 ?_ | refine z2 ?_ | refine z3 ?_ | refine z4 ?_ | refine z5 ?_ | refine z6 ?_ | refine z7 ?_ | refine z8 ?_ | refine y1 ?_ | refine y2 ?_ | refine y3 ?_ | refine y4 ?_ | refine y5 ?_ | refine y6 ?_ | refine y7 ?_ | refine y8 ?_ | refine Rt.p (fun _ => ?_) fun _ => ?_)
      | ((with_reducible apply w_ixM); (focus exact rfl); (focus exact rfl); case' hk => intro y hy) | ((with_reducible (first | apply w_val | apply q_ends)); (focus exact rfl)))
    · exact ⟨none, fun _ => by rw [hp, ← hb2]; exact hob2 rfl, rfl⟩
    · exact ⟨some (), (fun h => by cases h), by rw [hp, ← hb2]; rfl⟩
    · exact ⟨some (), (fun h => by cases h), by rw [hp, ← hb2]; rfl⟩
  · have hp : planF s = [] := by rw [planF, if_neg he]
    refine RawC.walk (H := hint45 Try.prog) ir45 Try.func45 rfl rfl rfl ?_
    unfold ir45
    repeat' (first
      | with_reducible (first | refine Rd.p ?_ | refine w_alt ?_ ?_ | refine zE ?_ | refine zE0 ?_)
      | with_reducible (first | refine zI fun y hy => ?_ | refine zL ?_ | refine zS ?_ | refine zA fun _ => ?_ | refine zV ?_ | refine zC ?_ | refine zG ?_ | refine zU ?_ | refine zG0 ?_ | refine zU0 ?_ | refine zF ?_)
      | ((with_reducible refine acall_id ?_); refine ACall.val hck rfl rfl ?_)
      | with_reducible (first | refine zX ?_ | refine zD fun _ => ?_ | refine zD0 ?_ | refine zN ?_ | refine zF0 ?_ | refine zX0 ?_ | refine z1 ?_ | refine z2 ?_ | refine z3 ?_ | refine z4 ?_ | refine z5 ?_ | refine z6 ?_ | refine z7 ?_ | refine z8 ?_ | refine y1 ?_ | refine y2 ?_ | refine y3 ?_ | refine y4 ?_ | refine y5 ?_ | refine y6 ?_ | refine y7 ?_ | refine y8 ?_ | refine Rt.p (fun _ => ?_) fun _ => ?_)
      | ((with_reducible apply w_ixM); (focus exact rfl); (focus exact rfl); case' hk => intro y hy) | ((with_reducible (first | apply w_val | apply q_ends)); (focus exact rfl)))
    exact ⟨none, fun _ => hp, rfl⟩
theorem rFewest_s (s : Sea) (h1 : s.ss.length < 1000) (h2 : s.gs.length < 1000) (h3 : ∀ l ∈ s.gs, l.length < 1000) :
    Fn0 Try.prog 47 [seA s] (fun v => ∃ o : Option Unit, (o = none → (fewF s).1 = []) ∧ v = .tup [bV (fewF s).1 (o.map fun _ => none), .int .i64 (fewF s).2, .int .i64 (seaE s)]) := by
  have hck := rcheckS_s s h1 h2 h3
  by_cases he : seaE s = 0
  · have ok := okS_of he
    have hp : fewF s = growF s (want2 s) s.gs.length [] 0 ([], -1) := by rw [fewF, if_pos he]
    rw [he] at hck
    have hI := fun g => rfew_s s g he s.gs.length [] 0 [] (-1) none (by simp) (fun x h => by cases h) (by simp) (fun _ => rfl)
    have hI' := fun g => RawC.weak (args := [.ref 1000 g 0, .nsl, .int .i64 0, .int .i64 0]) (fun _ _ hr => SubL.rel (.cons (Sub.refl _) (.cons Sub.nil (.cons (Sub.refl _) (.cons (Sub.refl _) .nil)))) hr) (hI g)
    rw [he]
    refine RawC.walk (H := hint47 Try.prog) ir47 Try.func47 rfl rfl rfl ?_
    unfold ir47
    repeat' (first
      | with_reducible (first | refine Rd.p ?_ | refine w_alt ?_ ?_ | refine zE ?_ | refine zE0 ?_)
      | with_reducible (first | refine zI fun y hy => ?_ | refine zL ?_ | refine zS ?_ | refine zA fun _ => ?_ | refine zV ?_ | refine zC ?_ | refine zG ?_ | refine zU ?_ | refine zG0 ?_ | refine zU0 ?_ | refine zF ?_)
      | ((with_reducible refine acall_id ?_); refine ACall.val hck rfl rfl ?_)
      | ((with_reducible refine acall_id ?_); refine ACall.val (combR_c s ok.s4 ok.s6) rfl rfl ?_)
      | ((with_reducible refine acall_id ?_); (refine ACall.liftS (hI' _) [(1000, 16)] none rfl rfl rfl ⟨⟨_, rfl⟩, trivial⟩ (fun _ => rfl) ?_; rintro ⟨⟨b2, m2⟩, o2⟩ _ ⟨rfl, hb2, hob2⟩; dsimp only at hb2 hob2; rcases o2 with _ | _ | g2))
      | with_reducible (first | refine zX ?_ | refine zD fun _ => ?_ | refine zD0 ?_ | refine zN ?_ | refine zF0 ?_ | refine zX0 ?_ | refine z1 ?_ | refine z2 ?_ | refine z3 ?_ | refine z4 ?_ | refine z5 ?_ | refine z6 ?_ | refine z7 ?_ | refine z8 ?_ | refine y1 ?_ | refine y2 ?_ | refine y3 ?_ | refine y4 ?_ | refine y5 ?_ | refine y6 ?_ | refine y7 ?_ | refine y8 ?_ | refine Rt.p (fun _ => ?_) fun _ => ?_)
      | ((with_reducible apply w_ixM); (focus exact rfl); (focus exact rfl); case' hk => intro y hy) | ((with_reducible (first | apply w_val | apply q_ends)); (focus exact rfl)))
    · exact ⟨none, fun _ => by rw [hp, ← hb2]; exact hob2 rfl, by rw [hp, ← hb2]; rfl⟩
    · exact ⟨some (), (fun h => by cases h), by rw [hp, ← hb2]; rfl⟩
    · exact ⟨some (), (fun h => by cases h), by rw [hp, ← hb2]; rfl⟩
  · have hp : fewF s = ([], 0) := by rw [fewF, if_neg he]
    rw [hp]
    refine RawC.walk (H := hint47 Try.prog) ir47 Try.func47 rfl rfl rfl ?_
    unfold ir47
    repeat' (first
      | with_reducible (first | refine Rd.p ?_ | refine w_alt ?_ ?_ | refine zE ?_ | refine zE0 ?_)
      | with_reducible (first | refine zI fun y hy => ?_ | refine zL ?_ | refine zS ?_ | refine zA fun _ => ?_ | refine zV ?_ | refine zC ?_ | refine zG ?_ | refine zU ?_ | refine zG0 ?_ | refine zU0 ?_ | refine zF ?_)
      | ((with_reducible refine acall_id ?_); refine ACall.val hck rfl rfl ?_)
      | with_reducible (first | refine zX ?_ | refine zD fun _ => ?_ | refine zD0 ?_ | refine zN ?_ | refine zF0 ?_ | refine zX0 ?_ | refine z1 ?_ | refine z2 ?_ | refine z3 ?_ | refine z4 ?_ | refine z5 ?_ | refine z6 ?_ | refine z7 ?_ | refine z8 ?_ | refine y1 ?_ | refine y2 ?_ | refine y3 ?_ | refine y4 ?_ | refine y5 ?_ | refine y6 ?_ | refine y7 ?_ | refine y8 ?_ | refine Rt.p (fun _ => ?_) fun _ => ?_)
      | ((with_reducible apply w_ixM); (focus exact rfl); (focus exact rfl); case' hk => intro y hy) | ((with_reducible (first | apply w_val | apply q_ends)); (focus exact rfl)))
    exact ⟨none, fun _ => rfl, rfl⟩
theorem Sub.tup {l m : List AV} (h : SubL l m) : Sub (.tup l) (.tup m) := fun G v ⟨vs, h1, h2⟩ => ⟨vs, h1, SubL.rel h h2⟩
theorem bV_sub {b : List Int} {o : Option Unit} (h : o = none → b = []) : Sub (bV b (o.map fun _ => none)) (.slc 1 (iR b) .non) := by
  cases o with
  | none => rw [h rfl]; exact Sub.nil
  | some u => exact Sub.refl _
theorem Plan_w (s : Sea) (h1 : s.ss.length < 1000) (h2 : s.gs.length < 1000) (h3 : ∀ l ∈ s.gs, l.length < 1000) : Fn0 Try.prog 44 [seA s] (fun v => v = .tup [.slc 1 (iR (planF s)) .non, .int .i64 (seaE s)]) :=
  RawC.sub (Plan_s s h1 h2 h3) fun a _ h => ⟨_, by rw [h]; exact Sub.tup (.cons (optI_now _).sub (.cons (Sub.refl _) .nil)), rfl⟩
theorem Fewest_w (s : Sea) (h1 : s.ss.length < 1000) (h2 : s.gs.length < 1000) (h3 : ∀ l ∈ s.gs, l.length < 1000) : Fn0 Try.prog 46 [seA s] (fun v => v = .tup [.slc 1 (iR (fewF s).1) .non, .int .i64 (fewF s).2, .int .i64 (seaE s)]) :=
  RawC.sub (Fewest_s s h1 h2 h3) fun a _ h => ⟨_, by rw [h]; exact Sub.tup (.cons (optI_now _).sub (.cons (Sub.refl _) (.cons (Sub.refl _) .nil))), rfl⟩
theorem rPlan_w (s : Sea) (h1 : s.ss.length < 1000) (h2 : s.gs.length < 1000) (h3 : ∀ l ∈ s.gs, l.length < 1000) : Fn0 Try.prog 45 [seA s] (fun v => v = .tup [.slc 1 (iR (planF s)) .non, .int .i64 (seaE s)]) :=
  RawC.sub (rPlan_s s h1 h2 h3) fun a _ ⟨o, ho, h⟩ => ⟨_, by rw [h]; exact Sub.tup (.cons (bV_sub ho) (.cons (Sub.refl _) .nil)), rfl⟩
theorem rFewest_w (s : Sea) (h1 : s.ss.length < 1000) (h2 : s.gs.length < 1000) (h3 : ∀ l ∈ s.gs, l.length < 1000) : Fn0 Try.prog 47 [seA s] (fun v => v = .tup [.slc 1 (iR (fewF s).1) .non, .int .i64 (fewF s).2, .int .i64 (seaE s)]) :=
  RawC.sub (rFewest_s s h1 h2 h3) fun a _ ⟨o, ho, h⟩ => ⟨_, by rw [h]; exact Sub.tup (.cons (bV_sub ho) (.cons (Sub.refl _) (.cons (Sub.refl _) .nil))), rfl⟩
theorem foldI_all {α : Type} {f : α → Nat → α} {I : α → Prop} (h : ∀ st n, I st → I (f st n)) : ∀ (m n : Nat) (st : α), I st → I (foldI f m n st)
  | 0, _, _, h0 => h0
  | m + 1, n, st, h0 => foldI_all h m (n + 1) _ (h _ _ h0)
theorem growF2_len (s : Sea) : ∀ (k : Nat) (p : List Int) (r : Int) (b : List Int × Int), b.1.length ≤ s.gs.length → (growF s (want2 s) k p r b).1.length ≤ s.gs.length := by
  have hw : ∀ (p : List Int) (r : Int) (b : List Int × Int), b.1.length ≤ s.gs.length → (want2 s b p r).1.1.length ≤ s.gs.length := by
    intro p r b hb
    unfold want2
    split
    · exact hb
    · split
      · rename_i h; exact Nat.le_of_eq h
      · exact hb
  intro k
  induction k with
  | zero => intro p r b hb; exact hw p r b hb
  | succ k ih =>
    intro p r b hb
    rw [growF]
    split
    · exact foldI_all (I := fun st : List Int × Int => st.1.length ≤ s.gs.length) (fun st n hst => ih _ _ _ hst) _ _ _ (hw p r b hb)
    · exact hw p r b hb
theorem planF_len (s : Sea) : (planF s).length ≤ s.gs.length := by
  unfold planF; split
  · rw [(rlongF_eq s s.gs.length [] [] (by simp) (by simp)).1]; exact (rlongF_eq s s.gs.length [] [] (by simp) (by simp)).2
  · simp
theorem fewF_len (s : Sea) : (fewF s).1.length ≤ s.gs.length := by
  unfold fewF; split
  · exact growF2_len s _ _ _ _ (by simp)
  · simp
theorem get2 {α : Type} {a b x : α} (h : x ∈ [a, b]) : x = a ∨ x = b := by simpa using h
theorem plans_c (s : Sea) (nums : List Int) (h1 : s.ss.length < 2 ^ 63) (h2 : s.gs.length < 2 ^ 63) (h3 : ∀ l ∈ s.gs, l.length < 2 ^ 63) (hn : nums.length < 2 ^ 62) :
    Fn0 Try.prog 6 [seA s, .slc 1 (iR nums) .non] (fun v => v = .bool true) := by
  have hV := vast_c s h1 h2 h3
  cases hv : vastB s with
  | true =>
    rw [hv] at hV
    refine RawC.walk (H := hint6 Try.prog) ir6 Try.func6 rfl rfl rfl ?_
    unfold ir6
    repeat' (first
      | with_reducible (first | refine Rd.p ?_ | refine w_alt ?_ ?_ | refine zE ?_ | refine zE0 ?_)
      | with_reducible (first | refine zI fun y hy => ?_ | refine zL ?_ | refine zS ?_ | refine zA fun _ => ?_ | refine zV ?_ | refine zC ?_ | refine zG ?_ | refine zU ?_ | refine zG0 ?_ | refine zU0 ?_ | refine zF ?_)
      | ((with_reducible refine acall_id ?_); refine ACall.val hV rfl rfl ?_)
      | ((with_reducible refine acall_id ?_); refine ACall.val wake_s rfl rfl ?_)
      | with_reducible (first | refine zX ?_ | refine zD fun _ => ?_ | refine zD0 ?_ | refine zN ?_ | refine zF0 ?_ | refine zX0 ?_ | refine z1 ?_ | refine z2 ?_ | refine z3 ?_ | refine z4 ?_ | refine z5 ?_ | refine z6 ?_ | refine z7 ?_ | refine z8 ?_ | refine y1 ?_ | refine y2 ?_ | refine y3 ?_ | refine y4 ?_ | refine y5 ?_ | refine y6 ?_ | refine y7 ?_ | refine y8 ?_ | refine Rt.p (fun _ => ?_) fun _ => ?_)
      | ((with_reducible apply w_ixM); (focus exact rfl); (focus exact rfl); case' hk => intro y hy) | ((with_reducible (first | apply w_val | apply q_ends)); (focus exact rfl)))
    rfl
  | false =>
  rw [hv] at hV
  have sm := vastB_f hv
  refine RawC.walk (H := hint6 Try.prog) ir6 Try.func6 rfl rfl rfl ?_
  unfold ir6
  repeat' (first
    | with_reducible (first | refine Rd.p ?_ | refine w_alt ?_ ?_ | refine zE ?_ | refine zE0 ?_)
    | with_reducible (first | refine zI fun y hy => ?_ | refine zL ?_ | refine zS ?_ | refine zA fun _ => ?_ | refine zV ?_ | refine zC ?_ | refine zG ?_ | refine zU ?_ | refine zG0 ?_ | refine zU0 ?_ | refine zF ?_)
    | ((with_reducible refine acall_id ?_); refine ACall.val hV rfl rfl ?_)
    | ((with_reducible refine acall_id ?_); refine ACall.liftS (boxOf_s nums hn) [] (some 6) rfl rfl rfl trivial (fun _ => rfl) ?_; rintro ⟨gb, w⟩ _ rfl)
    | ((with_reducible refine acall_id ?_); refine ACall.box (seasonOf_c _ _ 7 (by omega)) rfl rfl rfl ?_; rintro _ _ ⟨s2, rfl, hE, hgk⟩)
    | with_reducible (first | refine zX ?_ | refine zD fun _ => ?_ | refine zD0 ?_ | refine zN ?_ | refine zF0 ?_ | refine zX0 ?_ | refine z1 ?_ | refine z2 ?_ | refine z3 ?_ | refine z4 ?_ | refine z5 ?_ | refine z6 ?_ | refine z7 ?_ | refine z8 ?_ | refine y1 ?_ | refine y2 ?_ | refine y3 ?_ | refine y4 ?_ | refine y5 ?_ | refine y6 ?_ | refine y7 ?_ | refine y8 ?_ | refine Rt.p (fun _ => ?_) fun _ => ?_)
    | ((with_reducible apply w_ixM); (focus exact rfl); (focus exact rfl); case' hk => intro y hy) | ((with_reducible (first | apply w_val | apply q_ends)); (focus exact rfl)))
  have ok := okS_of hE
  have sm2 : Sml s2 := ⟨by have := ok.s4; omega, by have := ok.g9; omega, fun l hl => by have := ok.g12 l hl; omega⟩
  have hS3 : ∀ x ∈ [s, s2], Sml x := fun x hx => by rcases get2 hx with rfl | rfl; exact sm; exact sm2
  obtain ⟨SS, hSS⟩ : ∃ SS, SS = [s, s2] := ⟨_, rfl⟩
  rw [← hSS] at hS3
  have l1 : SS.length = 2 := by rw [hSS]; rfl
  refine w_loopK [] [] (fun i : Nat => i ≤ 2) (fun i => 2 - i) (fun i => [(6, .int .i64 i), (5, .slc 2 (SS.map seC) .full)]) (fun _ => []) 0 (by show (0 : Nat) ≤ 2; omega) ⟨rfl, by rw [hSS]; rfl, trivial⟩ trivial ?_
  rintro i hi e σ
  try dsimp only at hi ⊢
  by_cases hi3 : i < 2
  case neg =>
    obtain rfl : i = 2 := by omega
    repeat' (first
      | with_reducible (first | refine Rd.p ?_ | refine w_alt ?_ ?_ | refine zE ?_ | refine zE0 ?_)
      | with_reducible (first | refine zI fun y hy => ?_ | refine zL ?_ | refine zS ?_ | refine zA fun _ => ?_ | refine zV ?_ | refine zC ?_ | refine zG ?_ | refine zU ?_ | refine zG0 ?_ | refine zU0 ?_ | refine zF ?_)
      | ((with_reducible refine acall_id ?_); refine ACall.val wake_s rfl rfl ?_)
      | with_reducible (first | refine zX ?_ | refine zD fun _ => ?_ | refine zD0 ?_ | refine zN ?_ | refine zF0 ?_ | refine zX0 ?_ | refine z1 ?_ | refine z2 ?_ | refine z3 ?_ | refine z4 ?_ | refine z5 ?_ | refine z6 ?_ | refine z7 ?_ | refine z8 ?_ | refine y1 ?_ | refine y2 ?_ | refine y3 ?_ | refine y4 ?_ | refine y5 ?_ | refine y6 ?_ | refine y7 ?_ | refine y8 ?_ | refine Rt.p (fun _ => ?_) fun _ => ?_)
      | ((with_reducible apply w_ixM); (focus exact rfl); (focus exact rfl); case' hk => intro y hy) | ((with_reducible (first | apply w_val | apply q_ends)); (focus exact rfl)))
    all_goals rfl
  obtain ⟨x, hx⟩ : ∃ x, SS[i]? = some x := ⟨_, List.getElem?_eq_getElem (by omega)⟩
  have smx : Sml x := hS3 x (List.mem_of_getElem? hx)
  clear hSS hS3
  have hOS := ownSeason_c x smx
  have q1 : x.ss.length < 1000 := by have := smx.ss; omega
  have q2 : x.gs.length < 1000 := by have := smx.gs; omega
  have q3 : ∀ l ∈ x.gs, l.length < 1000 := fun l hl => by have := smx.g l hl; omega
  have hP := Plan_w x q1 q2 q3
  have hF := Fewest_w x q1 q2 q3
  have hP2 := rPlan_w x q1 q2 q3
  have hF2 := rFewest_w x q1 q2 q3
  have hQS := eqSeasons_c x smx
  have hpl := planF_len x
  have hfl := fewF_len x
  generalize seaE x = se at *
  generalize planF x = pf at *
  generalize fewF x = ff at *
  obtain ⟨ff, fm⟩ := ff
  dsimp only at hF hF2 hfl
  have hE1 := eq_c pf pf (by omega)
  have hE2 := eq_c ff ff (by omega)
  rw [decide_eq_true rfl] at hE1 hE2
  repeat' (first
    | with_reducible (first | refine Rd.p ?_ | refine w_alt ?_ ?_ | refine zE ?_ | refine zE0 ?_)
    | (refine w_ixE (f := seC) hx rfl rfl ?_)
    | with_reducible (first | refine zI fun y hy => ?_ | refine zL ?_ | refine zS ?_ | refine zA fun _ => ?_ | refine zV ?_ | refine zC ?_ | refine zG ?_ | refine zU ?_ | refine zG0 ?_ | refine zU0 ?_ | refine zF ?_)
    | ((with_reducible refine acall_id ?_); refine ACall.val hOS rfl rfl ?_)
    | ((with_reducible refine acall_id ?_); refine ACall.val hP rfl rfl ?_)
    | ((with_reducible refine acall_id ?_); refine ACall.val hF rfl rfl ?_)
    | ((with_reducible refine acall_id ?_); refine ACall.val hP2 rfl rfl ?_)
    | ((with_reducible refine acall_id ?_); refine ACall.val hF2 rfl rfl ?_)
    | ((with_reducible refine acall_id ?_); refine ACall.val hE1 rfl rfl ?_)
    | ((with_reducible refine acall_id ?_); refine ACall.val hE2 rfl rfl ?_)
    | ((with_reducible refine acall_id ?_); refine ACall.val hQS rfl rfl ?_)
    | with_reducible (first | refine zX ?_ | refine zD fun _ => ?_ | refine zD0 ?_ | refine zN ?_ | refine zF0 ?_ | refine zX0 ?_ | refine z1 ?_ | refine z2 ?_ | refine z3 ?_ | refine z4 ?_ | refine z5 ?_ | refine z6 ?_ | refine z7 ?_ | refine z8 ?_ | refine y1 ?_ | refine y2 ?_ | refine y3 ?_ | refine y4 ?_ | refine y5 ?_ | refine y6 ?_ | refine y7 ?_ | refine y8 ?_ | refine Rt.p (fun _ => ?_) fun _ => ?_)
    | ((with_reducible apply w_ixM); (focus exact rfl); (focus exact rfl); case' hk => intro y hy) | ((with_reducible (first | apply w_val | apply q_ends)); (focus exact rfl)))
  exact q_loop (i + 1) (by show i + 1 ≤ 2; omega) (by show 2 - (i + 1) < 2 - i; omega) (slots_cons (by show AV.int .i64 _ = AV.int .i64 _; refine int_eq ?_; simp) (slots_cons rfl slots_nil)) trivial (by repeat' (first | exact kept_nil | apply kept_cons | rfl)) (by repeat' (first | exact kept_nil | apply kept_cons | rfl))
end Go.Abs
