/- A part of the proofs of the laws of this seat: contracts of the functions that they reach, each proved of the program's form in Lean. No condition beyond those that each contract names. -/
import Derived.Test.YtmekfgjlcaonjaaG4
import Derived.Test.YtmekfgjlcaonjaaG3
import Derived.Test.YtmekfgjlcaonjaaG2
import Derived.Test.YtmekfgjlcaonjaaG1
import Derived.Test.YtmekfgjlcaonjaaC14
import Derived.Test.YtmekfgjlcaonjaaC11
import Derived.Test.YtmekfgjlcaonjaaC2
import Derived.Test.YtmekfgjlcaonjaaC1
import Derived.Test.YtmekfgjlcaonjaaB
import Derived.Test.YtmekfgjlcaonjaaD8
set_option linter.unusedVariables false
set_option linter.unusedSimpArgs false
set_option maxRecDepth 20000
set_option maxHeartbeats 2000000
namespace Go.Abs
open Go.Proofs
/-- aloeswood/aloeswoodref09.Chosen -/
def ir70 : IFn :=
  ⟨53, [(4, none), (5, none), (6, none)], (.seq (.ops [⟨(some 4), none, (.mov (.k .nsl))⟩,
    ⟨(some 5), none, (.mov (.k (.int .i64 0)))⟩,
    ⟨(some 6), none, (.mov (.k (.bool false)))⟩])
  (.seq (.ops [⟨(some 7), none, (.nil 1 7)⟩])
  (.seq (.ops [⟨(some 8), none, (.mov (.k (.int .i64 0)))⟩])
  (.seq (.seq (.ops [⟨(some 9), none, (.mov (.k (.int .i64 0)))⟩])
  (.blk 0 (.loop (.seq (.seq (.ops [⟨(some 11), none, (.mov (.t 9))⟩,
        ⟨(some 12), none, (.mov (.t 0))⟩,
        ⟨(some 13), none, (.len false (.t 12))⟩,
        ⟨(some 14), none, (.bin .lss (.t 11) (.t 13))⟩])
      (.cnd (.t 14)
        .skip
        (.exit 0)))
      (.seq (.blk 1 (.seq (.seq (.ops [⟨(some 17), none, (.mov (.t 1))⟩,
          ⟨(some 18), none, (.mov (.t 9))⟩,
          ⟨(some 19), none, (.bin .shr (.t 17) (.t 18))⟩,
          ⟨(some 20), none, (.bin .and (.t 19) (.k (.int .i64 1)))⟩,
          ⟨(some 21), none, (.bin .eql (.t 20) (.k (.int .i64 0)))⟩])
        (.cnd (.t 21)
          (.exit 1)
          .skip))
        (.seq (.seq (.ops [⟨(some 10), none, (.mov (.k (.int .i64 0)))⟩])
        (.blk 2 (.loop (.seq (.seq (.ops [⟨(some 22), none, (.mov (.t 10))⟩,
              ⟨(some 23), none, (.mov (.t 7))⟩,
              ⟨(some 24), none, (.len false (.t 23))⟩,
              ⟨(some 25), none, (.bin .lss (.t 22) (.t 24))⟩])
            (.cnd (.t 25)
              .skip
              (.exit 2)))
            (.seq (.blk 3 (.seq (.ops [⟨(some 28), none, (.mov (.t 0))⟩,
                ⟨(some 29), none, (.mov (.t 7))⟩,
                ⟨(some 30), none, (.mov (.t 10))⟩,
                ⟨(some 31), none, (.ixA 1 (.t 29) (.t 30))⟩,
                ⟨(some 32), none, (.ld 1 false (.t 31))⟩,
                ⟨(some 33), none, (.ixA 4 (.t 28) (.t 32))⟩,
                ⟨(some 34), none, (.ld 4 true (.t 33))⟩,
                ⟨(some 35), none, (.mov (.t 0))⟩,
                ⟨(some 36), none, (.mov (.t 9))⟩,
                ⟨(some 37), none, (.ixA 4 (.t 35) (.t 36))⟩,
                ⟨(some 38), none, (.ld 4 true (.t 37))⟩,
                ⟨(some 39), none, (.callF 115 [(.t 34), (.t 38)])⟩])
              (.cnd (.t 39)
                (.seq (.ops [⟨(some 4), none, (.mov (.k .nsl))⟩,
                  ⟨(some 5), none, (.mov (.k (.int .i64 0)))⟩,
                  ⟨(some 6), none, (.mov (.k (.bool false)))⟩])
                .ret)
                .skip)))
            (.ops [⟨(some 26), none, (.mov (.t 10))⟩,
              ⟨(some 27), none, (.bin .add (.t 26) (.k (.int .i64 1)))⟩,
              ⟨(some 10), none, (.mov (.t 27))⟩]))))))
        (.ops [⟨(some 40), none, (.mov (.t 7))⟩,
          ⟨(some 41), none, (.mov (.t 9))⟩,
          ⟨(some 42), none, (.bsl 1 [[(.int .i64 0)]] [(0, (.t 41))])⟩,
          ⟨(some 44), none, (.mov (.t 8))⟩,
          ⟨(some 45), none, (.mov (.t 0))⟩,
          ⟨(some 46), none, (.mov (.t 9))⟩,
          ⟨(some 47), none, (.ixA 4 (.t 45) (.t 46))⟩,
          ⟨(some 48), none, (.flA 3 (.t 47))⟩,
          ⟨(some 49), none, (.ld 1 false (.t 48))⟩,
          ⟨(some 50), none, (.bin .add (.t 44) (.t 49))⟩,
          ⟨(some 43), none, (.app 1 8 (.t 40) (.t 42) 7)⟩,
          ⟨none, none, (.chk 1 false (.t 48) 49)⟩,
          ⟨(some 7), none, (.mov (.t 43))⟩,
          ⟨(some 8), none, (.mov (.t 50))⟩]))))
      (.ops [⟨(some 15), none, (.mov (.t 9))⟩,
        ⟨(some 16), none, (.bin .add (.t 15) (.k (.int .i64 1)))⟩,
        ⟨(some 9), none, (.mov (.t 16))⟩]))))))
  (.seq (.ops [⟨(some 51), none, (.mov (.t 7))⟩,
    ⟨(some 52), none, (.mov (.t 8))⟩,
    ⟨(some 4), none, (.mov (.t 51))⟩,
    ⟨(some 5), none, (.mov (.t 52))⟩,
    ⟨(some 6), none, (.mov (.k (.bool true)))⟩])
  .ret)))))⟩
def hint70 (P : Program) : Hint := { site := [(43, 7)], nils := [(7, 1)], frz := [], mve := [], wr := [] }
/-- aloeswood/aloeswoodref09.Lend -/
def ir68 : IFn :=
  ⟨65, [(2, none), (3, none), (4, none)], (.seq (.ops [⟨(some 2), none, (.mov (.k .nsl))⟩,
    ⟨(some 3), none, (.mov (.k (.int .i64 0)))⟩,
    ⟨(some 4), none, (.mov (.k (.int .i64 0)))⟩])
  (.seq (.seq (.ops [⟨(some 12), none, (.mov (.t 0))⟩,
    ⟨(some 13), none, (.callF 114 [(.t 12)])⟩,
    ⟨(some 5), none, (.mov (.t 13))⟩])
  (.seq (.ops [⟨(some 14), none, (.mov (.t 5))⟩,
    ⟨(some 15), none, (.bin .neq (.t 14) (.k (.int .i64 0)))⟩])
  (.cnd (.t 15)
    (.seq (.ops [⟨(some 16), none, (.mov (.t 5))⟩,
      ⟨(some 2), none, (.mov (.k .nsl))⟩,
      ⟨(some 3), none, (.mov (.k (.int .i64 0)))⟩,
      ⟨(some 4), none, (.mov (.t 16))⟩])
    .ret)
    .skip)))
  (.seq (.ops [⟨(some 6), none, (.mov (.k .nsl))⟩])
  (.seq (.ops [⟨(some 7), none, (.mov (.k (.int .i64 0)))⟩])
  (.seq (.seq (.ops [⟨(some 8), none, (.mov (.k (.int .i64 0)))⟩])
  (.blk 0 (.loop (.seq (.seq (.ops [⟨(some 17), none, (.mov (.t 8))⟩,
        ⟨(some 18), none, (.mov (.t 0))⟩,
        ⟨(some 19), none, (.len false (.t 18))⟩,
        ⟨(some 20), none, (.bin .shl (.k (.int .i64 1)) (.t 19))⟩,
        ⟨(some 21), none, (.bin .lss (.t 17) (.t 20))⟩])
      (.cnd (.t 21)
        .skip
        (.exit 0)))
      (.seq (.blk 1 (.seq (.ops [⟨(some 25), none, (.mov (.t 0))⟩,
          ⟨(some 26), none, (.mov (.t 8))⟩,
          ⟨(some 27), none, (.callF 70 [(.t 25), (.t 26)])⟩,
          ⟨(some 24), none, (.mov (.t 27))⟩,
          ⟨(some 28), none, (.ext 0 (.t 24))⟩,
          ⟨(some 29), none, (.ext 1 (.t 24))⟩,
          ⟨(some 30), none, (.ext 2 (.t 24))⟩,
          ⟨(some 9), none, (.mov (.t 28))⟩,
          ⟨(some 10), none, (.mov (.t 29))⟩,
          ⟨(some 11), none, (.mov (.t 30))⟩])
        (.seq (.ops [⟨(some 31), none, (.mov (.t 11))⟩,
          ⟨(some 32), none, (.mov (.t 31))⟩,
          ⟨(some 33), (some (32, true)), (.mov (.t 10))⟩,
          ⟨(some 34), (some (32, true)), (.mov (.t 7))⟩,
          ⟨(some 35), (some (32, true)), (.bin .gtr (.t 33) (.t 34))⟩,
          ⟨(some 36), (some (32, true)), (.mov (.t 35))⟩,
          ⟨(some 37), (some (36, false)), (.mov (.t 10))⟩,
          ⟨(some 38), (some (36, false)), (.mov (.t 7))⟩,
          ⟨(some 39), (some (36, false)), (.bin .eql (.t 37) (.t 38))⟩,
          ⟨(some 40), (some (36, false)), (.mov (.t 39))⟩,
          ⟨(some 41), (some (40, true)), (.mov (.t 9))⟩,
          ⟨(some 42), (some (40, true)), (.len false (.t 41))⟩,
          ⟨(some 43), (some (40, true)), (.mov (.t 6))⟩,
          ⟨(some 44), (some (40, true)), (.len false (.t 43))⟩,
          ⟨(some 45), (some (40, true)), (.bin .lss (.t 42) (.t 44))⟩,
          ⟨(some 46), (some (40, true)), (.mov (.t 45))⟩,
          ⟨(some 47), (some (46, false)), (.mov (.t 9))⟩,
          ⟨(some 48), (some (46, false)), (.len false (.t 47))⟩,
          ⟨(some 49), (some (46, false)), (.mov (.t 6))⟩,
          ⟨(some 50), (some (46, false)), (.len false (.t 49))⟩,
          ⟨(some 51), (some (46, false)), (.bin .eql (.t 48) (.t 50))⟩,
          ⟨(some 52), (some (46, false)), (.mov (.t 51))⟩,
          ⟨(some 53), (some (52, true)), (.mov (.t 9))⟩,
          ⟨(some 54), (some (52, true)), (.mov (.t 6))⟩,
          ⟨(some 55), (some (52, true)), (.callF 64 [(.t 53), (.t 54)])⟩,
          ⟨(some 56), (some (46, false)), (.pick (.t 52) (.t 55) (.k (.bool false)))⟩,
          ⟨(some 57), (some (40, true)), (.pick (.t 46) (.k (.bool true)) (.t 56))⟩,
          ⟨(some 58), (some (36, false)), (.pick (.t 40) (.t 57) (.k (.bool false)))⟩,
          ⟨(some 59), (some (32, true)), (.pick (.t 36) (.k (.bool true)) (.t 58))⟩,
          ⟨(some 60), none, (.pick (.t 32) (.t 59) (.k (.bool false)))⟩])
        (.cnd (.t 60)
          (.ops [⟨(some 61), none, (.mov (.t 9))⟩,
            ⟨(some 62), none, (.mov (.t 10))⟩,
            ⟨(some 6), none, (.mov (.t 61))⟩,
            ⟨(some 7), none, (.mov (.t 62))⟩])
          .skip))))
      (.ops [⟨(some 22), none, (.mov (.t 8))⟩,
        ⟨(some 23), none, (.bin .add (.t 22) (.k (.int .i64 1)))⟩,
        ⟨(some 8), none, (.mov (.t 23))⟩]))))))
  (.seq (.ops [⟨(some 63), none, (.mov (.t 6))⟩,
    ⟨(some 64), none, (.mov (.t 7))⟩,
    ⟨(some 2), none, (.mov (.t 63))⟩,
    ⟨(some 3), none, (.mov (.t 64))⟩,
    ⟨(some 4), none, (.mov (.k (.int .i64 0)))⟩])
  .ret))))))⟩
def hint68 (P : Program) : Hint := {}
theorem and1_0 (set : Nat) (hs : set < 2 ^ 62) {k : Int} (hk : 0 ≤ k ∧ k < 62) : decide (bitV .and .i64 ((set : Int).fdiv (2 ^ min k.toNat IntKind.i64.bits)) 1 = 0) = !set.testBit k.toNat := by
  obtain ⟨j, rfl⟩ : ∃ j : Nat, k = j := ⟨k.toNat, by omega⟩
  rw [fdiv_pow set j (by omega)]
  have h1 : bitV .and .i64 ((set >>> j : Nat) : Int) ((1 : Nat) : Int) = ((set >>> j &&& 1 : Nat) : Int) := and_nat _ 1 (Nat.lt_of_le_of_lt (Nat.shiftRight_le _ _) hs) (by decide)
  rw [Nat.and_one_is_mod] at h1
  rw [show (1 : Int) = ((1 : Nat) : Int) from rfl, h1]
  have e2 : set.testBit j = decide (set >>> j % 2 = 1) := by simp [Nat.testBit, Nat.and_comm, Nat.and_one_is_mod]
  rw [Int.toNat_natCast, e2]
  by_cases h : set >>> j % 2 = 1
  · rw [decide_eq_true h, decide_eq_false (by omega)]; rfl
  · rw [decide_eq_false h, decide_eq_true (by omega)]; rfl
def rchV (l : List Lon) (set : Nat) : AV := if okS [] (chT l set) = true then .tup [.slc 1 (iR (bitsL set l.length)) .non, .int .i64 (sumL (chT l set)), .bool true] else .tup [.nsl, .int .i64 0, .bool false]
theorem rChosen_s (l : List Lon) (set : Nat) (hl : l.length ≤ 12) (hs : set < 2 ^ 62) (hw : ∀ x ∈ l, 0 ≤ x.wo ∧ x.wo ≤ 1000) : Fn0 Try.prog 70 [.slc 4 (oR l) .non, .int .i64 set] (fun v => v = rchV l set) := by
  refine RawC.walk (H := hint70 Try.prog) ir70 Try.func70 rfl rfl rfl ?_
  unfold ir70
  repeat' (first
    | with_reducible (first | refine Rd.p ?_ | refine w_alt ?_ ?_ | refine zE ?_ | refine zE0 ?_)
    | with_reducible (first | refine zI fun y hy => ?_ | refine zL ?_ | refine zS ?_ | refine zA fun _ => ?_ | refine zV ?_ | refine zC ?_ | refine zG ?_ | refine zU ?_ | refine zG0 ?_ | refine zU0 ?_ | refine zF ?_)
    | with_reducible (first | refine zX ?_ | refine zD fun _ => ?_ | refine zD0 ?_ | refine zN ?_ | refine zF0 ?_ | refine zX0 ?_ | refine z1 ?_ | refine z2 ?_ | refine z3 ?_ | refine z4 ?_ | refine z5 ?_ | refine z6 ?_ | refine z7 ?_ | refine z8 ?_ | refine y1 ?_ | refine y2 ?_ | refine y3 ?_ | refine y4 ?_ | refine y5 ?_ | refine y6 ?_ | refine y7 ?_ | refine y8 ?_ | refine Rt.p (fun _ => ?_) fun _ => ?_)
    | ((with_reducible apply w_ixM); (focus exact rfl); (focus exact rfl); case' hk => intro y hy) | ((with_reducible (first | apply w_val | apply q_ends)); (focus exact rfl)))
  rename_i g7
  refine w_loopK [0, 1] [] (fun x : List Lon × List Lon × Nat => l = x.1 ++ x.2.1 ∧ okS [] ((bitsL set x.1.length).map (loAt l)) = true) (fun x => x.2.1.length) (fun x => [(9, .int .i64 x.1.length), (8, .int .i64 (sumL ((bitsL set x.1.length).map (loAt l)))), (7, .slc 1 (iR (bitsL set x.1.length)) (.own 7 x.2.2))]) (fun x => [(7, (x.2.2, .row []))]) ([], l, g7) ⟨rfl, rfl⟩ ⟨rfl, rfl, rfl, trivial⟩ (by exact ⟨rfl, trivial⟩) ?_
  rintro ⟨pre, post, g7⟩ ⟨hpp, hok⟩ e σ
  dsimp only at hpp hok ⊢
  have hlen := congrArg List.length hpp
  rw [List.length_append] at hlen
  cases post with
  | nil =>
    simp only [List.length_nil] at hlen
    have hpl : pre.length = l.length := by omega
    rw [hpl] at hok
    rw [rchV, if_pos hok]
    repeat' (first
      | with_reducible (first | refine Rd.p ?_ | refine w_alt ?_ ?_ | refine zE ?_ | refine zE0 ?_)
      | with_reducible (first | refine zI fun y hy => ?_ | refine zL ?_ | refine zS ?_ | refine zA fun _ => ?_ | refine zV ?_ | refine zC ?_ | refine zG ?_ | refine zU ?_ | refine zG0 ?_ | refine zU0 ?_ | refine zF ?_)
      | with_reducible (first | refine zX ?_ | refine zD fun _ => ?_ | refine zD0 ?_ | refine zN ?_ | refine zF0 ?_ | refine zX0 ?_ | refine z1 ?_ | refine z2 ?_ | refine z3 ?_ | refine z4 ?_ | refine z5 ?_ | refine z6 ?_ | refine z7 ?_ | refine z8 ?_ | refine y1 ?_ | refine y2 ?_ | refine y3 ?_ | refine y4 ?_ | refine y5 ?_ | refine y6 ?_ | refine y7 ?_ | refine y8 ?_ | refine Rt.p (fun _ => ?_) fun _ => ?_)
      | ((with_reducible apply w_ixM); (focus exact rfl); (focus exact rfl); case' hk => intro y hy) | ((with_reducible (first | apply w_val | apply q_ends)); (focus exact rfl)))
    rw [hpl]; rfl
  | cons y post =>
    simp only [List.length_cons] at hlen
    have hbit : decide (bitV .and .i64 ((set : Int).fdiv (2 ^ min ((pre.length : Int)).toNat IntKind.i64.bits)) 1 = 0) = !set.testBit pre.length := and1_0 set hs (k := (pre.length : Int)) ⟨by omega, by omega⟩
    have hsu := bitsL_succ set pre.length
    have hla := loAt_mid hpp
    have hbl := bitsL_len set pre.length
    have hps : (pre ++ [y]).length = pre.length + 1 := by simp
    have hTw : ∀ x ∈ (bitsL set pre.length).map (loAt l), 0 ≤ x.wo ∧ x.wo ≤ 1000 := fun x hx => by
      obtain ⟨i, hi, rfl⟩ := List.mem_map.1 hx
      have hb := bitsL_mem hi
      exact hw _ (by unfold loAt; rw [List.getElem?_eq_getElem (by omega)]; exact List.getElem_mem _)
    have hsb := sumL_bd hTw
    have hmp : ((bitsL set pre.length).map (loAt l)).length = (bitsL set pre.length).length := by simp
    have hyw := hw y (by rw [hpp]; simp)
    cases hb : set.testBit pre.length with
    | false =>
      rw [hb] at hbit hsu
      have hbit := of_decide_eq_true hbit
      rw [if_neg (by decide), List.append_nil] at hsu
      repeat' (first
        | with_reducible (first | refine Rd.p ?_ | refine w_alt ?_ ?_ | refine zE ?_ | refine zE0 ?_)
        | (refine w_ixP hpp rfl rfl ?_)
        | with_reducible (first | refine zI fun y hy => ?_ | refine zL ?_ | refine zS ?_ | refine zA fun _ => ?_ | refine zV ?_ | refine zC ?_ | refine zG ?_ | refine zU ?_ | refine zG0 ?_ | refine zU0 ?_ | refine zF ?_)
        | with_reducible (first | refine zX ?_ | refine zD fun _ => ?_ | refine zD0 ?_ | refine zN ?_ | refine zF0 ?_ | refine zX0 ?_ | refine z1 ?_ | refine z2 ?_ | refine z3 ?_ | refine z4 ?_ | refine z5 ?_ | refine z6 ?_ | refine z7 ?_ | refine z8 ?_ | refine y1 ?_ | refine y2 ?_ | refine y3 ?_ | refine y4 ?_ | refine y5 ?_ | refine y6 ?_ | refine y7 ?_ | refine y8 ?_ | refine Rt.p (fun _ => ?_) fun _ => ?_)
        | ((with_reducible apply w_ixM); (focus exact rfl); (focus exact rfl); case' hk => intro y hy) | ((with_reducible (first | apply w_val | apply q_ends)); (focus exact rfl)))
      refine q_loop (pre ++ [y], post, _) ⟨by show l = _; rw [hpp]; simp, by dsimp only; rw [hps, hsu]; exact hok⟩ (by simp) (slots_cons (by show AV.int .i64 _ = AV.int .i64 _; refine int_eq ?_; simp) (slots_cons (by show AV.int .i64 _ = AV.int .i64 _; rw [hps, hsu]) (slots_cons (by show _ = AV.slc 1 (iR (bitsL set (pre ++ [y]).length)) _; rw [hps, hsu]; rfl) slots_nil))) (by exact ⟨rfl, trivial⟩) (by repeat' (first | exact kept_nil | apply kept_cons | rfl)) (by repeat' (first | exact kept_nil | apply kept_cons | rfl))
    | true =>
      rw [hb] at hbit hsu
      have hbit := of_decide_eq_false hbit
      rw [if_pos rfl] at hsu
      have hmp2 : (bitsL set (pre.length + 1)).map (loAt l) = (bitsL set pre.length).map (loAt l) ++ [y] := by rw [hsu, List.map_append, List.map_singleton, hla]
      have hsn := okS_snoc ((bitsL set pre.length).map (loAt l)) y
      rw [hok, Bool.true_and] at hsn
      have hss := sumL_snoc ((bitsL set pre.length).map (loAt l)) y
      have hbad : ((bitsL set pre.length).map (loAt l)).all (fun z => !agB y z) = false → rchV l set = .tup [.nsl, .int .i64 0, .bool false] := fun h => by
        rw [rchV, if_neg]
        rw [chT_bad (k := pre.length + 1) (by omega) (by rw [hmp2, hsn, h])]
        simp
      have hin : ∀ i ∈ bitsL set pre.length, ∃ j : Nat, i = j ∧ l[j]? = some (loAt l i) := fun i hi => by
        have := bitsL_mem hi
        refine ⟨i.toNat, by omega, ?_⟩
        unfold loAt; rw [List.getElem?_eq_getElem (by omega)]; rfl
      generalize hN : bitsL set pre.length = N at *
      repeat' (first
        | with_reducible (first | refine Rd.p ?_ | refine w_alt ?_ ?_ | refine zE ?_ | refine zE0 ?_)
        | (refine w_ixP hpp rfl rfl ?_)
        | with_reducible (first | refine zI fun y hy => ?_ | refine zL ?_ | refine zS ?_ | refine zA fun _ => ?_ | refine zV ?_ | refine zC ?_ | refine zG ?_ | refine zU ?_ | refine zG0 ?_ | refine zU0 ?_ | refine zF ?_)
        | with_reducible (first | refine zX ?_ | refine zD fun _ => ?_ | refine zD0 ?_ | refine zN ?_ | refine zF0 ?_ | refine zX0 ?_ | refine z1 ?_ | refine z2 ?_ | refine z3 ?_ | refine z4 ?_ | refine z5 ?_ | refine z6 ?_ | refine z7 ?_ | refine z8 ?_ | refine y1 ?_ | refine y2 ?_ | refine y3 ?_ | refine y4 ?_ | refine y5 ?_ | refine y6 ?_ | refine y7 ?_ | refine y8 ?_ | refine Rt.p (fun _ => ?_) fun _ => ?_)
        | ((with_reducible apply w_ixM); (focus exact rfl); (focus exact rfl); case' hk => intro y hy) | ((with_reducible (first | apply w_val | apply q_ends)); (focus exact rfl)))
      refine w_loopK [0, 1, 7, 8, 9] [7] (fun x : List Int × List Int => N = x.1 ++ x.2 ∧ ((x.1.map (loAt l)).all fun z => !agB y z) = true) (fun x => x.2.length) (fun x => [(10, .int .i64 x.1.length)]) (fun _ => []) ([], N) ⟨rfl, rfl⟩ ⟨rfl, trivial⟩ trivial ?_
      rintro ⟨p1, p2⟩ ⟨hp1, hall⟩ e σ
      dsimp only at hp1 hall ⊢
      have hlen2 := congrArg List.length hp1
      rw [List.length_append] at hlen2
      cases p2 with
      | nil =>
        simp only [List.length_nil] at hlen2
        rw [List.append_nil] at hp1
        rw [← hp1] at hall
        rw [hall] at hsn
        repeat' (first
          | with_reducible (first | refine Rd.p ?_ | refine w_alt ?_ ?_ | refine zE ?_ | refine zE0 ?_)
          | (refine w_ixP hpp rfl rfl ?_)
          | with_reducible (first | refine zI fun y hy => ?_ | refine zL ?_ | refine zS ?_ | refine zA fun _ => ?_ | refine zV ?_ | refine zC ?_ | refine zG ?_ | refine zU ?_ | refine zG0 ?_ | refine zU0 ?_ | refine zF ?_)
          | with_reducible (first | refine zX ?_ | refine zD fun _ => ?_ | refine zD0 ?_ | refine zN ?_ | refine zF0 ?_ | refine zX0 ?_ | refine z1 ?_ | refine z2 ?_ | refine z3 ?_ | refine z4 ?_ | refine z5 ?_ | refine z6 ?_ | refine z7 ?_ | refine z8 ?_ | refine y1 ?_ | refine y2 ?_ | refine y3 ?_ | refine y4 ?_ | refine y5 ?_ | refine y6 ?_ | refine y7 ?_ | refine y8 ?_ | refine Rt.p (fun _ => ?_) fun _ => ?_)
          | ((with_reducible apply w_ixM); (focus exact rfl); (focus exact rfl); case' hk => intro y hy) | ((with_reducible (first | apply w_val | apply q_ends)); (focus exact rfl)))
        refine q_loop (pre ++ [y], post, _) ⟨by show l = _; rw [hpp]; simp, by dsimp only; rw [hps, hmp2]; exact hsn⟩ (by simp) (slots_cons (by show AV.int .i64 _ = AV.int .i64 _; refine int_eq ?_; simp) (slots_cons (by show AV.int .i64 _ = AV.int .i64 _; rw [hps, hmp2, hss]) (slots_cons (by show _ = AV.slc 1 (iR (bitsL set (pre ++ [y]).length)) _; rw [hps, hsu]; rfl) slots_nil))) (by exact ⟨rfl, trivial⟩) (by repeat' (first | exact kept_nil | apply kept_cons | rfl)) (by repeat' (first | exact kept_nil | apply kept_cons | rfl))
      | cons i p2 =>
        simp only [List.length_cons] at hlen2
        obtain ⟨j, hj, hlj⟩ := hin i (by rw [hp1]; simp)
        subst hj
        have hag := rAgainst_s (loAt l (j : Int)) y
        rw [agB_comm] at hag
        cases hz : agB y (loAt l (j : Int)) with
        | true =>
          rw [hz] at hag
          rw [hbad (by rw [hp1]; simp [hz])]
          repeat' (first
            | with_reducible (first | refine Rd.p ?_ | refine w_alt ?_ ?_ | refine zE ?_ | refine zE0 ?_)
            | (first | refine w_ixP hp1 rfl rfl ?_ | refine w_ixP hpp rfl rfl ?_ | refine w_ixE (f := fun g : Lon => [.int .i64 g.th, .int .i64 g.fr, .int .i64 g.to, .int .i64 g.wo]) hlj rfl rfl ?_)
            | with_reducible (first | refine zI fun y hy => ?_ | refine zL ?_ | refine zS ?_ | refine zA fun _ => ?_ | refine zV ?_ | refine zC ?_ | refine zG ?_ | refine zU ?_ | refine zG0 ?_ | refine zU0 ?_ | refine zF ?_)
            | ((with_reducible refine acall_id ?_); refine ACall.val hag rfl rfl ?_)
            | with_reducible (first | refine zX ?_ | refine zD fun _ => ?_ | refine zD0 ?_ | refine zN ?_ | refine zF0 ?_ | refine zX0 ?_ | refine z1 ?_ | refine z2 ?_ | refine z3 ?_ | refine z4 ?_ | refine z5 ?_ | refine z6 ?_ | refine z7 ?_ | refine z8 ?_ | refine y1 ?_ | refine y2 ?_ | refine y3 ?_ | refine y4 ?_ | refine y5 ?_ | refine y6 ?_ | refine y7 ?_ | refine y8 ?_ | refine Rt.p (fun _ => ?_) fun _ => ?_)
            | ((with_reducible apply w_ixM); (focus exact rfl); (focus exact rfl); case' hk => intro y hy) | ((with_reducible (first | apply w_val | apply q_ends)); (focus exact rfl)))
          rfl
        | false =>
          rw [hz] at hag
          repeat' (first
            | with_reducible (first | refine Rd.p ?_ | refine w_alt ?_ ?_ | refine zE ?_ | refine zE0 ?_)
            | (first | refine w_ixP hp1 rfl rfl ?_ | refine w_ixP hpp rfl rfl ?_ | refine w_ixE (f := fun g : Lon => [.int .i64 g.th, .int .i64 g.fr, .int .i64 g.to, .int .i64 g.wo]) hlj rfl rfl ?_)
            | with_reducible (first | refine zI fun y hy => ?_ | refine zL ?_ | refine zS ?_ | refine zA fun _ => ?_ | refine zV ?_ | refine zC ?_ | refine zG ?_ | refine zU ?_ | refine zG0 ?_ | refine zU0 ?_ | refine zF ?_)
            | ((with_reducible refine acall_id ?_); refine ACall.val hag rfl rfl ?_)
            | with_reducible (first | refine zX ?_ | refine zD fun _ => ?_ | refine zD0 ?_ | refine zN ?_ | refine zF0 ?_ | refine zX0 ?_ | refine z1 ?_ | refine z2 ?_ | refine z3 ?_ | refine z4 ?_ | refine z5 ?_ | refine z6 ?_ | refine z7 ?_ | refine z8 ?_ | refine y1 ?_ | refine y2 ?_ | refine y3 ?_ | refine y4 ?_ | refine y5 ?_ | refine y6 ?_ | refine y7 ?_ | refine y8 ?_ | refine Rt.p (fun _ => ?_) fun _ => ?_)
            | ((with_reducible apply w_ixM); (focus exact rfl); (focus exact rfl); case' hk => intro y hy) | ((with_reducible (first | apply w_val | apply q_ends)); (focus exact rfl)))
          refine q_loop (p1 ++ [(j : Int)], p2) ⟨by show N = _; rw [hp1]; simp, by simp only [List.map_append, List.all_append, hall, Bool.true_and]; simp [hz]⟩ (by simp) (slots_cons (by show AV.int .i64 _ = AV.int .i64 _; refine int_eq ?_; simp) slots_nil) trivial (by repeat' (first | exact kept_nil | apply kept_cons | rfl)) (by repeat' (first | exact kept_nil | apply kept_cons | rfl))
theorem lendE_wo {l : List Lon} (h : lendE l = 0) : l.length ≤ 12 ∧ ∀ x ∈ l, 0 ≤ x.wo ∧ x.wo ≤ 1000 := by
  unfold lendE at h
  by_cases h12 : 12 < l.length
  · rw [if_pos h12] at h; cases h
  · rw [if_neg h12] at h
    exact ⟨by omega, fun x hx => lonE_0 (lonsE_0 h x hx)⟩
theorem rLend_s (l : List Lon) (hl : l.length < 2 ^ 62) : Fn0 Try.prog 68 [.slc 4 (oR l) .non] (fun v => ∃ o, (o = none → (lendV l).1 = []) ∧ v = .tup [bS (lendV l).1 o, .int .i64 (lendV l).2, .int .i64 (lendE l)]) := by
  have hck := rcheckLoans_s l hl
  by_cases hE : lendE l = 0
  case neg =>
    have hV : lendV l = ([], 0) := by rw [lendV, if_neg hE]
    rw [hV]
    generalize lendE l = E at *
    refine RawC.walk (H := hint68 Try.prog) ir68 Try.func68 rfl rfl rfl ?_
    unfold ir68
    repeat' (first
      | with_reducible (first | refine Rd.p ?_ | refine w_alt ?_ ?_ | refine zE ?_ | refine zE0 ?_)
      | with_reducible (first | refine zI fun y hy => ?_ | refine zL ?_ | refine zS ?_ | refine zA fun _ => ?_ | refine zV ?_ | refine zC ?_ | refine zG ?_ | refine zU ?_ | refine zG0 ?_ | refine zU0 ?_ | refine zF ?_)
      | ((with_reducible refine acall_id ?_); refine ACall.val hck rfl rfl ?_)
      | with_reducible (first | refine zX ?_ | refine zD fun _ => ?_ | refine zD0 ?_ | refine zN ?_ | refine zF0 ?_ | refine zX0 ?_ | refine z1 ?_ | refine z2 ?_ | refine z3 ?_ | refine z4 ?_ | refine z5 ?_ | refine z6 ?_ | refine z7 ?_ | refine z8 ?_ | refine y1 ?_ | refine y2 ?_ | refine y3 ?_ | refine y4 ?_ | refine y5 ?_ | refine y6 ?_ | refine y7 ?_ | refine y8 ?_ | refine Rt.p (fun _ => ?_) fun _ => ?_)
      | ((with_reducible apply w_ixM); (focus exact rfl); (focus exact rfl); case' hk => intro y hy) | ((with_reducible (first | apply w_val | apply q_ends)); (focus exact rfl)))
    exact ⟨none, fun _ => rfl, rfl⟩
  have hV : lendV l = foldI (stepL l) (2 ^ l.length) 0 ([], 0) := by rw [lendV, if_pos hE]
  obtain ⟨h12, hwo⟩ := lendE_wo hE
  obtain ⟨T, hT⟩ : ∃ T : Nat, T = 2 ^ l.length := ⟨_, rfl⟩
  have hTb : T ≤ 4096 := by
    rw [hT]
    exact Nat.le_trans (Nat.pow_le_pow_right (by omega) (show l.length ≤ 12 by omega)) (by decide)
  have hTi : (1 : Int) * 2 ^ (min ((l.length : Int)).toNat IntKind.i64.bits) = (T : Int) := by
    rw [hT, Int.toNat_natCast, show min l.length IntKind.i64.bits = l.length from Nat.min_eq_left (by show l.length ≤ 64; omega)]
    simp
  have hTi2 : (2 : Int) ^ (min ((l.length : Int)).toNat IntKind.i64.bits) = (T : Int) := by rw [← hTi, Int.one_mul]
  have hTi3 : (2 : Int) ^ (min l.length IntKind.i64.bits) = (T : Int) := by rw [← hTi2, Int.toNat_natCast]
  rw [hV, ← hT]
  rw [hE] at hck ⊢
  obtain ⟨FV, hFV⟩ : ∃ FV, FV = foldI (stepL l) T 0 ([], 0) := ⟨_, rfl⟩
  rw [← hFV]
  refine RawC.walk (H := hint68 Try.prog) ir68 Try.func68 rfl rfl rfl ?_
  unfold ir68
  repeat' (first
    | with_reducible (first | refine Rd.p ?_ | refine w_alt ?_ ?_ | refine zE ?_ | refine zE0 ?_)
    | with_reducible (first | refine zI fun y hy => ?_ | refine zL ?_ | refine zS ?_ | refine zA fun _ => ?_ | refine zV ?_ | refine zC ?_ | refine zG ?_ | refine zU ?_ | refine zG0 ?_ | refine zU0 ?_ | refine zF ?_)
    | ((with_reducible refine acall_id ?_); refine ACall.val hck rfl rfl ?_)
    | with_reducible (first | refine zX ?_ | refine zD fun _ => ?_ | refine zD0 ?_ | refine zN ?_ | refine zF0 ?_ | refine zX0 ?_ | refine z1 ?_ | refine z2 ?_ | refine z3 ?_ | refine z4 ?_ | refine z5 ?_ | refine z6 ?_ | refine z7 ?_ | refine z8 ?_ | refine y1 ?_ | refine y2 ?_ | refine y3 ?_ | refine y4 ?_ | refine y5 ?_ | refine y6 ?_ | refine y7 ?_ | refine y8 ?_ | refine Rt.p (fun _ => ?_) fun _ => ?_)
    | ((with_reducible apply w_ixM); (focus exact rfl); (focus exact rfl); case' hk => intro y hy) | ((with_reducible (first | apply w_val | apply q_ends)); (focus exact rfl)))
  refine w_loopK [0] [] (fun x : Nat × List Int × Int × Option Unit => x.1 ≤ T ∧ FV = foldI (stepL l) (T - x.1) x.1 (x.2.1, x.2.2.1) ∧ (x.2.2.2 = none → x.2.1 = []) ∧ x.2.1.length ≤ 12) (fun x => T - x.1) (fun x => [(8, .int .i64 x.1), (6, bS x.2.1 x.2.2.2), (7, .int .i64 x.2.2.1)]) (fun _ => []) (0, [], 0, none) ⟨Nat.zero_le _, hFV, fun _ => rfl, by simp⟩ ⟨rfl, rfl, rfl, trivial⟩ trivial ?_
  rintro ⟨set, b, w, o⟩ ⟨hst, hfo, hob, hbl⟩ e σ
  dsimp only at hst hfo hob hbl ⊢
  by_cases hsT : set = T
  · rw [hsT, Nat.sub_self, foldI] at hfo
    rcases o with _ | u
    · repeat' (first
        | with_reducible (first | refine Rd.p ?_ | refine w_alt ?_ ?_ | refine zE ?_ | refine zE0 ?_)
        | with_reducible (first | refine zI fun y hy => ?_ | refine zL ?_ | refine zS ?_ | refine zA fun _ => ?_ | refine zV ?_ | refine zC ?_ | refine zG ?_ | refine zU ?_ | refine zG0 ?_ | refine zU0 ?_ | refine zF ?_)
        | with_reducible (first | refine zX ?_ | refine zD fun _ => ?_ | refine zD0 ?_ | refine zN ?_ | refine zF0 ?_ | refine zX0 ?_ | refine z1 ?_ | refine z2 ?_ | refine z3 ?_ | refine z4 ?_ | refine z5 ?_ | refine z6 ?_ | refine z7 ?_ | refine z8 ?_ | refine y1 ?_ | refine y2 ?_ | refine y3 ?_ | refine y4 ?_ | refine y5 ?_ | refine y6 ?_ | refine y7 ?_ | refine y8 ?_ | refine Rt.p (fun _ => ?_) fun _ => ?_)
        | ((with_reducible apply w_ixM); (focus exact rfl); (focus exact rfl); case' hk => intro y hy) | ((with_reducible (first | apply w_val | apply q_ends)); (focus exact rfl)))
      all_goals first
        | (exfalso; omega)
        | exact ⟨none, by rw [hfo]; exact hob, by rw [hfo]; rfl⟩
    · repeat' (first
        | with_reducible (first | refine Rd.p ?_ | refine w_alt ?_ ?_ | refine zE ?_ | refine zE0 ?_)
        | with_reducible (first | refine zI fun y hy => ?_ | refine zL ?_ | refine zS ?_ | refine zA fun _ => ?_ | refine zV ?_ | refine zC ?_ | refine zG ?_ | refine zU ?_ | refine zG0 ?_ | refine zU0 ?_ | refine zF ?_)
        | with_reducible (first | refine zX ?_ | refine zD fun _ => ?_ | refine zD0 ?_ | refine zN ?_ | refine zF0 ?_ | refine zX0 ?_ | refine z1 ?_ | refine z2 ?_ | refine z3 ?_ | refine z4 ?_ | refine z5 ?_ | refine z6 ?_ | refine z7 ?_ | refine z8 ?_ | refine y1 ?_ | refine y2 ?_ | refine y3 ?_ | refine y4 ?_ | refine y5 ?_ | refine y6 ?_ | refine y7 ?_ | refine y8 ?_ | refine Rt.p (fun _ => ?_) fun _ => ?_)
        | ((with_reducible apply w_ixM); (focus exact rfl); (focus exact rfl); case' hk => intro y hy) | ((with_reducible (first | apply w_val | apply q_ends)); (focus exact rfl)))
      all_goals first
        | (exfalso; omega)
        | exact ⟨some u, by rw [hfo]; exact hob, by rw [hfo]; rfl⟩
  have hsT2 : set < T := by omega
  rw [show T - set = (T - (set + 1)) + 1 by omega, foldI, stepL_eq] at hfo
  have hch := rChosen_s l set (by omega) (by omega) hwo
  have hNl := bitsL_len set l.length
  unfold rchV at hch
  generalize chT l set = C at *
  generalize bitsL set l.length = N at *
  cases hok : okS [] C with
  | false =>
    rw [hok, if_neg (by simp)] at hch
    rw [hok, if_neg (fun h => by cases h.1)] at hfo
    repeat' (first
      | with_reducible (first | refine Rd.p ?_ | refine w_alt ?_ ?_ | refine zE ?_ | refine zE0 ?_)
      | with_reducible (first | refine zI fun y hy => ?_ | refine zL ?_ | refine zS ?_ | refine zA fun _ => ?_ | refine zV ?_ | refine zC ?_ | refine zG ?_ | refine zU ?_ | refine zG0 ?_ | refine zU0 ?_ | refine zF ?_)
      | ((with_reducible refine acall_id ?_); refine ACall.val hch rfl rfl ?_)
      | with_reducible (first | refine zX ?_ | refine zD fun _ => ?_ | refine zD0 ?_ | refine zN ?_ | refine zF0 ?_ | refine zX0 ?_ | refine z1 ?_ | refine z2 ?_ | refine z3 ?_ | refine z4 ?_ | refine z5 ?_ | refine z6 ?_ | refine z7 ?_ | refine z8 ?_ | refine y1 ?_ | refine y2 ?_ | refine y3 ?_ | refine y4 ?_ | refine y5 ?_ | refine y6 ?_ | refine y7 ?_ | refine y8 ?_ | refine Rt.p (fun _ => ?_) fun _ => ?_)
      | ((with_reducible apply w_ixM); (focus exact rfl); (focus exact rfl); case' hk => intro y hy) | ((with_reducible (first | apply w_val | apply q_ends)); (focus exact rfl)))
    all_goals first
      | (exfalso; omega)
      | exact q_loop (set + 1, b, w, o) ⟨hsT2, hfo, hob, hbl⟩ (by show T - (set + 1) < T - set; omega) (slots_cons (by show AV.int .i64 _ = AV.int .i64 _; refine int_eq ?_; simp) (slots_cons rfl (slots_cons rfl slots_nil))) trivial (by repeat' (first | exact kept_nil | apply kept_cons | rfl)) (by repeat' (first | exact kept_nil | apply kept_cons | rfl))
  | true =>
    rw [hok, if_pos rfl] at hch
    rw [hok] at hfo
    generalize sumL C = S at *
    have hbo := @betO_bef S w N b
    rcases o with _ | u
    · obtain rfl := hob rfl
      have hb0 : ([] : List Int).length = 0 := rfl
      have hBn : Fn0 Try.prog 64 [.slc 1 (iR []) .non, .nsl] (fun v => v = .bool false) := RawC.weak (fun _ _ hr => SubL.rel (.cons (Sub.refl _) (.cons Sub.nil .nil)) hr) (bef9_c [] [] (by simp) (by simp))
      by_cases hg : betO S N w []
      · have hg2 := hbo.1 hg
        rw [if_pos ⟨rfl, hg⟩] at hfo
        have hws : w < S := by
          rcases hg2 with h | ⟨_, h | ⟨h1, h2⟩⟩
          · exact h
          · cases h
          · cases N with
            | nil => cases h2
            | cons _ _ => cases h1
        cases N with
        | nil =>
          repeat' (first
            | with_reducible (first | refine Rd.p ?_ | refine w_alt ?_ ?_ | refine zE ?_ | refine zE0 ?_)
            | with_reducible (first | refine zI fun y hy => ?_ | refine zL ?_ | refine zS ?_ | refine zA fun _ => ?_ | refine zV ?_ | refine zC ?_ | refine zG ?_ | refine zU ?_ | refine zG0 ?_ | refine zU0 ?_ | refine zF ?_)
            | ((with_reducible refine acall_id ?_); refine ACall.val hch rfl rfl ?_)
            | ((with_reducible refine acall_id ?_); refine ACall.val hBn rfl rfl ?_)
            | with_reducible (first | refine zX ?_ | refine zD fun _ => ?_ | refine zD0 ?_ | refine zN ?_ | refine zF0 ?_ | refine zX0 ?_ | refine z1 ?_ | refine z2 ?_ | refine z3 ?_ | refine z4 ?_ | refine z5 ?_ | refine z6 ?_ | refine z7 ?_ | refine z8 ?_ | refine y1 ?_ | refine y2 ?_ | refine y3 ?_ | refine y4 ?_ | refine y5 ?_ | refine y6 ?_ | refine y7 ?_ | refine y8 ?_ | refine Rt.p (fun _ => ?_) fun _ => ?_)
            | ((with_reducible apply w_ixM); (focus exact rfl); (focus exact rfl); case' hk => intro y hy) | ((with_reducible (first | apply w_val | apply q_ends)); (focus exact rfl)))
          all_goals first
            | exact q_loop (set + 1, [], S, some ()) ⟨hsT2, hfo, (fun h => by cases h), by simp⟩ (by show T - (set + 1) < T - set; omega) (slots_cons (by show AV.int .i64 _ = AV.int .i64 _; refine int_eq ?_; simp) (slots_cons rfl (slots_cons rfl slots_nil))) trivial (by repeat' (first | exact kept_nil | apply kept_cons | rfl)) (by repeat' (first | exact kept_nil | apply kept_cons | rfl))
            | (exfalso; omega)
            | (exfalso; simp at *; omega)
        | cons n0 N =>
          simp only [List.length_cons] at hNl
          repeat' (first
            | with_reducible (first | refine Rd.p ?_ | refine w_alt ?_ ?_ | refine zE ?_ | refine zE0 ?_)
            | with_reducible (first | refine zI fun y hy => ?_ | refine zL ?_ | refine zS ?_ | refine zA fun _ => ?_ | refine zV ?_ | refine zC ?_ | refine zG ?_ | refine zU ?_ | refine zG0 ?_ | refine zU0 ?_ | refine zF ?_)
            | ((with_reducible refine acall_id ?_); refine ACall.val hch rfl rfl ?_)
            | with_reducible (first | refine zX ?_ | refine zD fun _ => ?_ | refine zD0 ?_ | refine zN ?_ | refine zF0 ?_ | refine zX0 ?_ | refine z1 ?_ | refine z2 ?_ | refine z3 ?_ | refine z4 ?_ | refine z5 ?_ | refine z6 ?_ | refine z7 ?_ | refine z8 ?_ | refine y1 ?_ | refine y2 ?_ | refine y3 ?_ | refine y4 ?_ | refine y5 ?_ | refine y6 ?_ | refine y7 ?_ | refine y8 ?_ | refine Rt.p (fun _ => ?_) fun _ => ?_)
            | ((with_reducible apply w_ixM); (focus exact rfl); (focus exact rfl); case' hk => intro y hy) | ((with_reducible (first | apply w_val | apply q_ends)); (focus exact rfl)))
          all_goals first
            | exact q_loop (set + 1, n0 :: N, S, some ()) ⟨hsT2, hfo, (fun h => by cases h), by show (n0 :: N).length ≤ 12; simp only [List.length_cons]; omega⟩ (by show T - (set + 1) < T - set; omega) (slots_cons (by show AV.int .i64 _ = AV.int .i64 _; refine int_eq ?_; simp) (slots_cons rfl (slots_cons rfl slots_nil))) trivial (by repeat' (first | exact kept_nil | apply kept_cons | rfl)) (by repeat' (first | exact kept_nil | apply kept_cons | rfl))
            | (exfalso; omega)
            | (exfalso; simp at *; omega)
      · have hg2 := fun h => hg (hbo.2 h)
        rw [if_neg (fun h => hg h.2)] at hfo
        have hws : ¬ w < S := fun h => hg2 (.inl h)
        cases N with
        | nil =>
          repeat' (first
            | with_reducible (first | refine Rd.p ?_ | refine w_alt ?_ ?_ | refine zE ?_ | refine zE0 ?_)
            | with_reducible (first | refine zI fun y hy => ?_ | refine zL ?_ | refine zS ?_ | refine zA fun _ => ?_ | refine zV ?_ | refine zC ?_ | refine zG ?_ | refine zU ?_ | refine zG0 ?_ | refine zU0 ?_ | refine zF ?_)
            | ((with_reducible refine acall_id ?_); refine ACall.val hch rfl rfl ?_)
            | ((with_reducible refine acall_id ?_); refine ACall.val hBn rfl rfl ?_)
            | with_reducible (first | refine zX ?_ | refine zD fun _ => ?_ | refine zD0 ?_ | refine zN ?_ | refine zF0 ?_ | refine zX0 ?_ | refine z1 ?_ | refine z2 ?_ | refine z3 ?_ | refine z4 ?_ | refine z5 ?_ | refine z6 ?_ | refine z7 ?_ | refine z8 ?_ | refine y1 ?_ | refine y2 ?_ | refine y3 ?_ | refine y4 ?_ | refine y5 ?_ | refine y6 ?_ | refine y7 ?_ | refine y8 ?_ | refine Rt.p (fun _ => ?_) fun _ => ?_)
            | ((with_reducible apply w_ixM); (focus exact rfl); (focus exact rfl); case' hk => intro y hy) | ((with_reducible (first | apply w_val | apply q_ends)); (focus exact rfl)))
          all_goals first
            | exact q_loop (set + 1, [], w, none) ⟨hsT2, hfo, (fun h => rfl), by simp⟩ (by show T - (set + 1) < T - set; omega) (slots_cons (by show AV.int .i64 _ = AV.int .i64 _; refine int_eq ?_; simp) (slots_cons rfl (slots_cons rfl slots_nil))) trivial (by repeat' (first | exact kept_nil | apply kept_cons | rfl)) (by repeat' (first | exact kept_nil | apply kept_cons | rfl))
            | (exfalso; omega)
            | (exfalso; exact hg2 (.inl (by omega)))
            | (exfalso; have hz : (((n0 :: N).length : Nat) : Int) = 0 := by assumption
               rw [List.length_cons] at hz; omega)
        | cons n0 N =>
          simp only [List.length_cons] at hNl
          repeat' (first
            | with_reducible (first | refine Rd.p ?_ | refine w_alt ?_ ?_ | refine zE ?_ | refine zE0 ?_)
            | with_reducible (first | refine zI fun y hy => ?_ | refine zL ?_ | refine zS ?_ | refine zA fun _ => ?_ | refine zV ?_ | refine zC ?_ | refine zG ?_ | refine zU ?_ | refine zG0 ?_ | refine zU0 ?_ | refine zF ?_)
            | ((with_reducible refine acall_id ?_); refine ACall.val hch rfl rfl ?_)
            | with_reducible (first | refine zX ?_ | refine zD fun _ => ?_ | refine zD0 ?_ | refine zN ?_ | refine zF0 ?_ | refine zX0 ?_ | refine z1 ?_ | refine z2 ?_ | refine z3 ?_ | refine z4 ?_ | refine z5 ?_ | refine z6 ?_ | refine z7 ?_ | refine z8 ?_ | refine y1 ?_ | refine y2 ?_ | refine y3 ?_ | refine y4 ?_ | refine y5 ?_ | refine y6 ?_ | refine y7 ?_ | refine y8 ?_ | refine Rt.p (fun _ => ?_) fun _ => ?_)
            | ((with_reducible apply w_ixM); (focus exact rfl); (focus exact rfl); case' hk => intro y hy) | ((with_reducible (first | apply w_val | apply q_ends)); (focus exact rfl)))
          all_goals first
            | exact q_loop (set + 1, [], w, none) ⟨hsT2, hfo, (fun h => rfl), by simp⟩ (by show T - (set + 1) < T - set; omega) (slots_cons (by show AV.int .i64 _ = AV.int .i64 _; refine int_eq ?_; simp) (slots_cons rfl (slots_cons rfl slots_nil))) trivial (by repeat' (first | exact kept_nil | apply kept_cons | rfl)) (by repeat' (first | exact kept_nil | apply kept_cons | rfl))
            | (exfalso; omega)
            | (exfalso; exact hg2 (.inl (by omega)))
            | (exfalso; have hz : (((n0 :: N).length : Nat) : Int) = 0 := by assumption
               rw [List.length_cons] at hz; omega)
    · by_cases hle : N.length = b.length
      · have hBf := bef9_c N b (by omega) (by omega)
        by_cases hg : betO S N w b
        · have hg2 := hbo.1 hg
          rw [if_pos ⟨rfl, hg⟩] at hfo
          cases hbf : befF N b
          all_goals
            rw [hbf] at hBf
            simp only [hbf] at hg2
            repeat' (first
              | with_reducible (first | refine Rd.p ?_ | refine w_alt ?_ ?_ | refine zE ?_ | refine zE0 ?_)
              | with_reducible (first | refine zI fun y hy => ?_ | refine zL ?_ | refine zS ?_ | refine zA fun _ => ?_ | refine zV ?_ | refine zC ?_ | refine zG ?_ | refine zU ?_ | refine zG0 ?_ | refine zU0 ?_ | refine zF ?_)
              | ((with_reducible refine acall_id ?_); refine ACall.val hch rfl rfl ?_)
              | ((with_reducible refine acall_id ?_); refine ACall.val hBf rfl rfl ?_)
              | with_reducible (first | refine zX ?_ | refine zD fun _ => ?_ | refine zD0 ?_ | refine zN ?_ | refine zF0 ?_ | refine zX0 ?_ | refine z1 ?_ | refine z2 ?_ | refine z3 ?_ | refine z4 ?_ | refine z5 ?_ | refine z6 ?_ | refine z7 ?_ | refine z8 ?_ | refine y1 ?_ | refine y2 ?_ | refine y3 ?_ | refine y4 ?_ | refine y5 ?_ | refine y6 ?_ | refine y7 ?_ | refine y8 ?_ | refine Rt.p (fun _ => ?_) fun _ => ?_)
              | ((with_reducible apply w_ixM); (focus exact rfl); (focus exact rfl); case' hk => intro y hy) | ((with_reducible (first | apply w_val | apply q_ends)); (focus exact rfl)))
          all_goals first
            | exact q_loop (set + 1, N, S, some ()) ⟨hsT2, hfo, (fun h => by cases h), by show N.length ≤ 12; omega⟩ (by show T - (set + 1) < T - set; omega) (slots_cons (by show AV.int .i64 _ = AV.int .i64 _; refine int_eq ?_; simp) (slots_cons rfl (slots_cons rfl slots_nil))) trivial (by repeat' (first | exact kept_nil | apply kept_cons | rfl)) (by repeat' (first | exact kept_nil | apply kept_cons | rfl))
            | (exfalso; omega)
            | (exfalso; simp at *; omega)
        · have hg2 := fun h => hg (hbo.2 h)
          rw [if_neg (fun h => hg h.2)] at hfo
          cases hbf : befF N b
          all_goals
            rw [hbf] at hBf
            simp only [hbf] at hg2
            repeat' (first
              | with_reducible (first | refine Rd.p ?_ | refine w_alt ?_ ?_ | refine zE ?_ | refine zE0 ?_)
              | with_reducible (first | refine zI fun y hy => ?_ | refine zL ?_ | refine zS ?_ | refine zA fun _ => ?_ | refine zV ?_ | refine zC ?_ | refine zG ?_ | refine zU ?_ | refine zG0 ?_ | refine zU0 ?_ | refine zF ?_)
              | ((with_reducible refine acall_id ?_); refine ACall.val hch rfl rfl ?_)
              | ((with_reducible refine acall_id ?_); refine ACall.val hBf rfl rfl ?_)
              | with_reducible (first | refine zX ?_ | refine zD fun _ => ?_ | refine zD0 ?_ | refine zN ?_ | refine zF0 ?_ | refine zX0 ?_ | refine z1 ?_ | refine z2 ?_ | refine z3 ?_ | refine z4 ?_ | refine z5 ?_ | refine z6 ?_ | refine z7 ?_ | refine z8 ?_ | refine y1 ?_ | refine y2 ?_ | refine y3 ?_ | refine y4 ?_ | refine y5 ?_ | refine y6 ?_ | refine y7 ?_ | refine y8 ?_ | refine Rt.p (fun _ => ?_) fun _ => ?_)
              | ((with_reducible apply w_ixM); (focus exact rfl); (focus exact rfl); case' hk => intro y hy) | ((with_reducible (first | apply w_val | apply q_ends)); (focus exact rfl)))
          all_goals first
            | exact q_loop (set + 1, b, w, some ()) ⟨hsT2, hfo, hob, hbl⟩ (by show T - (set + 1) < T - set; omega) (slots_cons (by show AV.int .i64 _ = AV.int .i64 _; refine int_eq ?_; simp) (slots_cons rfl (slots_cons rfl slots_nil))) trivial (by repeat' (first | exact kept_nil | apply kept_cons | rfl)) (by repeat' (first | exact kept_nil | apply kept_cons | rfl))
            | (exfalso; omega)
            | (exfalso; exact hg2 (.inl (by omega)))
            | (exfalso; exact hg2 (.inr ⟨by omega, by first | exact .inr ⟨hle, rfl⟩ | exact .inr ⟨hle, trivial⟩⟩))
      · by_cases hg : betO S N w b
        · have hg2 := hbo.1 hg
          rw [if_pos ⟨rfl, hg⟩] at hfo
          repeat' (first
            | with_reducible (first | refine Rd.p ?_ | refine w_alt ?_ ?_ | refine zE ?_ | refine zE0 ?_)
            | with_reducible (first | refine zI fun y hy => ?_ | refine zL ?_ | refine zS ?_ | refine zA fun _ => ?_ | refine zV ?_ | refine zC ?_ | refine zG ?_ | refine zU ?_ | refine zG0 ?_ | refine zU0 ?_ | refine zF ?_)
            | ((with_reducible refine acall_id ?_); refine ACall.val hch rfl rfl ?_)
            | with_reducible (first | refine zX ?_ | refine zD fun _ => ?_ | refine zD0 ?_ | refine zN ?_ | refine zF0 ?_ | refine zX0 ?_ | refine z1 ?_ | refine z2 ?_ | refine z3 ?_ | refine z4 ?_ | refine z5 ?_ | refine z6 ?_ | refine z7 ?_ | refine z8 ?_ | refine y1 ?_ | refine y2 ?_ | refine y3 ?_ | refine y4 ?_ | refine y5 ?_ | refine y6 ?_ | refine y7 ?_ | refine y8 ?_ | refine Rt.p (fun _ => ?_) fun _ => ?_)
            | ((with_reducible apply w_ixM); (focus exact rfl); (focus exact rfl); case' hk => intro y hy) | ((with_reducible (first | apply w_val | apply q_ends)); (focus exact rfl)))
          all_goals first
            | exact q_loop (set + 1, N, S, some ()) ⟨hsT2, hfo, (fun h => by cases h), by show N.length ≤ 12; omega⟩ (by show T - (set + 1) < T - set; omega) (slots_cons (by show AV.int .i64 _ = AV.int .i64 _; refine int_eq ?_; simp) (slots_cons rfl (slots_cons rfl slots_nil))) trivial (by repeat' (first | exact kept_nil | apply kept_cons | rfl)) (by repeat' (first | exact kept_nil | apply kept_cons | rfl))
            | (exfalso; omega)
            | (exfalso; simp at *; omega)
        · have hg2 := fun h => hg (hbo.2 h)
          rw [if_neg (fun h => hg h.2)] at hfo
          repeat' (first
            | with_reducible (first | refine Rd.p ?_ | refine w_alt ?_ ?_ | refine zE ?_ | refine zE0 ?_)
            | with_reducible (first | refine zI fun y hy => ?_ | refine zL ?_ | refine zS ?_ | refine zA fun _ => ?_ | refine zV ?_ | refine zC ?_ | refine zG ?_ | refine zU ?_ | refine zG0 ?_ | refine zU0 ?_ | refine zF ?_)
            | ((with_reducible refine acall_id ?_); refine ACall.val hch rfl rfl ?_)
            | with_reducible (first | refine zX ?_ | refine zD fun _ => ?_ | refine zD0 ?_ | refine zN ?_ | refine zF0 ?_ | refine zX0 ?_ | refine z1 ?_ | refine z2 ?_ | refine z3 ?_ | refine z4 ?_ | refine z5 ?_ | refine z6 ?_ | refine z7 ?_ | refine z8 ?_ | refine y1 ?_ | refine y2 ?_ | refine y3 ?_ | refine y4 ?_ | refine y5 ?_ | refine y6 ?_ | refine y7 ?_ | refine y8 ?_ | refine Rt.p (fun _ => ?_) fun _ => ?_)
            | ((with_reducible apply w_ixM); (focus exact rfl); (focus exact rfl); case' hk => intro y hy) | ((with_reducible (first | apply w_val | apply q_ends)); (focus exact rfl)))
          all_goals first
            | exact q_loop (set + 1, b, w, some ()) ⟨hsT2, hfo, hob, hbl⟩ (by show T - (set + 1) < T - set; omega) (slots_cons (by show AV.int .i64 _ = AV.int .i64 _; refine int_eq ?_; simp) (slots_cons rfl (slots_cons rfl slots_nil))) trivial (by repeat' (first | exact kept_nil | apply kept_cons | rfl)) (by repeat' (first | exact kept_nil | apply kept_cons | rfl))
            | (exfalso; omega)
            | (exfalso; exact hg2 (.inl (by omega)))
            | (exfalso; exact hg2 (.inr ⟨by omega, .inl (by omega)⟩))
end Go.Abs
