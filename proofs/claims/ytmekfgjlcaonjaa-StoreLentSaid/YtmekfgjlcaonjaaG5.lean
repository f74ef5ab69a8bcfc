/- A part of the proofs of the laws of this seat: contracts of the functions that they reach, each proved of the program's form in Lean. No condition beyond those that each contract names. -/
import Derived.Test.YtmekfgjlcaonjaaG4
import Derived.Test.YtmekfgjlcaonjaaG3
import Derived.Test.YtmekfgjlcaonjaaG2
import Derived.Test.YtmekfgjlcaonjaaG1
import Derived.Test.YtmekfgjlcaonjaaC14
import Derived.Test.YtmekfgjlcaonjaaC11
import Derived.Test.YtmekfgjlcaonjaaC2
import Derived.Test.YtmekfgjlcaonjaaC1
import Derived.Test.YtmekfgjlcaonjaaB
import Derived.Test.YtmekfgjlcaonjaaD8
set_option linter.unusedVariables false
set_option linter.unusedSimpArgs false
set_option maxRecDepth 20000
set_option maxHeartbeats 4000000
namespace Go.Abs
open Go.Proofs
/-- aloeswood/aloeswoodref09.Chosen -/
def ir70 : IFn :=
  ⟨53, [(4, none), (5, none), (6, none)], (.seq (.ops [⟨(some 4), none, (.mov (.k .nsl))⟩,
    ⟨(some 5), none, (.mov (.k (.int .i64 0)))⟩,
    ⟨(some 6), none, (.mov (.k (.bool false)))⟩])
  (.seq (.ops [⟨(some 7), none, (.nil 1 7)⟩])
  (.seq (.ops [⟨(some 8), none, (.mov (.k (.int .i64 0)))⟩])
  (.seq (.seq (.ops [⟨(some 9), none, (.mov (.k (.int .i64 0)))⟩])
  (.blk 0 (.loop (.seq (.seq (.ops [⟨(some 11), none, (.mov (.t 9))⟩,
        ⟨(some 12), none, (.mov (.t 0))⟩,
        ⟨(some 13), none, (.len false (.t 12))⟩,
        ⟨(some 14), none, (.bin .lss (.t 11) (.t 13))⟩])
      (.cnd (.t 14)
        .skip
        (.exit 0)))
      (.seq (.blk 1 (.seq (.seq (.ops [⟨(some 17), none, (.mov (.t 1))⟩,
          ⟨(some 18), none, (.mov (.t 9))⟩,
          ⟨(some 19), none, (.bin .shr (.t 17) (.t 18))⟩,
          ⟨(some 20), none, (.bin .and (.t 19) (.k (.int .i64 1)))⟩,
          ⟨(some 21), none, (.bin .eql (.t 20) (.k (.int .i64 0)))⟩])
        (.cnd (.t 21)
          (.exit 1)
          .skip))
        (.seq (.seq (.ops [⟨(some 10), none, (.mov (.k (.int .i64 0)))⟩])
        (.blk 2 (.loop (.seq (.seq (.ops [⟨(some 22), none, (.mov (.t 10))⟩,
              ⟨(some 23), none, (.mov (.t 7))⟩,
              ⟨(some 24), none, (.len false (.t 23))⟩,
              ⟨(some 25), none, (.bin .lss (.t 22) (.t 24))⟩])
            (.cnd (.t 25)
              .skip
              (.exit 2)))
            (.seq (.blk 3 (.seq (.ops [⟨(some 28), none, (.mov (.t 0))⟩,
                ⟨(some 29), none, (.mov (.t 7))⟩,
                ⟨(some 30), none, (.mov (.t 10))⟩,
                ⟨(some 31), none, (.ixA 1 (.t 29) (.t 30))⟩,
                ⟨(some 32), none, (.ld 1 false (.t 31))⟩,
                ⟨(some 33), none, (.ixA 4 (.t 28) (.t 32))⟩,
                ⟨(some 34), none, (.ld 4 true (.t 33))⟩,
                ⟨(some 35), none, (.mov (.t 0))⟩,
                ⟨(some 36), none, (.mov (.t 9))⟩,
                ⟨(some 37), none, (.ixA 4 (.t 35) (.t 36))⟩,
                ⟨(some 38), none, (.ld 4 true (.t 37))⟩,
                ⟨(some 39), none, (.callF 115 [(.t 34), (.t 38)])⟩])
              (.cnd (.t 39)
                (.seq (.ops [⟨(some 4), none, (.mov (.k .nsl))⟩,
                  ⟨(some 5), none, (.mov (.k (.int .i64 0)))⟩,
                  ⟨(some 6), none, (.mov (.k (.bool false)))⟩])
                .ret)
                .skip)))
            (.ops [⟨(some 26), none, (.mov (.t 10))⟩,
              ⟨(some 27), none, (.bin .add (.t 26) (.k (.int .i64 1)))⟩,
              ⟨(some 10), none, (.mov (.t 27))⟩]))))))
        (.ops [⟨(some 40), none, (.mov (.t 7))⟩,
          ⟨(some 41), none, (.mov (.t 9))⟩,
          ⟨(some 42), none, (.bsl 1 [[(.int .i64 0)]] [(0, (.t 41))])⟩,
          ⟨(some 44), none, (.mov (.t 8))⟩,
          ⟨(some 45), none, (.mov (.t 0))⟩,
          ⟨(some 46), none, (.mov (.t 9))⟩,
          ⟨(some 47), none, (.ixA 4 (.t 45) (.t 46))⟩,
          ⟨(some 48), none, (.flA 3 (.t 47))⟩,
          ⟨(some 49), none, (.ld 1 false (.t 48))⟩,
          ⟨(some 50), none, (.bin .add (.t 44) (.t 49))⟩,
          ⟨(some 43), none, (.app 1 8 (.t 40) (.t 42) 7)⟩,
          ⟨none, none, (.chk 1 false (.t 48) 49)⟩,
          ⟨(some 7), none, (.mov (.t 43))⟩,
          ⟨(some 8), none, (.mov (.t 50))⟩]))))
      (.ops [⟨(some 15), none, (.mov (.t 9))⟩,
        ⟨(some 16), none, (.bin .add (.t 15) (.k (.int .i64 1)))⟩,
        ⟨(some 9), none, (.mov (.t 16))⟩]))))))
  (.seq (.ops [⟨(some 51), none, (.mov (.t 7))⟩,
    ⟨(some 52), none, (.mov (.t 8))⟩,
    ⟨(some 4), none, (.mov (.t 51))⟩,
    ⟨(some 5), none, (.mov (.t 52))⟩,
    ⟨(some 6), none, (.mov (.k (.bool true)))⟩])
  .ret)))))⟩
def hint70 (P : Program) : Hint := { site := [(43, 7)], nils := [(7, 1)], frz := [], mve := [], wr := [] }
theorem and1_0 (set : Nat) (hs : set < 2 ^ 62) {k : Int} (hk : 0 ≤ k ∧ k < 62) : decide (bitV .and .i64 ((set : Int).fdiv (2 ^ min k.toNat IntKind.i64.bits)) 1 = 0) = !set.testBit k.toNat := by
  obtain ⟨j, rfl⟩ : ∃ j : Nat, k = j := ⟨k.toNat, by omega⟩
  rw [fdiv_pow set j (by omega)]
  have h1 : bitV .and .i64 ((set >>> j : Nat) : Int) ((1 : Nat) : Int) = ((set >>> j &&& 1 : Nat) : Int) := and_nat _ 1 (Nat.lt_of_le_of_lt (Nat.shiftRight_le _ _) hs) (by decide)
  rw [Nat.and_one_is_mod] at h1
  rw [show (1 : Int) = ((1 : Nat) : Int) from rfl, h1]
  have e2 : set.testBit j = decide (set >>> j % 2 = 1) := by simp [Nat.testBit, Nat.and_comm, Nat.and_one_is_mod]
  rw [Int.toNat_natCast, e2]
  by_cases h : set >>> j % 2 = 1
  · rw [decide_eq_true h, decide_eq_false (by omega)]; rfl
  · rw [decide_eq_false h, decide_eq_true (by omega)]; rfl
def rchV (l : List Lon) (set : Nat) : AV := if okS [] (chT l set) = true then .tup [.slc 1 (iR (bitsL set l.length)) .non, .int .i64 (sumL (chT l set)), .bool true] else .tup [.nsl, .int .i64 0, .bool false]
theorem rChosen_s (l : List Lon) (set : Nat) (hl : l.length ≤ 12) (hs : set < 2 ^ 62) (hw : ∀ x ∈ l, 0 ≤ x.wo ∧ x.wo ≤ 1000) : Fn0 Try.prog 70 [.slc 4 (oR l) .non, .int .i64 set] (fun v => v = rchV l set) := by
  refine RawC.walk (H := hint70 Try.prog) ir70 Try.func70 rfl rfl rfl ?_
  unfold ir70
  repeat' (first
    | with_reducible (first | refine Rd.p ?_ | refine w_alt ?_ ?_ | refine zE ?_ | refine zE0 ?_)
    | with_reducible (first | refine zI fun y hy => ?_ | refine zL ?_ | refine zS ?_ | refine zA fun _ => ?_ | refine zV ?_ | refine zC ?_ | refine zG ?_ | refine zU ?_ | refine zG0 ?_ | refine zU0 ?_ | refine zF ?_)
    | with_reducible (first | refine zX ?_ | refine zD fun _ => ?_ | refine zD0 ?_ | refine zN ?_ | refine zF0 ?_ | refine zX0 ?_ | refine z1 ?_ | refine z2 ?_ | refine z3 ?_ | refine z4 ?_ | refine z5 ?_ | refine z6 ?_ | refine z7 ?_ | refine z8 ?_ | refine y1 ?_ | refine y2 ?_ | refine y3 ?_ | refine y4 ?_ | refine y5 ?_ | refine y6 ?_ | refine y7 ?_ | refine y8 ?_ | refine Rt.p (fun _ => ?_) fun _ => ?_)
    | ((with_reducible apply w_ixM); (focus exact rfl); (focus exact rfl); case' hk => intro y hy) | ((with_reducible (first | apply w_val | apply q_ends)); (focus exact rfl)))
  rename_i g7
  refine w_loopK [0, 1] [] (fun x : List Lon × List Lon × Nat => l = x.1 ++ x.2.1 ∧ okS [] ((bitsL set x.1.length).map (loAt l)) = true) (fun x => x.2.1.length) (fun x => [(9, .int .i64 x.1.length), (8, .int .i64 (sumL ((bitsL set x.1.length).map (loAt l)))), (7, .slc 1 (iR (bitsL set x.1.length)) (.own 7 x.2.2))]) (fun x => [(7, (x.2.2, .row []))]) ([], l, g7) ⟨rfl, rfl⟩ ⟨rfl, rfl, rfl, trivial⟩ (by exact ⟨rfl, trivial⟩) ?_
  rintro ⟨pre, post, g7⟩ ⟨hpp, hok⟩ e σ
  dsimp only at hpp hok ⊢
  have hlen := congrArg List.length hpp
  rw [List.length_append] at hlen
  cases post with
  | nil =>
    simp only [List.length_nil] at hlen
    have hpl : pre.length = l.length := by omega
    rw [hpl] at hok
    rw [rchV, if_pos hok]
    repeat' (first
      | with_reducible (first | refine Rd.p ?_ | refine w_alt ?_ ?_ | refine zE ?_ | refine zE0 ?_)
      | with_reducible (first | refine zI fun y hy => ?_ | refine zL ?_ | refine zS ?_ | refine zA fun _ => ?_ | refine zV ?_ | refine zC ?_ | refine zG ?_ | refine zU ?_ | refine zG0 ?_ | refine zU0 ?_ | refine zF ?_)
      | with_reducible (first | refine zX ?_ | refine zD fun _ => ?_ | refine zD0 ?_ | refine zN ?_ | refine zF0 ?_ | refine zX0 ?_ | refine z1 ?_ | refine z2 ?_ | refine z3 ?_ | refine z4 ?_ | refine z5 ?_ | refine z6 ?_ | refine z7 ?_ | refine z8 ?_ | refine y1 ?_ | refine y2 ?_ | refine y3 ?_ | refine y4 ?_ | refine y5 ?_ | refine y6 ?_ | refine y7 ?_ | refine y8 ?_ | refine Rt.p (fun _ => ?_) fun _ => ?_)
      | ((with_reducible apply w_ixM); (focus exact rfl); (focus exact rfl); case' hk => intro y hy) | ((with_reducible (first | apply w_val | apply q_ends)); (focus exact rfl)))
    rw [hpl]; rfl
  | cons y post =>
    simp only [List.length_cons] at hlen
    have hbit : decide (bitV .and .i64 ((set : Int).fdiv (2 ^ min ((pre.length : Int)).toNat IntKind.i64.bits)) 1 = 0) = !set.testBit pre.length := and1_0 set hs (k := (pre.length : Int)) ⟨by omega, by omega⟩
    have hsu := bitsL_succ set pre.length
    have hla := loAt_mid hpp
    have hbl := bitsL_len set pre.length
    have hps : (pre ++ [y]).length = pre.length + 1 := by simp
    have hTw : ∀ x ∈ (bitsL set pre.length).map (loAt l), 0 ≤ x.wo ∧ x.wo ≤ 1000 := fun x hx => by
      obtain ⟨i, hi, rfl⟩ := List.mem_map.1 hx
      have hb := bitsL_mem hi
      exact hw _ (by unfold loAt; rw [List.getElem?_eq_getElem (by omega)]; exact List.getElem_mem _)
    have hsb := sumL_bd hTw
    have hmp : ((bitsL set pre.length).map (loAt l)).length = (bitsL set pre.length).length := by simp
    have hyw := hw y (by rw [hpp]; simp)
    cases hb : set.testBit pre.length with
    | false =>
      rw [hb] at hbit hsu
      have hbit := of_decide_eq_true hbit
      rw [if_neg (by decide), List.append_nil] at hsu
      repeat' (first
        | with_reducible (first | refine Rd.p ?_ | refine w_alt ?_ ?_ | refine zE ?_ | refine zE0 ?_)
        | (refine w_ixP hpp rfl rfl ?_)
        | with_reducible (first | refine zI fun y hy => ?_ | refine zL ?_ | refine zS ?_ | refine zA fun _ => ?_ | refine zV ?_ | refine zC ?_ | refine zG ?_ | refine zU ?_ | refine zG0 ?_ | refine zU0 ?_ | refine zF ?_)
        | with_reducible (first | refine zX ?_ | refine zD fun _ => ?_ | refine zD0 ?_ | refine zN ?_ | refine zF0 ?_ | refine zX0 ?_ | refine z1 ?_ | refine z2 ?_ | refine z3 ?_ | refine z4 ?_ | refine z5 ?_ | refine z6 ?_ | refine z7 ?_ | refine z8 ?_ | refine y1 ?_ | refine y2 ?_ | refine y3 ?_ | refine y4 ?_ | refine y5 ?_ | refine y6 ?_ | refine y7 ?_ | refine y8 ?_ | refine Rt.p (fun _ => ?_) fun _ => ?_)
        | ((with_reducible apply w_ixM); (focus exact rfl); (focus exact rfl); case' hk => intro y hy) | ((with_reducible (first | apply w_val | apply q_ends)); (focus exact rfl)))
      refine q_loop (pre ++ [y], post, _) ⟨by show l = _; rw [hpp]; simp, by dsimp only; rw [hps, hsu]; exact hok⟩ (by simp) (slots_cons (by show AV.int .i64 _ = AV.int .i64 _; refine int_eq ?_; simp) (slots_cons (by show AV.int .i64 _ = AV.int .i64 _; rw [hps, hsu]) (slots_cons (by show _ = AV.slc 1 (iR (bitsL set (pre ++ [y]).length)) _; rw [hps, hsu]; rfl) slots_nil))) (by exact ⟨rfl, trivial⟩) (by repeat' (first | exact kept_nil | apply kept_cons | rfl)) (by repeat' (first | exact kept_nil | apply kept_cons | rfl))
    | true =>
      rw [hb] at hbit hsu
      have hbit := of_decide_eq_false hbit
      rw [if_pos rfl] at hsu
      have hmp2 : (bitsL set (pre.length + 1)).map (loAt l) = (bitsL set pre.length).map (loAt l) ++ [y] := by rw [hsu, List.map_append, List.map_singleton, hla]
      have hsn := okS_snoc ((bitsL set pre.length).map (loAt l)) y
      rw [hok, Bool.true_and] at hsn
      have hss := sumL_snoc ((bitsL set pre.length).map (loAt l)) y
      have hbad : ((bitsL set pre.length).map (loAt l)).all (fun z => !agB y z) = false → rchV l set = .tup [.nsl, .int .i64 0, .bool false] := fun h => by
        rw [rchV, if_neg]
        rw [chT_bad (k := pre.length + 1) (by omega) (by rw [hmp2, hsn, h])]
        simp
      have hin : ∀ i ∈ bitsL set pre.length, ∃ j : Nat, i = j ∧ l[j]? = some (loAt l i) := fun i hi => by
        have := bitsL_mem hi
        refine ⟨i.toNat, by omega, ?_⟩
        unfold loAt; rw [List.getElem?_eq_getElem (by omega)]; rfl
      generalize hN : bitsL set pre.length = N at *
      repeat' (first
        | with_reducible (first | refine Rd.p ?_ | refine w_alt ?_ ?_ | refine zE ?_ | refine zE0 ?_)
        | (refine w_ixP hpp rfl rfl ?_)
        | with_reducible (first | refine zI fun y hy => ?_ | refine zL ?_ | refine zS ?_ | refine zA fun _ => ?_ | refine zV ?_ | refine zC ?_ | refine zG ?_ | refine zU ?_ | refine zG0 ?_ | refine zU0 ?_ | refine zF ?_)
        | with_reducible (first | refine zX ?_ | refine zD fun _ => ?_ | refine zD0 ?_ | refine zN ?_ | refine zF0 ?_ | refine zX0 ?_ | refine z1 ?_ | refine z2 ?_ | refine z3 ?_ | refine z4 ?_ | refine z5 ?_ | refine z6 ?_ | refine z7 ?_ | refine z8 ?_ | refine y1 ?_ | refine y2 ?_ | refine y3 ?_ | refine y4 ?_ | refine y5 ?_ | refine y6 ?_ | refine y7 ?_ | refine y8 ?_ | refine Rt.p (fun _ => ?_) fun _ => ?_)
        | ((with_reducible apply w_ixM); (focus exact rfl); (focus exact rfl); case' hk => intro y hy) | ((with_reducible (first | apply w_val | apply q_ends)); (focus exact rfl)))
      refine w_loopK [0, 1, 7, 8, 9] [7] (fun x : List Int × List Int => N = x.1 ++ x.2 ∧ ((x.1.map (loAt l)).all fun z => !agB y z) = true) (fun x => x.2.length) (fun x => [(10, .int .i64 x.1.length)]) (fun _ => []) ([], N) ⟨rfl, rfl⟩ ⟨rfl, trivial⟩ trivial ?_
      rintro ⟨p1, p2⟩ ⟨hp1, hall⟩ e σ
      dsimp only at hp1 hall ⊢
      have hlen2 := congrArg List.length hp1
      rw [List.length_append] at hlen2
      cases p2 with
      | nil =>
        simp only [List.length_nil] at hlen2
        rw [List.append_nil] at hp1
        rw [← hp1] at hall
        rw [hall] at hsn
        repeat' (first
          | with_reducible (first | refine Rd.p ?_ | refine w_alt ?_ ?_ | refine zE ?_ | refine zE0 ?_)
          | (refine w_ixP hpp rfl rfl ?_)
          | with_reducible (first | refine zI fun y hy => ?_ | refine zL ?_ | refine zS ?_ | refine zA fun _ => ?_ | refine zV ?_ | refine zC ?_ | refine zG ?_ | refine zU ?_ | refine zG0 ?_ | refine zU0 ?_ | refine zF ?_)
          | with_reducible (first | refine zX ?_ | refine zD fun _ => ?_ | refine zD0 ?_ | refine zN ?_ | refine zF0 ?_ | refine zX0 ?_ | refine z1 ?_ | refine z2 ?_ | refine z3 ?_ | refine z4 ?_ | refine z5 ?_ | refine z6 ?_ | refine z7 ?_ | refine z8 ?_ | refine y1 ?_ | refine y2 ?_ | refine y3 ?_ | refine y4 ?_ | refine y5 ?_ | refine y6 ?_ | refine y7 ?_ | refine y8 ?_ | refine Rt.p (fun _ => ?_) fun _ => ?_)
          | ((with_reducible apply w_ixM); (focus exact rfl); (focus exact rfl); case' hk => intro y hy) | ((with_reducible (first | apply w_val | apply q_ends)); (focus exact rfl)))
        refine q_loop (pre ++ [y], post, _) ⟨by show l = _; rw [hpp]; simp, by dsimp only; rw [hps, hmp2]; exact hsn⟩ (by simp) (slots_cons (by show AV.int .i64 _ = AV.int .i64 _; refine int_eq ?_; simp) (slots_cons (by show AV.int .i64 _ = AV.int .i64 _; rw [hps, hmp2, hss]) (slots_cons (by show _ = AV.slc 1 (iR (bitsL set (pre ++ [y]).length)) _; rw [hps, hsu]; rfl) slots_nil))) (by exact ⟨rfl, trivial⟩) (by repeat' (first | exact kept_nil | apply kept_cons | rfl)) (by repeat' (first | exact kept_nil | apply kept_cons | rfl))
      | cons i p2 =>
        simp only [List.length_cons] at hlen2
        obtain ⟨j, hj, hlj⟩ := hin i (by rw [hp1]; simp)
        subst hj
        have hag := rAgainst_s (loAt l (j : Int)) y
        rw [agB_comm] at hag
        cases hz : agB y (loAt l (j : Int)) with
        | true =>
          rw [hz] at hag
          rw [hbad (by rw [hp1]; simp [hz])]
          repeat' (first
            | with_reducible (first | refine Rd.p ?_ | refine w_alt ?_ ?_ | refine zE ?_ | refine zE0 ?_)
            | (first | refine w_ixP hp1 rfl rfl ?_ | refine w_ixP hpp rfl rfl ?_ | refine w_ixE (f := fun g : Lon => [.int .i64 g.th, .int .i64 g.fr, .int .i64 g.to, .int .i64 g.wo]) hlj rfl rfl ?_)
            | with_reducible (first | refine zI fun y hy => ?_ | refine zL ?_ | refine zS ?_ | refine zA fun _ => ?_ | refine zV ?_ | refine zC ?_ | refine zG ?_ | refine zU ?_ | refine zG0 ?_ | refine zU0 ?_ | refine zF ?_)
            | ((with_reducible refine acall_id ?_); refine ACall.val hag rfl rfl ?_)
            | with_reducible (first | refine zX ?_ | refine zD fun _ => ?_ | refine zD0 ?_ | refine zN ?_ | refine zF0 ?_ | refine zX0 ?_ | refine z1 ?_ | refine z2 ?_ | refine z3 ?_ | refine z4 ?_ | refine z5 ?_ | refine z6 ?_ | refine z7 ?_ | refine z8 ?_ | refine y1 ?_ | refine y2 ?_ | refine y3 ?_ | refine y4 ?_ | refine y5 ?_ | refine y6 ?_ | refine y7 ?_ | refine y8 ?_ | refine Rt.p (fun _ => ?_) fun _ => ?_)
            | ((with_reducible apply w_ixM); (focus exact rfl); (focus exact rfl); case' hk => intro y hy) | ((with_reducible (first | apply w_val | apply q_ends)); (focus exact rfl)))
          rfl
        | false =>
          rw [hz] at hag
          repeat' (first
            | with_reducible (first | refine Rd.p ?_ | refine w_alt ?_ ?_ | refine zE ?_ | refine zE0 ?_)
            | (first | refine w_ixP hp1 rfl rfl ?_ | refine w_ixP hpp rfl rfl ?_ | refine w_ixE (f := fun g : Lon => [.int .i64 g.th, .int .i64 g.fr, .int .i64 g.to, .int .i64 g.wo]) hlj rfl rfl ?_)
            | with_reducible (first | refine zI fun y hy => ?_ | refine zL ?_ | refine zS ?_ | refine zA fun _ => ?_ | refine zV ?_ | refine zC ?_ | refine zG ?_ | refine zU ?_ | refine zG0 ?_ | refine zU0 ?_ | refine zF ?_)
            | ((with_reducible refine acall_id ?_); refine ACall.val hag rfl rfl ?_)
            | with_reducible (first | refine zX ?_ | refine zD fun _ => ?_ | refine zD0 ?_ | refine zN ?_ | refine zF0 ?_ | refine zX0 ?_ | refine z1 ?_ | refine z2 ?_ | refine z3 ?_ | refine z4 ?_ | refine z5 ?_ | refine z6 ?_ | refine z7 ?_ | refine z8 ?_ | refine y1 ?_ | refine y2 ?_ | refine y3 ?_ | refine y4 ?_ | refine y5 ?_ | refine y6 ?_ | refine y7 ?_ | refine y8 ?_ | refine Rt.p (fun _ => ?_) fun _ => ?_)
            | ((with_reducible apply w_ixM); (focus exact rfl); (focus exact rfl); case' hk => intro y hy) | ((with_reducible (first | apply w_val | apply q_ends)); (focus exact rfl)))
          refine q_loop (p1 ++ [(j : Int)], p2) ⟨by show N = _; rw [hp1]; simp, by simp only [List.map_append, List.all_append, hall, Bool.true_and]; simp [hz]⟩ (by simp) (slots_cons (by show AV.int .i64 _ = AV.int .i64 _; refine int_eq ?_; simp) slots_nil) trivial (by repeat' (first | exact kept_nil | apply kept_cons | rfl)) (by repeat' (first | exact kept_nil | apply kept_cons | rfl))
theorem lendE_wo {l : List Lon} (h : lendE l = 0) : l.length ≤ 12 ∧ ∀ x ∈ l, 0 ≤ x.wo ∧ x.wo ≤ 1000 := by
  unfold lendE at h
  by_cases h12 : 12 < l.length
  · rw [if_pos h12] at h; cases h
  · rw [if_neg h12] at h
    exact ⟨by omega, fun x hx => lonE_0 (lonsE_0 h x hx)⟩
end Go.Abs
