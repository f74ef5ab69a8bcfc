/- A part of the proofs of the laws of this seat: contracts of the functions that they reach, each proved of the program's form in Lean. No condition beyond those that each contract names. -/
import Derived.Test.YtcgcciegekaliaaB0
import Derived.Test.YtcgcciegekaliaaB5
import Derived.Test.YtcgcciegekaliaaB4
import Derived.Test.YtcgcciegekaliaaB2
import Derived.Test.YtcgcciegekaliaaB3
set_option linter.unusedVariables false
set_option linter.unusedSimpArgs false
set_option maxRecDepth 20000
set_option maxHeartbeats 4000000
/-! ### Menu -/
namespace Go.Abs
open Go.Proofs
def dsErr : List Dish → Int
  | [] => 0
  | d :: r => if dErr d = 0 then dsErr r else dErr d
theorem dsErr_0 : ∀ {ds : List Dish}, dsErr ds = 0 → dsOK ds
  | [], _ => fun d hd => by cases hd
  | d :: r, h => by
    simp only [dsErr] at h
    split at h
    · rename_i h0
      intro x hx
      rcases List.mem_cons.1 hx with rfl | hx
      · exact h0
      · exact dsErr_0 h x hx
    · rename_i h0; exact absurd h h0
def bestM (l : List Guest) (ds : List Dish) (turns need : Int) : Option (List Int) × Int := (menusK ds turns.toNat []).foldl (stepM l ds need) (none, 0)
def knownE (l : List Guest) : Int := if 10 < l.length then 8 else gsErr [] l
/-- Menu: the menu, what it costs, the error. -/
def menuP (l : List Guest) (ds : List Dish) (turns need : Int) : Option (List Int) × Int × Int :=
  if knownE l = 0 then
    if 16 < ds.length then (none, 0, 8) else if dsErr ds = 0 then
      if (inB turns 1 4 && inB need 0 turns) = true then
        if (bestM l ds turns need).1 = none then (none, 0, 7) else ((bestM l ds turns need).1, (bestM l ds turns need).2, 0)
      else (none, 0, 2)
    else (none, 0, dsErr ds)
  else (none, 0, knownE l)
theorem bestM_ok (l : List Guest) (ds : List Dish) (turns need : Int) (h : 1 ≤ turns) : okAcc (bestM l ds turns need) :=
  okAcc_fold (fun m hm => by cases hm) fun m hm h0 => by
    have := (menusK_mem hm).1
    rw [h0] at this; simp at this; omega
theorem Menu_c (l : List Guest) (ds : List Dish) (turns need : Int) (hl0 : l.length < 1000) (hs : ∀ g ∈ l, g.name.size ≤ 1000) (hds0 : ds.length < 1000) :
    Fn0 Try.prog 22 [.slc 5 (gR l) .non, .slc 3 (dR ds) .non, .int .i64 turns, .int .i64 need] (fun v => v = .tup [optV (menuP l ds turns need).1, .int .i64 (menuP l ds turns need).2.1, .int .i64 (menuP l ds turns need).2.2]) := by
  have fin : ∀ {x y : Option (List Int) × Int × Int}, x = y → AV.tup [optV x.1, .int .i64 x.2.1, .int .i64 x.2.2] = AV.tup [optV y.1, .int .i64 y.2.1, .int .i64 y.2.2] := fun h => by rw [h]
  by_cases hk : knownE l = 0
  case neg =>
    have hm : menuP l ds turns need = (none, 0, knownE l) := by rw [menuP, if_neg hk]
    rw [hm]
    by_cases h10 : 10 < l.length
    · refine RawC.walk (H := hint22 Try.prog) ir22 Try.func22 rfl rfl rfl ?_
      unfold ir22
      repeat' (first
        | with_reducible (first | refine Rd.p ?_ | refine zE ?_ | refine zE0 ?_)
        | with_reducible (first | refine zI fun y hy => ?_ | refine zL ?_ | refine zS ?_ | refine zA fun _ => ?_ | refine zV ?_ | refine zC ?_ | refine zG ?_ | refine zU ?_ | refine zG0 ?_ | refine zU0 ?_ | refine zF ?_)
        | with_reducible (first | refine zX ?_ | refine zD fun _ => ?_ | refine zD0 ?_ | refine zN ?_ | refine zF0 ?_ | refine zX0 ?_ | refine z1 ?_ | refine z2 ?_ | refine z3 ?_ | refine z4 ?_ | refine z5 ?_ | refine z6 ?_ | refine z7 ?_ | refine z8 ?_ | refine y1 ?_ | refine y2 ?_ | refine y3 ?_ | refine y4 ?_ | refine y5 ?_ | refine y6 ?_ | refine y7 ?_ | refine y8 ?_ | refine Rt.p (fun _ => ?_) fun _ => ?_)
        | ((with_reducible apply w_ixM); (focus exact rfl); (focus exact rfl); case' hk => intro y hy) | ((with_reducible (first | apply w_val | apply q_ends)); (focus exact rfl)))
      rw [knownE, if_pos h10]; rfl
    · have he : knownE l = gsErr [] l := by rw [knownE, if_neg h10]
      rw [he] at hk ⊢
      refine RawC.walk (H := hint22 Try.prog) ir22 Try.func22 rfl rfl rfl ?_
      unfold ir22
      repeat' (first
        | with_reducible (first | refine Rd.p ?_ | refine zE ?_ | refine zE0 ?_)
        | with_reducible (first | refine zI fun y hy => ?_ | refine zL ?_ | refine zS ?_ | refine zA fun _ => ?_ | refine zV ?_ | refine zC ?_ | refine zG ?_ | refine zU ?_ | refine zG0 ?_ | refine zU0 ?_ | refine zF ?_)
        | ((with_reducible refine acall_id ?_); refine ACall.val (checkGuests_c l hl0 hs) rfl rfl ?_)
        | with_reducible (first | refine zX ?_ | refine zD fun _ => ?_ | refine zD0 ?_ | refine zN ?_ | refine zF0 ?_ | refine zX0 ?_ | refine z1 ?_ | refine z2 ?_ | refine z3 ?_ | refine z4 ?_ | refine z5 ?_ | refine z6 ?_ | refine z7 ?_ | refine z8 ?_ | refine y1 ?_ | refine y2 ?_ | refine y3 ?_ | refine y4 ?_ | refine y5 ?_ | refine y6 ?_ | refine y7 ?_ | refine y8 ?_ | refine Rt.p (fun _ => ?_) fun _ => ?_)
        | ((with_reducible apply w_ixM); (focus exact rfl); (focus exact rfl); case' hk => intro y hy) | ((with_reducible (first | apply w_val | apply q_ends)); (focus exact rfl)))
      rfl
  have h10 : ¬ 10 < l.length := fun h => by rw [knownE, if_pos h] at hk; cases hk
  have hg : gsErr [] l = 0 := by rw [knownE, if_neg h10] at hk; exact hk
  by_cases h16 : 16 < ds.length
  · have hm : menuP l ds turns need = (none, 0, 8) := by rw [menuP, if_pos hk, if_pos h16]
    rw [hm]
    refine RawC.walk (H := hint22 Try.prog) ir22 Try.func22 rfl rfl rfl ?_
    unfold ir22
    repeat' (first
      | with_reducible (first | refine Rd.p ?_ | refine zE ?_ | refine zE0 ?_)
      | with_reducible (first | refine zI fun y hy => ?_ | refine zL ?_ | refine zS ?_ | refine zA fun _ => ?_ | refine zV ?_ | refine zC ?_ | refine zG ?_ | refine zU ?_ | refine zG0 ?_ | refine zU0 ?_ | refine zF ?_)
      | ((with_reducible refine acall_id ?_); refine ACall.val (checkGuests_c l hl0 hs) rfl rfl ?_)
      | with_reducible (first | refine zX ?_ | refine zD fun _ => ?_ | refine zD0 ?_ | refine zN ?_ | refine zF0 ?_ | refine zX0 ?_ | refine z1 ?_ | refine z2 ?_ | refine z3 ?_ | refine z4 ?_ | refine z5 ?_ | refine z6 ?_ | refine z7 ?_ | refine z8 ?_ | refine y1 ?_ | refine y2 ?_ | refine y3 ?_ | refine y4 ?_ | refine y5 ?_ | refine y6 ?_ | refine y7 ?_ | refine y8 ?_ | refine Rt.p (fun _ => ?_) fun _ => ?_)
      | ((with_reducible apply w_ixM); (focus exact rfl); (focus exact rfl); case' hk => intro y hy) | ((with_reducible (first | apply w_val | apply q_ends)); (focus exact rfl)))
    rfl
  refine RawC.walk (H := hint22 Try.prog) ir22 Try.func22 rfl rfl rfl ?_
  unfold ir22
  repeat' (first
    | with_reducible (first | refine Rd.p ?_ | refine zE ?_ | refine zE0 ?_)
    | with_reducible (first | refine zI fun y hy => ?_ | refine zL ?_ | refine zS ?_ | refine zA fun _ => ?_ | refine zV ?_ | refine zC ?_ | refine zG ?_ | refine zU ?_ | refine zG0 ?_ | refine zU0 ?_ | refine zF ?_)
    | ((with_reducible refine acall_id ?_); refine ACall.val (checkGuests_c l hl0 hs) rfl rfl ?_)
    | with_reducible (first | refine zX ?_ | refine zD fun _ => ?_ | refine zD0 ?_ | refine zN ?_ | refine zF0 ?_ | refine zX0 ?_ | refine z1 ?_ | refine z2 ?_ | refine z3 ?_ | refine z4 ?_ | refine z5 ?_ | refine z6 ?_ | refine z7 ?_ | refine z8 ?_ | refine y1 ?_ | refine y2 ?_ | refine y3 ?_ | refine y4 ?_ | refine y5 ?_ | refine y6 ?_ | refine y7 ?_ | refine y8 ?_ | refine Rt.p (fun _ => ?_) fun _ => ?_)
    | ((with_reducible apply w_ixM); (focus exact rfl); (focus exact rfl); case' hk => intro y hy) | ((with_reducible (first | apply w_val | apply q_ends)); (focus exact rfl)))
  refine w_loopK [4, 5, 6, 7, 8, 9, 28, 29] [4, 5, 6, 7, 8, 9] (fun x : List Dish × List Dish => ds = x.1 ++ x.2 ∧ dsErr ds = dsErr x.2) (fun x => x.2.length) (fun x => [(30, .int .i64 x.1.length)]) (fun _ => []) ([], ds) ⟨rfl, rfl⟩ ⟨rfl, trivial⟩ trivial ?_
  rintro ⟨pre, post⟩ ⟨hl, hb⟩ e σ
  dsimp only at hl hb ⊢
  have hlen := congrArg List.length hl
  cases post with
  | cons d post =>
    simp only [List.length_append, List.length_cons] at hlen
    simp only [dsErr] at hb
    repeat' (first
      | with_reducible (first | refine Rd.p ?_ | refine zE ?_ | refine zE0 ?_)
      | (refine w_ixP hl rfl rfl ?_)
      | with_reducible (first | refine zI fun y hy => ?_ | refine zL ?_ | refine zS ?_ | refine zA fun _ => ?_ | refine zV ?_ | refine zC ?_ | refine zG ?_ | refine zU ?_ | refine zG0 ?_ | refine zU0 ?_ | refine zF ?_)
      | ((with_reducible refine acall_id ?_); refine ACall.val (checkDish_c d) rfl rfl ?_)
      | with_reducible (first | refine zX ?_ | refine zD fun _ => ?_ | refine zD0 ?_ | refine zN ?_ | refine zF0 ?_ | refine zX0 ?_ | refine z1 ?_ | refine z2 ?_ | refine z3 ?_ | refine z4 ?_ | refine z5 ?_ | refine z6 ?_ | refine z7 ?_ | refine z8 ?_ | refine y1 ?_ | refine y2 ?_ | refine y3 ?_ | refine y4 ?_ | refine y5 ?_ | refine y6 ?_ | refine y7 ?_ | refine y8 ?_ | refine Rt.p (fun _ => ?_) fun _ => ?_)
      | ((with_reducible apply w_ixM); (focus exact rfl); (focus exact rfl); case' hk => intro y hy) | ((with_reducible (first | apply w_val | apply q_ends)); (focus exact rfl)))
    · rename_i h
      rw [if_neg h] at hb
      have hm : menuP l ds turns need = (none, 0, dErr d) := by rw [menuP, if_pos hk, if_neg h16, if_neg (by omega), hb]
      rw [hm]; rfl
    · rename_i h
      rw [if_pos (Decidable.not_not.1 h)] at hb
      refine zQ (pre ++ [d], post) ?_ ?_
      · exact ⟨by rw [hl]; simp, hb⟩
      · simp
  | nil =>
    simp only [List.append_nil, List.length_append, List.length_nil] at hlen
    have hd0 : dsErr ds = 0 := hb
    have hok := dsErr_0 hd0
    have hbad : (inB turns 1 4 && inB need 0 turns) = false → menuP l ds turns need = (none, 0, 2) := fun h => by rw [menuP, if_pos hk, if_neg h16, if_pos hd0, if_neg (by simp [h])]
    by_cases ht : inB turns 1 4 = true
    case neg =>
      have ht' : inB turns 1 4 = false := by simpa using ht
      rw [hbad (by simp [ht'])]
      repeat' (first
        | with_reducible (first | refine Rd.p ?_ | refine zE ?_ | refine zE0 ?_)
        | with_reducible (first | refine zI fun y hy => ?_ | refine zL ?_ | refine zS ?_ | refine zA fun _ => ?_ | refine zV ?_ | refine zC ?_ | refine zG ?_ | refine zU ?_ | refine zG0 ?_ | refine zU0 ?_ | refine zF ?_)
        | ((with_reducible refine acall_id ?_); refine ACall.val (in_c _ _ _) rfl rfl ?_)
        | with_reducible (first | refine zX ?_ | refine zD fun _ => ?_ | refine zD0 ?_ | refine zN ?_ | refine zF0 ?_ | refine zX0 ?_ | refine z1 ?_ | refine z2 ?_ | refine z3 ?_ | refine z4 ?_ | refine z5 ?_ | refine z6 ?_ | refine z7 ?_ | refine z8 ?_ | refine y1 ?_ | refine y2 ?_ | refine y3 ?_ | refine y4 ?_ | refine y5 ?_ | refine y6 ?_ | refine y7 ?_ | refine y8 ?_ | refine Rt.p (fun _ => ?_) fun _ => ?_)
        | ((with_reducible apply w_ixM); (focus exact rfl); (focus exact rfl); case' hk => intro y hy) | ((with_reducible (first | apply w_val | apply q_ends)); (focus exact rfl)))
      rfl
    by_cases hn : inB need 0 turns = true
    case neg =>
      have hn' : inB need 0 turns = false := by simpa using hn
      rw [hbad (by simp [hn'])]
      repeat' (first
        | with_reducible (first | refine Rd.p ?_ | refine zE ?_ | refine zE0 ?_)
        | with_reducible (first | refine zI fun y hy => ?_ | refine zL ?_ | refine zS ?_ | refine zA fun _ => ?_ | refine zV ?_ | refine zC ?_ | refine zG ?_ | refine zU ?_ | refine zG0 ?_ | refine zU0 ?_ | refine zF ?_)
        | ((with_reducible refine acall_id ?_); refine ACall.val (in_c _ _ _) rfl rfl ?_)
        | with_reducible (first | refine zX ?_ | refine zD fun _ => ?_ | refine zD0 ?_ | refine zN ?_ | refine zF0 ?_ | refine zX0 ?_ | refine z1 ?_ | refine z2 ?_ | refine z3 ?_ | refine z4 ?_ | refine z5 ?_ | refine z6 ?_ | refine z7 ?_ | refine z8 ?_ | refine y1 ?_ | refine y2 ?_ | refine y3 ?_ | refine y4 ?_ | refine y5 ?_ | refine y6 ?_ | refine y7 ?_ | refine y8 ?_ | refine Rt.p (fun _ => ?_) fun _ => ?_)
        | ((with_reducible apply w_ixM); (focus exact rfl); (focus exact rfl); case' hk => intro y hy) | ((with_reducible (first | apply w_val | apply q_ends)); (focus exact rfl)))
      rfl
    have ht2 := inB_t.1 ht
    obtain ⟨n, rfl⟩ := Int.eq_ofNat_of_zero_le (show 0 ≤ turns by omega)
    have hbo := bestM_ok l ds n need ht2.1
    have okm : ∀ m c, (some m, c) = List.foldl (stepM l ds need) (none, 0) (menusK ds n []) → iR m ≠ [] := fun m c h => by
      have h' : bestM l ds n need = (some m, c) := h.symm
      rw [h'] at hbo
      have := hbo m rfl
      simpa using this
    have hme : menuP l ds n need = if (bestM l ds n need).1 = none then (none, 0, 7) else ((bestM l ds n need).1, (bestM l ds n need).2, 0) := by
      rw [menuP, if_pos hk, if_neg h16, if_pos hd0, if_pos (by simp [ht, hn])]
    have htry := fun g0 g1 g2 g3 g4 g5 g6 g7 => try_c l ds n need g0 g1 g2 g3 g4 g5 g6 g7 hl0 (by omega) hok (by omega) (by omega) n [] .nsl (none, 0) (by simp) (.inl ⟨rfl, rfl⟩) (fun m hm => by cases hm) (fun i hi => by cases hi)
    repeat' (first
      | with_reducible (first | refine Rd.p ?_ | refine zE ?_ | refine zE0 ?_)
      | with_reducible (first | refine zI fun y hy => ?_ | refine zL ?_ | refine zS ?_ | refine zA fun _ => ?_)
      | ((with_reducible apply w_ixM); (focus exact rfl); (focus exact rfl); (focus ((repeat' (with_reducible (first | exact trivial | apply And.intro))) <;> (first | exact okm _ _ hx | exact sd))); case' hk => intro y hy) | ((with_reducible apply w_slM); (focus exact rfl); (focus exact rfl); (focus exact rfl); (focus ((repeat' (with_reducible (first | exact trivial | apply And.intro))) <;> (first | exact okm _ _ hx | exact sd)))) | ((with_reducible apply w_val); (focus exact rfl); (focus ((repeat' (with_reducible (first | exact trivial | apply And.intro))) <;> (first | exact okm _ _ hx | exact sd)))) | ((with_reducible apply w_det); (focus exact fun _ => rfl); (focus ((repeat' (with_reducible (first | exact trivial | apply And.intro))) <;> (first | exact okm _ _ hx | exact sd))); case' hk => intro _) | ((with_reducible apply w_det0); (focus exact fun _ => rfl); (focus ((repeat' (with_reducible (first | exact trivial | apply And.intro))) <;> (first | exact okm _ _ hx | exact sd)))) | ((with_reducible apply q_ends); (focus exact rfl); (focus ((repeat' (with_reducible (first | exact trivial | apply And.intro))) <;> (first | exact okm _ _ hx | exact sd))))
      | with_reducible (first | refine zI fun y hy => ?_ | refine zL ?_ | refine zS ?_ | refine zA fun _ => ?_ | refine zV ?_ | refine zC ?_ | refine zG ?_ | refine zU ?_ | refine zG0 ?_ | refine zU0 ?_ | refine zF ?_)
      | ((with_reducible refine acall_id ?_); refine ACall.val (in_c _ _ _) rfl rfl ?_)
      | ((with_reducible refine acall_id ?_); refine ACall.liftS (htry _ _ _ _ _ _ _ _) [(1000, 6), (1001, 15), (1002, 8), (1003, 9), (1004, 5), (1005, 16), (1006, 4), (1007, 7)] none rfl rfl rfl ⟨⟨_, rfl⟩, ⟨⟨_, rfl⟩, ⟨⟨_, rfl⟩, ⟨⟨_, rfl⟩, ⟨⟨_, rfl⟩, ⟨⟨_, rfl⟩, ⟨⟨_, rfl⟩, ⟨⟨_, rfl⟩, trivial⟩⟩⟩⟩⟩⟩⟩⟩ (fun _ => rfl) ?_; rintro ⟨_ | m2, c2⟩ _ ⟨rfl, hx⟩)
      | with_reducible (first | refine zX ?_ | refine zD fun _ => ?_ | refine zD0 ?_ | refine zN ?_ | refine zF0 ?_ | refine zX0 ?_ | refine z1 ?_ | refine z2 ?_ | refine z3 ?_ | refine z4 ?_ | refine z5 ?_ | refine z6 ?_ | refine z7 ?_ | refine z8 ?_ | refine y1 ?_ | refine y2 ?_ | refine y3 ?_ | refine y4 ?_ | refine y5 ?_ | refine y6 ?_ | refine y7 ?_ | refine y8 ?_ | refine Rt.p (fun _ => ?_) fun _ => ?_)
      | ((with_reducible apply w_ixM); (focus exact rfl); (focus exact rfl); case' hk => intro y hy) | ((with_reducible (first | apply w_val | apply q_ends)); (focus exact rfl)))
    · have h' : bestM l ds n need = (none, c2) := hx.symm
      rw [hme, h', if_pos rfl]; rfl
    · have h' : bestM l ds n need = (some m2, c2) := hx.symm
      rw [hme, h', if_neg (by simp)]; rfl
/-- aloeswood/aloeswoodref08.Menu -/
def ir23 : IFn :=
  ⟨104, [(8, none), (9, none), (10, none)], (.seq (.ops [⟨(some 8), none, (.mov (.k .nsl))⟩,
    ⟨(some 9), none, (.mov (.k (.int .i64 0)))⟩,
    ⟨(some 10), none, (.mov (.k (.int .i64 0)))⟩])
  (.seq (.seq (.ops [⟨(some 20), none, (.mov (.t 0))⟩,
    ⟨(some 21), none, (.callF 73 [(.t 20)])⟩,
    ⟨(some 11), none, (.mov (.t 21))⟩])
  (.seq (.ops [⟨(some 22), none, (.mov (.t 11))⟩,
    ⟨(some 23), none, (.bin .neq (.t 22) (.k (.int .i64 0)))⟩])
  (.cnd (.t 23)
    (.seq (.ops [⟨(some 24), none, (.mov (.t 11))⟩,
      ⟨(some 8), none, (.mov (.k .nsl))⟩,
      ⟨(some 9), none, (.mov (.k (.int .i64 0)))⟩,
      ⟨(some 10), none, (.mov (.t 24))⟩])
    .ret)
    .skip)))
  (.seq (.seq (.ops [⟨(some 25), none, (.mov (.t 1))⟩,
    ⟨(some 26), none, (.len false (.t 25))⟩,
    ⟨(some 27), none, (.bin .gtr (.t 26) (.k (.int .i64 16)))⟩])
  (.cnd (.t 27)
    (.seq (.ops [⟨(some 8), none, (.mov (.k .nsl))⟩,
      ⟨(some 9), none, (.mov (.k (.int .i64 0)))⟩,
      ⟨(some 10), none, (.mov (.k (.int .i64 8)))⟩])
    .ret)
    .skip))
  (.seq (.seq (.ops [⟨(some 12), none, (.mov (.k (.int .i64 0)))⟩])
  (.blk 0 (.loop (.seq (.seq (.ops [⟨(some 28), none, (.mov (.t 12))⟩,
        ⟨(some 29), none, (.mov (.t 1))⟩,
        ⟨(some 30), none, (.len false (.t 29))⟩,
        ⟨(some 31), none, (.bin .lss (.t 28) (.t 30))⟩])
      (.cnd (.t 31)
        .skip
        (.exit 0)))
      (.seq (.blk 1 (.seq (.ops [⟨(some 34), none, (.mov (.t 1))⟩,
          ⟨(some 35), none, (.mov (.t 12))⟩,
          ⟨(some 36), none, (.ixA 3 (.t 34) (.t 35))⟩,
          ⟨(some 37), none, (.ld 3 true (.t 36))⟩,
          ⟨(some 38), none, (.callF 74 [(.t 37)])⟩,
          ⟨(some 13), none, (.mov (.t 38))⟩])
        (.seq (.ops [⟨(some 39), none, (.mov (.t 13))⟩,
          ⟨(some 40), none, (.bin .neq (.t 39) (.k (.int .i64 0)))⟩])
        (.cnd (.t 40)
          (.seq (.ops [⟨(some 41), none, (.mov (.t 13))⟩,
            ⟨(some 8), none, (.mov (.k .nsl))⟩,
            ⟨(some 9), none, (.mov (.k (.int .i64 0)))⟩,
            ⟨(some 10), none, (.mov (.t 41))⟩])
          .ret)
          .skip))))
      (.ops [⟨(some 32), none, (.mov (.t 12))⟩,
        ⟨(some 33), none, (.bin .add (.t 32) (.k (.int .i64 1)))⟩,
        ⟨(some 12), none, (.mov (.t 33))⟩]))))))
  (.seq (.seq (.ops [⟨(some 42), none, (.mov (.t 2))⟩,
    ⟨(some 43), none, (.callF 75 [(.t 42), (.k (.int .i64 1)), (.k (.int .i64 4))])⟩,
    ⟨(some 44), none, (.not (.t 43))⟩,
    ⟨(some 45), none, (.mov (.t 44))⟩,
    ⟨(some 46), (some (45, false)), (.mov (.t 3))⟩,
    ⟨(some 47), (some (45, false)), (.mov (.t 2))⟩,
    ⟨(some 48), (some (45, false)), (.callF 75 [(.t 46), (.k (.int .i64 0)), (.t 47)])⟩,
    ⟨(some 49), (some (45, false)), (.not (.t 48))⟩,
    ⟨(some 50), none, (.pick (.t 45) (.k (.bool true)) (.t 49))⟩])
  (.cnd (.t 50)
    (.seq (.ops [⟨(some 8), none, (.mov (.k .nsl))⟩,
      ⟨(some 9), none, (.mov (.k (.int .i64 0)))⟩,
      ⟨(some 10), none, (.mov (.k (.int .i64 2)))⟩])
    .ret)
    .skip))
  (.seq (.ops [⟨(some 14), none, (.mov (.k .nsl))⟩])
  (.seq (.ops [⟨(some 15), none, (.mov (.k (.int .i64 0)))⟩])
  (.seq (.ops [⟨(some 51), none, (.mov (.t 1))⟩,
    ⟨(some 52), none, (.mov (.t 2))⟩,
    ⟨(some 53), none, (.callF 76 [(.t 51), (.t 52), (.k .nsl)])⟩,
    ⟨(some 16), none, (.mov (.t 53))⟩])
  (.seq (.seq (.ops [⟨(some 17), none, (.mov (.k (.int .i64 0)))⟩])
  (.blk 2 (.loop (.seq (.seq (.ops [⟨(some 54), none, (.mov (.t 17))⟩,
        ⟨(some 55), none, (.mov (.t 16))⟩,
        ⟨(some 56), none, (.len false (.t 55))⟩,
        ⟨(some 57), none, (.bin .lss (.t 54) (.t 56))⟩])
      (.cnd (.t 57)
        .skip
        (.exit 2)))
      (.seq (.blk 3 (.seq (.ops [⟨(some 18), none, (.mov (.k (.int .i64 0)))⟩])
        (.seq (.seq (.ops [⟨(some 19), none, (.mov (.k (.int .i64 0)))⟩])
        (.blk 4 (.loop (.seq (.seq (.ops [⟨(some 60), none, (.mov (.t 19))⟩,
              ⟨(some 61), none, (.mov (.t 2))⟩,
              ⟨(some 62), none, (.bin .lss (.t 60) (.t 61))⟩])
            (.cnd (.t 62)
              .skip
              (.exit 4)))
            (.seq (.blk 5 (.ops [⟨(some 65), none, (.mov (.t 18))⟩,
                ⟨(some 66), none, (.mov (.t 1))⟩,
                ⟨(some 67), none, (.mov (.t 16))⟩,
                ⟨(some 68), none, (.mov (.t 17))⟩,
                ⟨(some 69), none, (.ixA 1 (.t 67) (.t 68))⟩,
                ⟨(some 70), none, (.ld 1 false (.t 69))⟩,
                ⟨(some 71), none, (.mov (.t 19))⟩,
                ⟨(some 72), none, (.ixA 1 (.t 70) (.t 71))⟩,
                ⟨(some 73), none, (.ld 1 false (.t 72))⟩,
                ⟨(some 74), none, (.ixA 3 (.t 66) (.t 73))⟩,
                ⟨(some 75), none, (.flA 2 (.t 74))⟩,
                ⟨(some 76), none, (.ld 1 false (.t 75))⟩,
                ⟨(some 77), none, (.bin .add (.t 65) (.t 76))⟩,
                ⟨(some 18), none, (.mov (.t 77))⟩]))
            (.ops [⟨(some 63), none, (.mov (.t 19))⟩,
              ⟨(some 64), none, (.bin .add (.t 63) (.k (.int .i64 1)))⟩,
              ⟨(some 19), none, (.mov (.t 64))⟩]))))))
        (.seq (.ops [⟨(some 78), none, (.mov (.t 0))⟩,
          ⟨(some 79), none, (.mov (.t 1))⟩,
          ⟨(some 80), none, (.mov (.t 16))⟩,
          ⟨(some 81), none, (.mov (.t 17))⟩,
          ⟨(some 82), none, (.ixA 1 (.t 80) (.t 81))⟩,
          ⟨(some 83), none, (.ld 1 false (.t 82))⟩,
          ⟨(some 84), none, (.mov (.t 3))⟩,
          ⟨(some 85), none, (.callF 77 [(.t 78), (.t 79), (.t 83), (.t 84)])⟩,
          ⟨(some 86), none, (.mov (.t 85))⟩,
          ⟨(some 87), (some (86, true)), (.mov (.t 14))⟩,
          ⟨(some 88), (some (86, true)), (.eqn .slice false (.t 87) (.k .nsl))⟩,
          ⟨(some 89), (some (86, true)), (.mov (.t 88))⟩,
          ⟨(some 90), (some (89, false)), (.mov (.t 18))⟩,
          ⟨(some 91), (some (89, false)), (.mov (.t 15))⟩,
          ⟨(some 92), (some (89, false)), (.bin .lss (.t 90) (.t 91))⟩,
          ⟨(some 93), (some (86, true)), (.pick (.t 89) (.k (.bool true)) (.t 92))⟩,
          ⟨(some 94), none, (.pick (.t 86) (.t 93) (.k (.bool false)))⟩])
        (.cnd (.t 94)
          (.ops [⟨(some 95), none, (.mov (.t 16))⟩,
            ⟨(some 96), none, (.mov (.t 17))⟩,
            ⟨(some 97), none, (.ixA 1 (.t 95) (.t 96))⟩,
            ⟨(some 98), none, (.ld 1 false (.t 97))⟩,
            ⟨(some 99), none, (.mov (.t 18))⟩,
            ⟨(some 14), none, (.mov (.t 98))⟩,
            ⟨(some 15), none, (.mov (.t 99))⟩])
          .skip)))))
      (.ops [⟨(some 58), none, (.mov (.t 17))⟩,
        ⟨(some 59), none, (.bin .add (.t 58) (.k (.int .i64 1)))⟩,
        ⟨(some 17), none, (.mov (.t 59))⟩]))))))
  (.seq (.seq (.ops [⟨(some 100), none, (.mov (.t 14))⟩,
    ⟨(some 101), none, (.eqn .slice false (.t 100) (.k .nsl))⟩])
  (.cnd (.t 101)
    (.seq (.ops [⟨(some 8), none, (.mov (.k .nsl))⟩,
      ⟨(some 9), none, (.mov (.k (.int .i64 0)))⟩,
      ⟨(some 10), none, (.mov (.k (.int .i64 7)))⟩])
    .ret)
    .skip))
  (.seq (.ops [⟨(some 102), none, (.mov (.t 14))⟩,
    ⟨(some 103), none, (.mov (.t 15))⟩,
    ⟨(some 8), none, (.mov (.t 102))⟩,
    ⟨(some 9), none, (.mov (.t 103))⟩,
    ⟨(some 10), none, (.mov (.k (.int .i64 0)))⟩])
  .ret)))))))))))⟩
def hint23 (P : Program) : Hint := {}

theorem rMenu_c (l : List Guest) (ds : List Dish) (turns need : Int) (hl0 : l.length < 1000) (hs : ∀ g ∈ l, g.name.size ≤ 1000) (hds0 : ds.length < 1000) :
    Fn0 Try.prog 23 [.slc 5 (gR l) .non, .slc 3 (dR ds) .non, .int .i64 turns, .int .i64 need] (fun v => v = .tup [optV (menuP l ds turns need).1, .int .i64 (menuP l ds turns need).2.1, .int .i64 (menuP l ds turns need).2.2]) := by
  by_cases hk : knownE l = 0
  case neg =>
    have hm : menuP l ds turns need = (none, 0, knownE l) := by rw [menuP, if_neg hk]
    rw [hm]
    refine RawC.walk (H := hint23 Try.prog) ir23 Try.func23 rfl rfl rfl ?_
    unfold ir23
    repeat' (first
      | with_reducible (first | refine Rd.p ?_ | refine zE ?_ | refine zE0 ?_)
      | with_reducible (first | refine zI fun y hy => ?_ | refine zL ?_ | refine zS ?_ | refine zA fun _ => ?_ | refine zV ?_ | refine zC ?_ | refine zG ?_ | refine zU ?_ | refine zG0 ?_ | refine zU0 ?_ | refine zF ?_)
      | ((with_reducible refine acall_id ?_); refine ACall.val (checkKnown_c l hl0 hs) rfl rfl ?_)
      | with_reducible (first | refine zX ?_ | refine zD fun _ => ?_ | refine zD0 ?_ | refine zN ?_ | refine zF0 ?_ | refine zX0 ?_ | refine z1 ?_ | refine z2 ?_ | refine z3 ?_ | refine z4 ?_ | refine z5 ?_ | refine z6 ?_ | refine z7 ?_ | refine z8 ?_ | refine y1 ?_ | refine y2 ?_ | refine y3 ?_ | refine y4 ?_ | refine y5 ?_ | refine y6 ?_ | refine y7 ?_ | refine y8 ?_ | refine Rt.p (fun _ => ?_) fun _ => ?_)
      | ((with_reducible apply w_ixM); (focus exact rfl); (focus exact rfl); case' hk => intro y hy) | ((with_reducible (first | apply w_val | apply q_ends)); (focus exact rfl)))
    all_goals first | contradiction | rfl
  by_cases h16 : 16 < ds.length
  · have hm : menuP l ds turns need = (none, 0, 8) := by rw [menuP, if_pos hk, if_pos h16]
    rw [hm]
    have hk' : (if 10 < l.length then 8 else gsErr [] l) = 0 := hk
    refine RawC.walk (H := hint23 Try.prog) ir23 Try.func23 rfl rfl rfl ?_
    unfold ir23
    repeat' (first
      | with_reducible (first | refine Rd.p ?_ | refine zE ?_ | refine zE0 ?_)
      | with_reducible (first | refine zI fun y hy => ?_ | refine zL ?_ | refine zS ?_ | refine zA fun _ => ?_ | refine zV ?_ | refine zC ?_ | refine zG ?_ | refine zU ?_ | refine zG0 ?_ | refine zU0 ?_ | refine zF ?_)
      | ((with_reducible refine acall_id ?_); refine ACall.val (checkKnown_c l hl0 hs) rfl rfl ?_)
      | with_reducible (first | refine zX ?_ | refine zD fun _ => ?_ | refine zD0 ?_ | refine zN ?_ | refine zF0 ?_ | refine zX0 ?_ | refine z1 ?_ | refine z2 ?_ | refine z3 ?_ | refine z4 ?_ | refine z5 ?_ | refine z6 ?_ | refine z7 ?_ | refine z8 ?_ | refine y1 ?_ | refine y2 ?_ | refine y3 ?_ | refine y4 ?_ | refine y5 ?_ | refine y6 ?_ | refine y7 ?_ | refine y8 ?_ | refine Rt.p (fun _ => ?_) fun _ => ?_)
      | ((with_reducible apply w_ixM); (focus exact rfl); (focus exact rfl); case' hk => intro y hy) | ((with_reducible (first | apply w_val | apply q_ends)); (focus exact rfl)))
    rfl
  have hk' : (if 10 < l.length then 8 else gsErr [] l) = 0 := hk
  refine RawC.walk (H := hint23 Try.prog) ir23 Try.func23 rfl rfl rfl ?_
  unfold ir23
  repeat' (first
    | with_reducible (first | refine Rd.p ?_ | refine zE ?_ | refine zE0 ?_)
    | with_reducible (first | refine zI fun y hy => ?_ | refine zL ?_ | refine zS ?_ | refine zA fun _ => ?_ | refine zV ?_ | refine zC ?_ | refine zG ?_ | refine zU ?_ | refine zG0 ?_ | refine zU0 ?_ | refine zF ?_)
    | ((with_reducible refine acall_id ?_); refine ACall.val (checkKnown_c l hl0 hs) rfl rfl ?_)
    | with_reducible (first | refine zX ?_ | refine zD fun _ => ?_ | refine zD0 ?_ | refine zN ?_ | refine zF0 ?_ | refine zX0 ?_ | refine z1 ?_ | refine z2 ?_ | refine z3 ?_ | refine z4 ?_ | refine z5 ?_ | refine z6 ?_ | refine z7 ?_ | refine z8 ?_ | refine y1 ?_ | refine y2 ?_ | refine y3 ?_ | refine y4 ?_ | refine y5 ?_ | refine y6 ?_ | refine y7 ?_ | refine y8 ?_ | refine Rt.p (fun _ => ?_) fun _ => ?_)
    | ((with_reducible apply w_ixM); (focus exact rfl); (focus exact rfl); case' hk => intro y hy) | ((with_reducible (first | apply w_val | apply q_ends)); (focus exact rfl)))
  refine w_loopK [0, 1, 2, 3] [] (fun x : List Dish × List Dish => ds = x.1 ++ x.2 ∧ dsErr ds = dsErr x.2) (fun x => x.2.length) (fun x => [(12, .int .i64 x.1.length)]) (fun _ => []) ([], ds) ⟨rfl, rfl⟩ ⟨rfl, trivial⟩ trivial ?_
  rintro ⟨pre, post⟩ ⟨hl, hb⟩ e σ
  dsimp only at hl hb ⊢
  have hlen := congrArg List.length hl
  cases post with
  | cons d post =>
    simp only [List.length_append, List.length_cons] at hlen
    simp only [dsErr] at hb
    repeat' (first
      | with_reducible (first | refine Rd.p ?_ | refine zE ?_ | refine zE0 ?_)
      | (refine w_ixP hl rfl rfl ?_)
      | with_reducible (first | refine zI fun y hy => ?_ | refine zL ?_ | refine zS ?_ | refine zA fun _ => ?_ | refine zV ?_ | refine zC ?_ | refine zG ?_ | refine zU ?_ | refine zG0 ?_ | refine zU0 ?_ | refine zF ?_)
      | ((with_reducible refine acall_id ?_); refine ACall.val (rcheckDish_c d) rfl rfl ?_)
      | with_reducible (first | refine zX ?_ | refine zD fun _ => ?_ | refine zD0 ?_ | refine zN ?_ | refine zF0 ?_ | refine zX0 ?_ | refine z1 ?_ | refine z2 ?_ | refine z3 ?_ | refine z4 ?_ | refine z5 ?_ | refine z6 ?_ | refine z7 ?_ | refine z8 ?_ | refine y1 ?_ | refine y2 ?_ | refine y3 ?_ | refine y4 ?_ | refine y5 ?_ | refine y6 ?_ | refine y7 ?_ | refine y8 ?_ | refine Rt.p (fun _ => ?_) fun _ => ?_)
      | ((with_reducible apply w_ixM); (focus exact rfl); (focus exact rfl); case' hk => intro y hy) | ((with_reducible (first | apply w_val | apply q_ends)); (focus exact rfl)))
    · rename_i h
      rw [if_neg h] at hb
      have hm : menuP l ds turns need = (none, 0, dErr d) := by rw [menuP, if_pos hk, if_neg h16, if_neg (by omega), hb]
      rw [hm]; rfl
    · rename_i h
      rw [if_pos (Decidable.not_not.1 h)] at hb
      refine zQ (pre ++ [d], post) ?_ ?_
      · exact ⟨by rw [hl]; simp, hb⟩
      · simp
  | nil =>
    simp only [List.append_nil, List.length_append, List.length_nil] at hlen
    have hd0 : dsErr ds = 0 := hb
    have hok := dsErr_0 hd0
    have hbad : (inB turns 1 4 && inB need 0 turns) = false → menuP l ds turns need = (none, 0, 2) := fun h => by rw [menuP, if_pos hk, if_neg h16, if_pos hd0, if_neg (by simp [h])]
    by_cases ht : inB turns 1 4 = true
    case neg =>
      have ht' : inB turns 1 4 = false := by simpa using ht
      rw [hbad (by simp [ht'])]
      repeat' (first
        | with_reducible (first | refine Rd.p ?_ | refine zE ?_ | refine zE0 ?_)
        | with_reducible (first | refine zI fun y hy => ?_ | refine zL ?_ | refine zS ?_ | refine zA fun _ => ?_ | refine zV ?_ | refine zC ?_ | refine zG ?_ | refine zU ?_ | refine zG0 ?_ | refine zU0 ?_ | refine zF ?_)
        | ((with_reducible refine acall_id ?_); refine ACall.val (within_c _ _ _) rfl rfl ?_)
        | with_reducible (first | refine zX ?_ | refine zD fun _ => ?_ | refine zD0 ?_ | refine zN ?_ | refine zF0 ?_ | refine zX0 ?_ | refine z1 ?_ | refine z2 ?_ | refine z3 ?_ | refine z4 ?_ | refine z5 ?_ | refine z6 ?_ | refine z7 ?_ | refine z8 ?_ | refine y1 ?_ | refine y2 ?_ | refine y3 ?_ | refine y4 ?_ | refine y5 ?_ | refine y6 ?_ | refine y7 ?_ | refine y8 ?_ | refine Rt.p (fun _ => ?_) fun _ => ?_)
        | ((with_reducible apply w_ixM); (focus exact rfl); (focus exact rfl); case' hk => intro y hy) | ((with_reducible (first | apply w_val | apply q_ends)); (focus exact rfl)))
      rfl
    by_cases hn : inB need 0 turns = true
    case neg =>
      have hn' : inB need 0 turns = false := by simpa using hn
      rw [hbad (by simp [hn'])]
      repeat' (first
        | with_reducible (first | refine Rd.p ?_ | refine zE ?_ | refine zE0 ?_)
        | with_reducible (first | refine zI fun y hy => ?_ | refine zL ?_ | refine zS ?_ | refine zA fun _ => ?_ | refine zV ?_ | refine zC ?_ | refine zG ?_ | refine zU ?_ | refine zG0 ?_ | refine zU0 ?_ | refine zF ?_)
        | ((with_reducible refine acall_id ?_); refine ACall.val (within_c _ _ _) rfl rfl ?_)
        | with_reducible (first | refine zX ?_ | refine zD fun _ => ?_ | refine zD0 ?_ | refine zN ?_ | refine zF0 ?_ | refine zX0 ?_ | refine z1 ?_ | refine z2 ?_ | refine z3 ?_ | refine z4 ?_ | refine z5 ?_ | refine z6 ?_ | refine z7 ?_ | refine z8 ?_ | refine y1 ?_ | refine y2 ?_ | refine y3 ?_ | refine y4 ?_ | refine y5 ?_ | refine y6 ?_ | refine y7 ?_ | refine y8 ?_ | refine Rt.p (fun _ => ?_) fun _ => ?_)
        | ((with_reducible apply w_ixM); (focus exact rfl); (focus exact rfl); case' hk => intro y hy) | ((with_reducible (first | apply w_val | apply q_ends)); (focus exact rfl)))
      rfl
    have ht2 := inB_t.1 ht
    obtain ⟨n, rfl⟩ := Int.eq_ofNat_of_zero_le (show 0 ≤ turns by omega)
    have hbo := bestM_ok l ds n need ht2.1
    have hme : menuP l ds n need = if (bestM l ds n need).1 = none then (none, 0, 7) else ((bestM l ds n need).1, (bestM l ds n need).2, 0) := by
      rw [menuP, if_pos hk, if_neg h16, if_pos hd0, if_pos (by simp [ht, hn])]
    have hml : (menusK ds n []).length ≤ 16 ^ n := menusK_len ds (by omega) n []
    have hml2 : (menusK ds n []).length ≤ 65536 := Nat.le_trans hml (Nat.pow_le_pow_right (by omega) (by omega : n ≤ 4))
    have hbe : bestM l ds n need = (menusK ds n []).foldl (stepM l ds need) (none, 0) := rfl
    repeat' (first
      | with_reducible (first | refine Rd.p ?_ | refine zE ?_ | refine zE0 ?_)
      | with_reducible (first | refine zI fun y hy => ?_ | refine zL ?_ | refine zS ?_ | refine zA fun _ => ?_ | refine zV ?_ | refine zC ?_ | refine zG ?_ | refine zU ?_ | refine zG0 ?_ | refine zU0 ?_ | refine zF ?_)
      | ((with_reducible refine acall_id ?_); refine ACall.val (within_c _ _ _) rfl rfl ?_)
      | (refine ACall.wval (args' := [.slc 3 (dR ds) .non, .int .i64 n, .slc 1 (iR []) .non]) (.cons (Sub.refl _) (.cons (Sub.refl _) (.cons Sub.nil .nil))) (rmenus_c ds (by omega) n n [] (by simp) (by omega)) rfl rfl ?_)
      | with_reducible (first | refine zX ?_ | refine zD fun _ => ?_ | refine zD0 ?_ | refine zN ?_ | refine zF0 ?_ | refine zX0 ?_ | refine z1 ?_ | refine z2 ?_ | refine z3 ?_ | refine z4 ?_ | refine z5 ?_ | refine z6 ?_ | refine z7 ?_ | refine z8 ?_ | refine y1 ?_ | refine y2 ?_ | refine y3 ?_ | refine y4 ?_ | refine y5 ?_ | refine y6 ?_ | refine y7 ?_ | refine y8 ?_ | refine Rt.p (fun _ => ?_) fun _ => ?_)
      | ((with_reducible apply w_ixM); (focus exact rfl); (focus exact rfl); case' hk => intro y hy) | ((with_reducible (first | apply w_val | apply q_ends)); (focus exact rfl)))
    refine w_loopK [0, 1, 2, 3, 16] [] (fun x : List (List Int) × List (List Int) × (Option (List Int) × Int) => menusK ds n [] = x.1 ++ x.2.1 ∧ okAcc x.2.2 ∧ bestM l ds n need = x.2.1.foldl (stepM l ds need) x.2.2)
      (fun x => x.2.1.length) (fun x => [(17, .int .i64 x.1.length), (14, optV x.2.2.1), (15, .int .i64 x.2.2.2)]) (fun _ => []) ([], menusK ds n [], (none, 0)) ⟨rfl, (fun m hm => (by cases hm)), rfl⟩ ⟨rfl, rfl, rfl, trivial⟩ trivial ?_
    rintro ⟨prem, postm, o, c⟩ ⟨hlm, hoa, hf⟩ e σ
    dsimp only at hlm hoa hf ⊢
    have hlenm := congrArg List.length hlm
    cases postm with
    | nil =>
      simp only [List.append_nil, List.length_append, List.length_nil] at hlenm
      have hf' : bestM l ds n need = (o, c) := hf
      cases o with
      | none =>
        repeat' (first
          | with_reducible (first | refine Rd.p ?_ | refine zE ?_ | refine zE0 ?_)
          | with_reducible (first | refine zI fun y hy => ?_ | refine zL ?_ | refine zS ?_ | refine zA fun _ => ?_ | refine zV ?_ | refine zC ?_ | refine zG ?_ | refine zU ?_ | refine zG0 ?_ | refine zU0 ?_ | refine zF ?_)
          | with_reducible (first | refine zX ?_ | refine zD fun _ => ?_ | refine zD0 ?_ | refine zN ?_ | refine zF0 ?_ | refine zX0 ?_ | refine z1 ?_ | refine z2 ?_ | refine z3 ?_ | refine z4 ?_ | refine z5 ?_ | refine z6 ?_ | refine z7 ?_ | refine z8 ?_ | refine y1 ?_ | refine y2 ?_ | refine y3 ?_ | refine y4 ?_ | refine y5 ?_ | refine y6 ?_ | refine y7 ?_ | refine y8 ?_ | refine Rt.p (fun _ => ?_) fun _ => ?_)
          | ((with_reducible apply w_ixM); (focus exact rfl); (focus exact rfl); case' hk => intro y hy) | ((with_reducible (first | apply w_val | apply q_ends)); (focus exact rfl)))
        rw [hme, hf', if_pos rfl]; rfl
      | some m0 =>
        have hm0 : iR m0 ≠ [] := by have := hoa m0 rfl; simpa using this
        repeat' (first
          | with_reducible (first | refine Rd.p ?_ | refine zE ?_ | refine zE0 ?_)
          | with_reducible (first | refine zI fun y hy => ?_ | refine zL ?_ | refine zS ?_ | refine zA fun _ => ?_)
          | ((with_reducible apply w_ixM); (focus exact rfl); (focus exact rfl); (focus ((repeat' (with_reducible (first | exact trivial | apply And.intro))) <;> (first | exact hm0 | exact sd))); case' hk => intro y hy) | ((with_reducible apply w_slM); (focus exact rfl); (focus exact rfl); (focus exact rfl); (focus ((repeat' (with_reducible (first | exact trivial | apply And.intro))) <;> (first | exact hm0 | exact sd)))) | ((with_reducible apply w_val); (focus exact rfl); (focus ((repeat' (with_reducible (first | exact trivial | apply And.intro))) <;> (first | exact hm0 | exact sd)))) | ((with_reducible apply w_det); (focus exact fun _ => rfl); (focus ((repeat' (with_reducible (first | exact trivial | apply And.intro))) <;> (first | exact hm0 | exact sd))); case' hk => intro _) | ((with_reducible apply w_det0); (focus exact fun _ => rfl); (focus ((repeat' (with_reducible (first | exact trivial | apply And.intro))) <;> (first | exact hm0 | exact sd)))) | ((with_reducible apply q_ends); (focus exact rfl); (focus ((repeat' (with_reducible (first | exact trivial | apply And.intro))) <;> (first | exact hm0 | exact sd))))
          | with_reducible (first | refine zI fun y hy => ?_ | refine zL ?_ | refine zS ?_ | refine zA fun _ => ?_ | refine zV ?_ | refine zC ?_ | refine zG ?_ | refine zU ?_ | refine zG0 ?_ | refine zU0 ?_ | refine zF ?_)
          | with_reducible (first | refine zX ?_ | refine zD fun _ => ?_ | refine zD0 ?_ | refine zN ?_ | refine zF0 ?_ | refine zX0 ?_ | refine z1 ?_ | refine z2 ?_ | refine z3 ?_ | refine z4 ?_ | refine z5 ?_ | refine z6 ?_ | refine z7 ?_ | refine z8 ?_ | refine y1 ?_ | refine y2 ?_ | refine y3 ?_ | refine y4 ?_ | refine y5 ?_ | refine y6 ?_ | refine y7 ?_ | refine y8 ?_ | refine Rt.p (fun _ => ?_) fun _ => ?_)
          | ((with_reducible apply w_ixM); (focus exact rfl); (focus exact rfl); case' hk => intro y hy) | ((with_reducible (first | apply w_val | apply q_ends)); (focus exact rfl)))
        rw [hme, hf', if_neg (by simp)]; rfl
    | cons m postm =>
      simp only [List.length_append, List.length_cons] at hlenm
      have hmm := menusK_mem (show m ∈ menusK ds n [] by rw [hlm]; simp)
      have hmr := hmm.2 (fun i hi => by cases hi)
      have hmn : m.length = n := by have := hmm.1; simp at this; exact this
      have hcb := costM_bd hok m
      repeat' (first
        | with_reducible (first | refine Rd.p ?_ | refine zE ?_ | refine zE0 ?_)
        | with_reducible (first | refine zI fun y hy => ?_ | refine zL ?_ | refine zS ?_ | refine zA fun _ => ?_ | refine zV ?_ | refine zC ?_ | refine zG ?_ | refine zU ?_ | refine zG0 ?_ | refine zU0 ?_ | refine zF ?_)
        | with_reducible (first | refine zX ?_ | refine zD fun _ => ?_ | refine zD0 ?_ | refine zN ?_ | refine zF0 ?_ | refine zX0 ?_ | refine z1 ?_ | refine z2 ?_ | refine z3 ?_ | refine z4 ?_ | refine z5 ?_ | refine z6 ?_ | refine z7 ?_ | refine z8 ?_ | refine y1 ?_ | refine y2 ?_ | refine y3 ?_ | refine y4 ?_ | refine y5 ?_ | refine y6 ?_ | refine y7 ?_ | refine y8 ?_ | refine Rt.p (fun _ => ?_) fun _ => ?_)
        | ((with_reducible apply w_ixM); (focus exact rfl); (focus exact rfl); case' hk => intro y hy) | ((with_reducible (first | apply w_val | apply q_ends)); (focus exact rfl)))
      refine w_loopK [0, 1, 2, 3, 14, 15, 16, 17] [] (fun x : List Int × List Int => m = x.1 ++ x.2) (fun x => x.2.length) (fun x => [(19, .int .i64 x.1.length), (18, .int .i64 (costM ds x.1))]) (fun _ => []) ([], m) rfl ⟨rfl, rfl, trivial⟩ trivial ?_
      rintro ⟨pre1, post1⟩ hl1 e σ
      dsimp only at hl1 ⊢
      have hlen1 := congrArg List.length hl1
      have hcb1 := costM_bd hok pre1
      cases post1 with
      | nil =>
        simp only [List.append_nil, List.length_append, List.length_nil] at hlen1 hl1
        subst hl1
        have hst : stepM l ds need (o, c) m = if enoughB l ds m need = true ∧ (o = none ∨ costM ds m < c) then (some m, costM ds m) else (o, c) := rfl
        have hne : m ≠ [] := fun h => by rw [h] at hmn; simp at hmn; omega
        rw [List.foldl_cons] at hf
        cases ho : o with
        | none =>
          rw [ho] at hst hf hoa
          repeat' (first
            | with_reducible (first | refine Rd.p ?_ | refine zE ?_ | refine zE0 ?_)
            | (refine w_ixP hlm rfl rfl ?_)
            | with_reducible (first | refine zI fun y hy => ?_ | refine zL ?_ | refine zS ?_ | refine zA fun _ => ?_ | refine zV ?_ | refine zC ?_ | refine zG ?_ | refine zU ?_ | refine zG0 ?_ | refine zU0 ?_ | refine zF ?_)
            | ((with_reducible refine acall_id ?_); refine ACall.val (renough_c l ds m need hl0 (by omega) hmr) rfl rfl ?_)
            | with_reducible (first | refine zX ?_ | refine zD fun _ => ?_ | refine zD0 ?_ | refine zN ?_ | refine zF0 ?_ | refine zX0 ?_ | refine z1 ?_ | refine z2 ?_ | refine z3 ?_ | refine z4 ?_ | refine z5 ?_ | refine z6 ?_ | refine z7 ?_ | refine z8 ?_ | refine y1 ?_ | refine y2 ?_ | refine y3 ?_ | refine y4 ?_ | refine y5 ?_ | refine y6 ?_ | refine y7 ?_ | refine y8 ?_ | refine Rt.p (fun _ => ?_) fun _ => ?_)
            | ((with_reducible apply w_ixM); (focus exact rfl); (focus exact rfl); case' hk => intro y hy) | ((with_reducible (first | apply w_val | apply q_ends)); (focus exact rfl)))
          · rename_i hen
            rw [hst, if_pos ⟨hen, .inl rfl⟩] at hf
            refine zQ (prem ++ [m], postm, some m, costM ds m) ?_ ?_
            · exact ⟨by rw [hlm]; simp, (fun x hx => by cases hx; exact hne), hf⟩
            · simp
          · rename_i hen
            rw [hst, if_neg (by simp [hen])] at hf
            refine zQ (prem ++ [m], postm, none, c) ?_ ?_
            · exact ⟨by rw [hlm]; simp, hoa, hf⟩
            · simp
        | some m0 =>
          rw [ho] at hst hf hoa
          have hm0 : iR m0 ≠ [] := by have := hoa m0 rfl; simpa using this
          repeat' (first
            | with_reducible (first | refine Rd.p ?_ | refine zE ?_ | refine zE0 ?_)
            | (refine w_ixP hlm rfl rfl ?_)
            | with_reducible (first | refine zI fun y hy => ?_ | refine zL ?_ | refine zS ?_ | refine zA fun _ => ?_)
            | ((with_reducible apply w_ixM); (focus exact rfl); (focus exact rfl); (focus ((repeat' (with_reducible (first | exact trivial | apply And.intro))) <;> (first | exact hm0 | exact sd))); case' hk => intro y hy) | ((with_reducible apply w_slM); (focus exact rfl); (focus exact rfl); (focus exact rfl); (focus ((repeat' (with_reducible (first | exact trivial | apply And.intro))) <;> (first | exact hm0 | exact sd)))) | ((with_reducible apply w_val); (focus exact rfl); (focus ((repeat' (with_reducible (first | exact trivial | apply And.intro))) <;> (first | exact hm0 | exact sd)))) | ((with_reducible apply w_det); (focus exact fun _ => rfl); (focus ((repeat' (with_reducible (first | exact trivial | apply And.intro))) <;> (first | exact hm0 | exact sd))); case' hk => intro _) | ((with_reducible apply w_det0); (focus exact fun _ => rfl); (focus ((repeat' (with_reducible (first | exact trivial | apply And.intro))) <;> (first | exact hm0 | exact sd)))) | ((with_reducible apply q_ends); (focus exact rfl); (focus ((repeat' (with_reducible (first | exact trivial | apply And.intro))) <;> (first | exact hm0 | exact sd))))
            | with_reducible (first | refine zI fun y hy => ?_ | refine zL ?_ | refine zS ?_ | refine zA fun _ => ?_ | refine zV ?_ | refine zC ?_ | refine zG ?_ | refine zU ?_ | refine zG0 ?_ | refine zU0 ?_ | refine zF ?_)
            | ((with_reducible refine acall_id ?_); refine ACall.val (renough_c l ds m need hl0 (by omega) hmr) rfl rfl ?_)
            | with_reducible (first | refine zX ?_ | refine zD fun _ => ?_ | refine zD0 ?_ | refine zN ?_ | refine zF0 ?_ | refine zX0 ?_ | refine z1 ?_ | refine z2 ?_ | refine z3 ?_ | refine z4 ?_ | refine z5 ?_ | refine z6 ?_ | refine z7 ?_ | refine z8 ?_ | refine y1 ?_ | refine y2 ?_ | refine y3 ?_ | refine y4 ?_ | refine y5 ?_ | refine y6 ?_ | refine y7 ?_ | refine y8 ?_ | refine Rt.p (fun _ => ?_) fun _ => ?_)
            | ((with_reducible apply w_ixM); (focus exact rfl); (focus exact rfl); case' hk => intro y hy) | ((with_reducible (first | apply w_val | apply q_ends)); (focus exact rfl)))
          · rename_i hen hlt
            rw [hst, if_pos ⟨hen, .inr hlt⟩] at hf
            refine zQ (prem ++ [m], postm, some m, costM ds m) ?_ ?_
            · exact ⟨by rw [hlm]; simp, (fun x hx => by cases hx; exact hne), hf⟩
            · simp
          · rename_i hen hlt
            rw [hst, if_neg (by simp; intro _; omega)] at hf
            refine zQ (prem ++ [m], postm, some m0, c) ?_ ?_
            · exact ⟨by rw [hlm]; simp, hoa, hf⟩
            · simp
          · rename_i hen
            rw [hst, if_neg (by simp [hen])] at hf
            refine zQ (prem ++ [m], postm, some m0, c) ?_ ?_
            · exact ⟨by rw [hlm]; simp, hoa, hf⟩
            · simp
      | cons i post1 =>
        simp only [List.length_append, List.length_cons] at hlen1
        have hi := hmr i (by rw [hl1]; simp)
        have hsn := costM_snoc ds i pre1
        have hdc := dAt_cost hok i
        repeat' (first
          | with_reducible (first | refine Rd.p ?_ | refine zE ?_ | refine zE0 ?_)
          | (first | refine w_ixP hlm rfl rfl ?_ | refine w_ixP hl1 rfl rfl ?_)
          | with_reducible (first | refine zI fun y hy => ?_ | refine zL ?_ | refine zS ?_ | refine zA fun _ => ?_)
          | ((with_reducible apply w_ixM); (focus exact rfl); (focus exact rfl); (focus ((repeat' (with_reducible (first | exact trivial | apply And.intro))) <;> (first | (have : dAt ds i = y := (by simp [dAt, hy]); rw [this] at hdc; unfold inI; omega) | exact sd))); case' hk => intro y hy) | ((with_reducible apply w_slM); (focus exact rfl); (focus exact rfl); (focus exact rfl); (focus ((repeat' (with_reducible (first | exact trivial | apply And.intro))) <;> (first | (have : dAt ds i = y := (by simp [dAt, hy]); rw [this] at hdc; unfold inI; omega) | exact sd)))) | ((with_reducible apply w_val); (focus exact rfl); (focus ((repeat' (with_reducible (first | exact trivial | apply And.intro))) <;> (first | (have : dAt ds i = y := (by simp [dAt, hy]); rw [this] at hdc; unfold inI; omega) | exact sd)))) | ((with_reducible apply w_det); (focus exact fun _ => rfl); (focus ((repeat' (with_reducible (first | exact trivial | apply And.intro))) <;> (first | (have : dAt ds i = y := (by simp [dAt, hy]); rw [this] at hdc; unfold inI; omega) | exact sd))); case' hk => intro _) | ((with_reducible apply w_det0); (focus exact fun _ => rfl); (focus ((repeat' (with_reducible (first | exact trivial | apply And.intro))) <;> (first | (have : dAt ds i = y := (by simp [dAt, hy]); rw [this] at hdc; unfold inI; omega) | exact sd)))) | ((with_reducible apply q_ends); (focus exact rfl); (focus ((repeat' (with_reducible (first | exact trivial | apply And.intro))) <;> (first | (have : dAt ds i = y := (by simp [dAt, hy]); rw [this] at hdc; unfold inI; omega) | exact sd))))
          | with_reducible (first | refine zI fun y hy => ?_ | refine zL ?_ | refine zS ?_ | refine zA fun _ => ?_ | refine zV ?_ | refine zC ?_ | refine zG ?_ | refine zU ?_ | refine zG0 ?_ | refine zU0 ?_ | refine zF ?_)
          | with_reducible (first | refine zX ?_ | refine zD fun _ => ?_ | refine zD0 ?_ | refine zN ?_ | refine zF0 ?_ | refine zX0 ?_ | refine z1 ?_ | refine z2 ?_ | refine z3 ?_ | refine z4 ?_ | refine z5 ?_ | refine z6 ?_ | refine z7 ?_ | refine z8 ?_ | refine y1 ?_ | refine y2 ?_ | refine y3 ?_ | refine y4 ?_ | refine y5 ?_ | refine y6 ?_ | refine y7 ?_ | refine y8 ?_ | refine Rt.p (fun _ => ?_) fun _ => ?_)
          | ((with_reducible apply w_ixM); (focus exact rfl); (focus exact rfl); case' hk => intro y hy) | ((with_reducible (first | apply w_val | apply q_ends)); (focus exact rfl)))
        rw [show dAt ds i = y by simp [dAt, hy]] at hsn
        refine zQ (pre1 ++ [i], post1) ?_ ?_
        · rw [hl1]; simp
        · simp
end Go.Abs
