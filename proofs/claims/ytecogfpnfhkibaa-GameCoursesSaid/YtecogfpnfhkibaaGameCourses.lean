/- GameCourses: for every game and every list of numbers the law GameCourses answers true and changes nothing of what it was given. Condition: none beyond the statement's own. -/
import Derived.Test.YtecogfpnfhkibaaN1a
import Derived.Test.YtecogfpnfhkibaaN1b
import Derived.Test.YtecogfpnfhkibaaN1c
import Derived.Test.YtecogfpnfhkibaaN1d
import Derived.Test.YtecogfpnfhkibaaN1e
import Derived.Test.YtecogfpnfhkibaaN1f
import Derived.Test.YtecogfpnfhkibaaN1g
import Derived.Test.YtecogfpnfhkibaaN2a
import Derived.Test.YtecogfpnfhkibaaN2b
import Derived.Test.YtecogfpnfhkibaaN2c
import Derived.Test.YtecogfpnfhkibaaN4a
import Derived.Test.YtecogfpnfhkibaaN6a
import Derived.Test.YtecogfpnfhkibaaN6b
set_option linter.unusedVariables false
set_option linter.unusedSimpArgs false
set_option maxRecDepth 20000
set_option maxHeartbeats 4000000
namespace Go.Proofs.Ytecogfpnfhkibaa.lawGameCourses
open Go.ChangeShapes Go.WideShapes Go.ChangeAt Go.RowKit Go.Abs
set_option maxRecDepth 100000 in
theorem lifted (os:Os) (started:os.Started) (H:Type) (enc:TypeId×Value→H):
  ReturnsInHanded {} Try.checked os 4 .any (Rows.gameCoursesSpec.pre6 enc Try.prog Try.f4 Rows.gameCoursesRow.domain false) (Rows.gameCoursesSpec.post enc Try.prog Try.f4 false true false false):=by
 refine returnsInHanded_of_change_sized (C:=Try.checked) own started (by kernel_rfl) Try.func4
  (ChangeSpec.witness6 (enc:=enc) (C:=Try.checked) false ⟨#[],#[.agg #[.slice none 0 0,.slice none 0 0],.slice none 0 0],[]⟩ 8 (by kernel_rfl) (by kernel_rfl) (by kernel_rfl) (by kernel_rfl)) ?_
 intro W base args ds gs before hval0 hW hcnd hwt _
 have hval:∀(j:Nat) t v,Try.f4.params[j]?=some t→args[j]?=some v→Value.okWide Try.prog W .any base t v:=hval0
 have hW':=hW
 obtain⟨p,q,hA0,hV,rfl,hfz,hnd⟩:=hW
 have hA:DataW.TrodAll enc Try.prog W 0 (fun _=>true) true Try.f4.params.toList args.toList ds p:=hA0
 rw[Try.params4] at hA hval
 obtain⟨v0,vs0,d0,ds0,p0,q0,hargs,rfl,rfl,h0,r0⟩:=trodAll_cons hA
 obtain⟨v1,vs1,d1,ds1,p1,q1,rfl,rfl,rfl,h1,r1⟩:=trodAll_cons r0
 obtain⟨rfl,rfl,rfl⟩:=trodAll_nil r1
 obtain rfl:args= #[v0,v1]:=by cases args;simp_all
 obtain⟨rfl,rfl⟩:=trodVars_none hV
 have hwt0:(DataW.weightsEach Try.prog [25,28] [d0,d1]).all (· ≤reachBytes)=true:=hwt
 simp only[DataW.weightsEach,List.append_nil,List.all_append,Bool.and_eq_true] at hwt0
 obtain⟨hw0,hw1⟩:=hwt0
 have lt0:∀x∈p0,x.block<W.heap.size:=by obtain⟨m,hm⟩:=h0;exact DataW.trod_lt m _ _ _ hm
 have lt1:∀x∈p1,x.block<W.heap.size:=by obtain⟨m,hm⟩:=h1;exact DataW.trod_lt m _ _ _ hm
 obtain⟨gs0,rs0,hg0,hr0,R0⟩:=open_party (hval 0 25 v0 rfl rfl) h0
 obtain⟨a1,len1,cap1,zs1,rfl,w1,hlen1⟩:=open_nums (hval 1 28 v1 rfl rfl) h1 hw1
 obtain⟨hl1,_,R1⟩:=w1.rel
 have hml:maxLen<2^63:=by decide
 clear hA0 hval0
 refine (walk_law (lawCourses_c ⟨gs0,rs0⟩ (zs1.take len1) (Nat.lt_of_le_of_lt hg0 (by decide)) (Nat.lt_of_le_of_lt hr0 (by decide)) (by omega)) (vals:=[_,_]) ⟨_,_,rfl,R0,⟨_,_,rfl,R1,rfl⟩⟩).mono fun e W' ⟨he,bel⟩=>?_
 subst he
 exact⟨_,rfl,_,_,_,[],_,[],hW',trodAll_mk1 (shut_bool Try.underlying4 _),(trodAll_cons_mk (Below.trod laidOut (by kernel_rfl) (of_decide_eq_true (by kernel_rfl)) h0 bel lt0) (trodAll_cons_mk (Below.trod laidOut (by kernel_rfl) (of_decide_eq_true (by kernel_rfl)) h1 bel lt1) trodAll_mk0)),rfl,bel.frame _,fun h=>by cases h⟩
theorem over:Rows.gameCoursesRow.holds Try.pinned (OpenSpec.ofChange Rows.gameCoursesSpec):=
 OpenClaim.holds_of_wide 4 Try.f4 rfl rfl rfl rfl rfl rfl rfl ⟨rfl,rfl,rfl,rfl,rfl⟩ rfl rfl rfl rfl rfl (by kernel_rfl) Try.func4 (by kernel_rfl)
  (of_decide_eq_true (by kernel_rfl)) (by unfold Func.isWrapper;first | (rw[if_pos (by decide+kernel)];kernel_rfl) | (rw[if_neg (by decide+kernel)];exact⟨rfl,rfl⟩))
  (fun os started H enc _=>lifted os started H enc)
theorem holds:Rows.GameCoursesSaid:=over
end Go.Proofs.Ytecogfpnfhkibaa.lawGameCourses
