/- GameDues: for every game, every ask, every course and every list of numbers the law GameDues answers true and changes nothing of what it was given. Condition: none beyond the statement's own. -/
import Derived.Test.YtegfkfgkplnjgaaGreatQ1a
import Derived.Test.YtegfkfgkplnjgaaGreatQ1b
import Derived.Test.YtegfkfgkplnjgaaGreatQ1c
import Derived.Test.YtegfkfgkplnjgaaGreatQ1d
import Derived.Test.YtegfkfgkplnjgaaGreatQ1e
import Derived.Test.YtegfkfgkplnjgaaGreatQ1f
import Derived.Test.YtegfkfgkplnjgaaGreatQ1g
import Derived.Test.YtegfkfgkplnjgaaGreatQ1h
import Derived.Test.YtegfkfgkplnjgaaGreatQ1i
import Derived.Test.YtegfkfgkplnjgaaGreatQ1j
import Derived.Test.YtegfkfgkplnjgaaGreatQ1k
import Derived.Test.YtegfkfgkplnjgaaGreatQ1l
import Derived.Test.YtegfkfgkplnjgaaGreatQ2a
import Derived.Test.YtegfkfgkplnjgaaGreatQ2b
import Derived.Test.YtegfkfgkplnjgaaGreatQ2c
set_option linter.unusedVariables false
set_option linter.unusedSimpArgs false
set_option maxRecDepth 20000
set_option maxHeartbeats 4000000
namespace Go.Proofs.YtegfkfgkplnjgaaGreat.lawGameDues
open Go.ChangeShapes Go.WideShapes Go.ChangeAt Go.RowKit Go.Abs
set_option maxRecDepth 100000 in
theorem lifted (os:Os) (started:os.Started) (H:Type) (enc:TypeId×Value→H):
  ReturnsInHanded {} Tryz.checked os 3 .any (Rows.gameDuesSpec.pre6 enc Tryz.prog Tryz.f3 Rows.gameDuesRow.domain false) (Rows.gameDuesSpec.post enc Tryz.prog Tryz.f3 false true false false):=by
 refine returnsInHanded_of_change_sized (C:=Tryz.checked) own started (by kernel_rfl) Tryz.func3
  (ChangeSpec.witness6 (enc:=enc) (C:=Tryz.checked) false ⟨#[],#[.agg #[.slice none 0 0,.slice none 0 0],.agg #[.int .i64 0,.int .i64 0],.slice none 0 0,.slice none 0 0],[]⟩ 8 (by kernel_rfl) (by kernel_rfl) (by kernel_rfl) (by kernel_rfl)) ?_
 intro W base args ds gs before hval0 hW hcnd hwt _
 have hval:∀(j:Nat) t v,Tryz.f3.params[j]?=some t→args[j]?=some v→Value.okWide Tryz.prog W .any base t v:=hval0
 have hW':=hW
 obtain⟨p,q,hA0,hV,rfl,hfz,hnd⟩:=hW
 have hA:DataW.TrodAll enc Tryz.prog W 0 (fun _=>true) true Tryz.f3.params.toList args.toList ds p:=hA0
 rw[Tryz.params3] at hA hval
 obtain⟨v0,vs0,d0,ds0,p0,q0,hargs,rfl,rfl,h0,r0⟩:=trodAll_cons hA
 obtain⟨v1,vs1,d1,ds1,p1,q1,rfl,rfl,rfl,h1,r1⟩:=trodAll_cons r0
 obtain⟨v2,vs2,d2,ds2,p2,q2,rfl,rfl,rfl,h2,r2⟩:=trodAll_cons r1
 obtain⟨v3,vs3,d3,ds3,p3,q3,rfl,rfl,rfl,h3,r3⟩:=trodAll_cons r2
 obtain⟨rfl,rfl,rfl⟩:=trodAll_nil r3
 obtain rfl:args= #[v0,v1,v2,v3]:=by cases args;simp_all
 obtain⟨rfl,rfl⟩:=trodVars_none hV
 have hwt0:(DataW.weightsEach Tryz.prog [25,27,28,28] [d0,d1,d2,d3]).all (· ≤reachBytes)=true:=hwt
 simp only[DataW.weightsEach,List.append_nil,List.all_append,Bool.and_eq_true] at hwt0
 obtain⟨hw0,hw1,hw2,hw3⟩:=hwt0
 have lt0:∀x∈p0,x.block<W.heap.size:=by obtain⟨m,hm⟩:=h0;exact DataW.trod_lt m _ _ _ hm
 have lt1:∀x∈p1,x.block<W.heap.size:=by obtain⟨m,hm⟩:=h1;exact DataW.trod_lt m _ _ _ hm
 have lt2:∀x∈p2,x.block<W.heap.size:=by obtain⟨m,hm⟩:=h2;exact DataW.trod_lt m _ _ _ hm
 have lt3:∀x∈p3,x.block<W.heap.size:=by obtain⟨m,hm⟩:=h3;exact DataW.trod_lt m _ _ _ hm
 obtain⟨gs0,rs0,hg0,hr0,R0⟩:=open_party (hval 0 25 v0 rfl rfl) h0
 obtain⟨x1,R1⟩:=open_agg askT (underAq.trans Tryz.underlying26) (hval 1 27 v1 rfl rfl) h1
 obtain⟨a2,len2,cap2,zs2,rfl,w2,hlen2⟩:=open_nums (hval 2 28 v2 rfl rfl) h2 hw2
 obtain⟨hl2,_,R2⟩:=w2.rel
 obtain⟨a3,len3,cap3,zs3,rfl,w3,hlen3⟩:=open_nums (hval 3 28 v3 rfl rfl) h3 hw3
 obtain⟨hl3,_,R3⟩:=w3.rel
 have hml:maxLen<2^63:=by decide
 clear hA0 hval0
 refine (walk_law (gameDues_c ⟨gs0,rs0⟩ x1 (zs2.take len2) (zs3.take len3) (Nat.lt_of_le_of_lt hg0 (by decide)) (Nat.lt_of_le_of_lt hr0 (by decide)) (by omega) (by omega)) (vals:=[_,_,_,_]) ⟨_,_,rfl,R0,⟨_,_,rfl,R1,⟨_,_,rfl,R2,⟨_,_,rfl,R3,rfl⟩⟩⟩⟩).mono fun e W' ⟨he,bel⟩=>?_
 subst he
 exact⟨_,rfl,_,_,_,[],_,[],hW',trodAll_mk1 (shut_bool Tryz.underlying4 _),(trodAll_cons_mk (Below.trod laidOut (by kernel_rfl) (of_decide_eq_true (by kernel_rfl)) h0 bel lt0) (trodAll_cons_mk (Below.trod laidOut (by kernel_rfl) (of_decide_eq_true (by kernel_rfl)) h1 bel lt1) (trodAll_cons_mk (Below.trod laidOut (by kernel_rfl) (of_decide_eq_true (by kernel_rfl)) h2 bel lt2) (trodAll_cons_mk (Below.trod laidOut (by kernel_rfl) (of_decide_eq_true (by kernel_rfl)) h3 bel lt3) trodAll_mk0)))),rfl,bel.frame _,fun h=>by cases h⟩
theorem over:Rows.gameDuesRow.holds Tryz.pinned (OpenSpec.ofChange Rows.gameDuesSpec):=
 OpenClaim.holds_of_wide 3 Tryz.f3 rfl rfl rfl rfl rfl rfl rfl ⟨rfl,rfl,rfl,rfl,rfl⟩ rfl rfl rfl rfl rfl (by kernel_rfl) Tryz.func3 (by kernel_rfl)
  (of_decide_eq_true (by kernel_rfl)) (by unfold Func.isWrapper;first | (rw[if_pos (by decide+kernel)];kernel_rfl) | (rw[if_neg (by decide+kernel)];exact⟨rfl,rfl⟩))
  (fun os started H enc _=>lifted os started H enc)
theorem holds:Rows.GameDuesSaid:=over
end Go.Proofs.YtegfkfgkplnjgaaGreat.lawGameDues
