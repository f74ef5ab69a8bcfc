/- A part of the proofs of the laws of this seat: contracts of the functions that they reach, each proved of the program's form in Lean. No condition beyond those that each contract names. -/
import Derived.Test.YtecogfpnfhkibaaProg
import Derived.Test.YtecogfpnfhkibaaSnd3
import Derived.Test.YtecogfpnfhkibaaA0
import Derived.Test.YtecogfpnfhkibaaN1a
import Derived.Test.YtecogfpnfhkibaaN1b
import Derived.Test.YtecogfpnfhkibaaN1c
import Derived.Test.YtecogfpnfhkibaaN1d
import Derived.Test.YtecogfpnfhkibaaN1e
import Derived.Test.YtecogfpnfhkibaaN1f
import Derived.Test.YtecogfpnfhkibaaN1g
import Derived.Test.YtecogfpnfhkibaaN2a
set_option linter.unusedVariables false
set_option linter.unusedSimpArgs false
set_option maxRecDepth 20000
set_option maxHeartbeats 4000000
namespace Go.Abs
open Go.Proofs
theorem rcount_c (n:Nat) (hn:n≤6):∀(A:List Dl) (b:List Int) (m:Int) (B c:List Int) (a:AV),CV a c→tbIn b m→runOK n (A.map spOf) b m→bgT n b B→A.length<1000→c.length<1000→Fn0 Try.prog 92 [.slc 5 (dlR A) .non,bgV B,a] (fun v=>v= .int .i64 (cntP (A.map spOf) c B))
 | [],b,m,B,c,a,hc,ht,hr,hB,hA,hcl=>by
   have hz:([]:List Dl).length=0:=rfl
   have hl:=hB.l
   rcases hc with⟨rfl,rfl⟩ | rfl
   all_goals
    refine RawC.walk (H:=hint92 Try.prog) ir92 Try.func92 rfl rfl rfl ?_
    unfold ir92
    repeat' (first
     | with_reducible (first | refine Rd.p ?_ | refine w_alt ?_ ?_ | refine zE ?_ | refine zE0 ?_)
     | (first | (refine w_boxN rfl hl ?_;intro g2))
     | with_reducible (first | refine zI fun y hy=>?_ | refine zL ?_ | refine zS ?_ | refine zA fun _=>?_ | refine zV ?_ | refine zC ?_ | refine zG ?_ | refine zU ?_ | refine zG0 ?_ | refine zU0 ?_ | refine zF ?_)
     | with_reducible (first | refine zX ?_ | refine zD fun _=>?_ | refine zD0 ?_ | refine zN ?_ | refine zF0 ?_ | refine zX0 ?_ | refine z1 ?_ | refine z2 ?_ | refine z3 ?_ | refine z4 ?_ | refine z5 ?_ | refine z6 ?_ | refine z7 ?_ | refine z8 ?_ | refine y1 ?_ | refine y2 ?_ | refine y3 ?_ | refine y4 ?_ | refine y5 ?_ | refine y6 ?_ | refine y7 ?_ | refine y8 ?_ | refine Rt.p (fun _=>?_) fun _=>?_)
     | ((with_reducible apply w_ixM);(focus exact rfl);(focus exact rfl);case' hk=>intro y hy) | ((with_reducible (first | apply w_val | apply q_ends));(focus exact rfl)))
    all_goals first
     | (exfalso;omega)
     | rfl
 | d::A,b,m,B,c,a,hc,ht,hr,hB,hA,hcl=>by
   have hl:=hB.l
   have hin:=hB.bgin ht
   have hx:=hr.1
   have ht2:=(ht.step hx).1
   have hds:=rdraws_c d
   have hm:=ht.m
   have hbd:=cntP_bd hn c ht hr hB
   have hsb:=szP_bd ht hr
   have hsb2:=szP_bd ht2 hr.2
   have hcls:(d::A).length=A.length+1:=rfl
   have hmap:(d::A).map spOf=spOf d::A.map spOf:=rfl
   rw[hmap] at hbd hsb ⊢
   have hs1:(spOf d).2.1=drawsB d:=rfl
   have hs2:(spOf d).2.2=(decide (d.kind=5) || decide (d.kind=6)):=rfl
   cases hdb:drawsB d with
   | false=>
     have hk:¬(d.kind=4∨d.kind=5):=by simpa[drawsB] using hdb
     have hnd:¬(spOf d).2.1=true:=by rw[hs1,hdb];decide
     rw[hdb] at hds
     have hB2:=hB.mix ht.l hn hx (by rw[hs1,hdb])
     by_cases h6:d.kind=6
     · have hce:(spOf d).2.2=true:=by rw[hs2];simp[h6]
       have hmx:mixedB (spOf d).1 B=B:=by show mixedB d B=B;unfold mixedB;rw[if_neg (by omega),if_neg (by omega)]
       rw[hmx] at hB2
       cases c with
       | nil=>
         rw[cntP_pn hnd hce,hmx]
         have ih:=rcount_c n hn A _ _ B [] .nsl (.inl ⟨rfl,rfl⟩) ht2 hr.2 hB2 (by omega) hcl
         have hz:([]:List Int).length=0:=rfl
         rcases hc with⟨rfl,-⟩ | rfl
         all_goals
          refine RawC.walk (H:=hint92 Try.prog) ir92 Try.func92 rfl rfl rfl ?_
          unfold ir92
          repeat' (first
           | with_reducible (first | refine Rd.p ?_ | refine w_alt ?_ ?_ | refine zE ?_ | refine zE0 ?_)
           | (first | (refine w_boxN rfl hl ?_;intro g2) | refine w_ixP (f:=fun d:Dl=>[AV.int .i64 d.kind,.int .i64 d.bag,.int .i64 d.other,.int .i64 d.wood,.int .i64 d.count]) (l:=d::A) (pre:=[]) (y:=d) (post:=A) rfl rfl rfl ?_ | refine w_ldN rfl rfl hl ?_ | refine w_slT (f:=fun d:Dl=>[AV.int .i64 d.kind,.int .i64 d.bag,.int .i64 d.other,.int .i64 d.wood,.int .i64 d.count]) rfl ?_)
           | with_reducible (first | refine zI fun y hy=>?_ | refine zL ?_ | refine zS ?_ | refine zA fun _=>?_ | refine zV ?_ | refine zC ?_ | refine zG ?_ | refine zU ?_ | refine zG0 ?_ | refine zU0 ?_ | refine zF ?_)
           | ((with_reducible refine acall_id ?_);refine ACall.val hds rfl rfl ?_)
           | ((with_reducible refine acall_id ?_);refine ACall.cnt ih rfl rfl ?_)
           | with_reducible (first | refine zX ?_ | refine zD fun _=>?_ | refine zD0 ?_ | refine zN ?_ | refine zF0 ?_ | refine zX0 ?_ | refine z1 ?_ | refine z2 ?_ | refine z3 ?_ | refine z4 ?_ | refine z5 ?_ | refine z6 ?_ | refine z7 ?_ | refine z8 ?_ | refine y1 ?_ | refine y2 ?_ | refine y3 ?_ | refine y4 ?_ | refine y5 ?_ | refine y6 ?_ | refine y7 ?_ | refine y8 ?_ | refine Rt.p (fun _=>?_) fun _=>?_)
           | ((with_reducible apply w_ixM);(focus exact rfl);(focus exact rfl);case' hk=>intro y hy) | ((with_reducible (first | apply w_val | apply q_ends));(focus exact rfl)))
          all_goals first
           | (exfalso;omega)
           | rfl
       | cons w c=>
         rw[cntP_pc hnd hce,hmx]
         have ih:=rcount_c n hn A _ _ B c _ (.inr rfl) ht2 hr.2 hB2 (by omega) (by rw[List.length_cons] at hcl;omega)
         rcases hc with⟨-,h⟩ | rfl
         · cases h
         have hz:(iR (w::c)).length=c.length+1:=by rw[List.length_map];rfl
         have hz2:(w::c).length=c.length+1:=rfl
         by_cases hw:w=(spOf d).1.wood
         · rw[if_pos hw]
           change w=d.wood at hw
           refine RawC.walk (H:=hint92 Try.prog) ir92 Try.func92 rfl rfl rfl ?_
           unfold ir92
           repeat' (first
            | with_reducible (first | refine Rd.p ?_ | refine w_alt ?_ ?_ | refine zE ?_ | refine zE0 ?_)
            | (first | (refine w_boxN rfl hl ?_;intro g2) | refine w_ixP (f:=fun d:Dl=>[AV.int .i64 d.kind,.int .i64 d.bag,.int .i64 d.other,.int .i64 d.wood,.int .i64 d.count]) (l:=d::A) (pre:=[]) (y:=d) (post:=A) rfl rfl rfl ?_ | refine w_ixP (f:=fun x:Int=>[AV.int .i64 x]) (l:=w::c) (pre:=[]) (y:=w) (post:=c) rfl rfl rfl ?_ | refine w_ldN rfl rfl hl ?_ | refine w_slT (f:=fun d:Dl=>[AV.int .i64 d.kind,.int .i64 d.bag,.int .i64 d.other,.int .i64 d.wood,.int .i64 d.count]) rfl ?_ | refine w_sl1 rfl ?_)
            | with_reducible (first | refine zI fun y hy=>?_ | refine zL ?_ | refine zS ?_ | refine zA fun _=>?_ | refine zV ?_ | refine zC ?_ | refine zG ?_ | refine zU ?_ | refine zG0 ?_ | refine zU0 ?_ | refine zF ?_)
            | ((with_reducible refine acall_id ?_);refine ACall.val hds rfl rfl ?_)
            | ((with_reducible refine acall_id ?_);refine ACall.cnt ih rfl rfl ?_)
            | with_reducible (first | refine zX ?_ | refine zD fun _=>?_ | refine zD0 ?_ | refine zN ?_ | refine zF0 ?_ | refine zX0 ?_ | refine z1 ?_ | refine z2 ?_ | refine z3 ?_ | refine z4 ?_ | refine z5 ?_ | refine z6 ?_ | refine z7 ?_ | refine z8 ?_ | refine y1 ?_ | refine y2 ?_ | refine y3 ?_ | refine y4 ?_ | refine y5 ?_ | refine y6 ?_ | refine y7 ?_ | refine y8 ?_ | refine Rt.p (fun _=>?_) fun _=>?_)
            | ((with_reducible apply w_ixM);(focus exact rfl);(focus exact rfl);case' hk=>intro y hy) | ((with_reducible (first | apply w_val | apply q_ends));(focus exact rfl)))
           all_goals first
            | (exfalso;omega)
            | rfl
         · rw[if_neg hw]
           change ¬w=d.wood at hw
           refine RawC.walk (H:=hint92 Try.prog) ir92 Try.func92 rfl rfl rfl ?_
           unfold ir92
           repeat' (first
            | with_reducible (first | refine Rd.p ?_ | refine w_alt ?_ ?_ | refine zE ?_ | refine zE0 ?_)
            | (first | (refine w_boxN rfl hl ?_;intro g2) | refine w_ixP (f:=fun d:Dl=>[AV.int .i64 d.kind,.int .i64 d.bag,.int .i64 d.other,.int .i64 d.wood,.int .i64 d.count]) (l:=d::A) (pre:=[]) (y:=d) (post:=A) rfl rfl rfl ?_ | refine w_ixP (f:=fun x:Int=>[AV.int .i64 x]) (l:=w::c) (pre:=[]) (y:=w) (post:=c) rfl rfl rfl ?_ | refine w_ldN rfl rfl hl ?_)
            | with_reducible (first | refine zI fun y hy=>?_ | refine zL ?_ | refine zS ?_ | refine zA fun _=>?_ | refine zV ?_ | refine zC ?_ | refine zG ?_ | refine zU ?_ | refine zG0 ?_ | refine zU0 ?_ | refine zF ?_)
            | ((with_reducible refine acall_id ?_);refine ACall.val hds rfl rfl ?_)
            | with_reducible (first | refine zX ?_ | refine zD fun _=>?_ | refine zD0 ?_ | refine zN ?_ | refine zF0 ?_ | refine zX0 ?_ | refine z1 ?_ | refine z2 ?_ | refine z3 ?_ | refine z4 ?_ | refine z5 ?_ | refine z6 ?_ | refine z7 ?_ | refine z8 ?_ | refine y1 ?_ | refine y2 ?_ | refine y3 ?_ | refine y4 ?_ | refine y5 ?_ | refine y6 ?_ | refine y7 ?_ | refine y8 ?_ | refine Rt.p (fun _=>?_) fun _=>?_)
            | ((with_reducible apply w_ixM);(focus exact rfl);(focus exact rfl);case' hk=>intro y hy) | ((with_reducible (first | apply w_val | apply q_ends));(focus exact rfl)))
           all_goals first
            | (exfalso;omega)
            | rfl
     · have hce:¬(spOf d).2.2=true:=by rw[hs2];simp;omega
       rw[cntP_m hnd hce]
       have hrd:=rready_c d B hin (fun h2=>by obtain⟨q1,q2,q3,q4⟩:=hx.h2 (by rw[hs1,hdb]) h2;change 0≤d.wood∧d.wood<_ at q2;change 1≤d.count at q3;change m+d.count≤12 at q4;exact⟨q1,by omega,by omega⟩) (fun h3=>hx.h3 (by rw[hs1,hdb]) h3)
       have ih:=rcount_c n hn A _ _ (mixedB d B) c _ hc ht2 hr.2 hB2 (by omega) hcl
       have hml:=hB2.l
       change Fn0 Try.prog _ _ (fun v=>v= .int .i64 (cntP (A.map spOf) c (mixedB d B))) at ih
       rcases hc with⟨rfl,-⟩ | rfl
       all_goals
        refine RawC.walk (H:=hint92 Try.prog) ir92 Try.func92 rfl rfl rfl ?_
        unfold ir92
        repeat' (first
         | with_reducible (first | refine Rd.p ?_ | refine w_alt ?_ ?_ | refine zE ?_ | refine zE0 ?_)
         | (first | (refine w_boxN rfl hl ?_;intro g2) | refine w_ixP (f:=fun d:Dl=>[AV.int .i64 d.kind,.int .i64 d.bag,.int .i64 d.other,.int .i64 d.wood,.int .i64 d.count]) (l:=d::A) (pre:=[]) (y:=d) (post:=A) rfl rfl rfl ?_ | refine w_ldN rfl rfl hl ?_ | refine w_slT (f:=fun d:Dl=>[AV.int .i64 d.kind,.int .i64 d.bag,.int .i64 d.other,.int .i64 d.wood,.int .i64 d.count]) rfl ?_)
         | with_reducible (first | refine zI fun y hy=>?_ | refine zL ?_ | refine zS ?_ | refine zA fun _=>?_ | refine zV ?_ | refine zC ?_ | refine zG ?_ | refine zU ?_ | refine zG0 ?_ | refine zU0 ?_ | refine zF ?_)
         | ((with_reducible refine acall_id ?_);refine ACall.val hds rfl rfl ?_)
         | ((with_reducible refine acall_id ?_);refine ACall.bgbg hrd rfl ?_)
         | ((with_reducible refine acall_id ?_);refine ACall.cnt ih rfl rfl ?_)
         | with_reducible (first | refine zX ?_ | refine zD fun _=>?_ | refine zD0 ?_ | refine zN ?_ | refine zF0 ?_ | refine zX0 ?_ | refine z1 ?_ | refine z2 ?_ | refine z3 ?_ | refine z4 ?_ | refine z5 ?_ | refine z6 ?_ | refine z7 ?_ | refine z8 ?_ | refine y1 ?_ | refine y2 ?_ | refine y3 ?_ | refine y4 ?_ | refine y5 ?_ | refine y6 ?_ | refine y7 ?_ | refine y8 ?_ | refine Rt.p (fun _=>?_) fun _=>?_)
         | ((with_reducible apply w_ixM);(focus exact rfl);(focus exact rfl);case' hk=>intro y hy) | ((with_reducible (first | apply w_val | apply q_ends));(focus exact rfl)))
        all_goals first
         | (exfalso;omega)
         | rfl
   | true=>
     rw[hdb] at hds
     have hd:(spOf d).2.1=true:=by rw[hs1,hdb]
     have hk:d.kind=4∨d.kind=5:=by simpa[drawsB] using hdb
     obtain⟨hb,ha⟩:=hx.d hd
     have hsz1:=hB.size hb
     have hle:=ht.le hb
     have hsm:=ht.sm
     change 0≤d.bag∧d.bag≤3 at hb
     change 1≤atI b d.bag at ha
     change bgSize B d.bag=atI b d.bag at hsz1
     change atI b d.bag≤sumB b at hle
     have hbe:spB (spOf d) b=setI b d.bag (atI b d.bag+ -1):=by unfold spB;rw[if_pos hd];rfl
     cases c with
     | nil=>
       have hr1:=rsize_c B hin d.bag hb
       have hp0:0≤(0:Int)∧(0:Int)<bgSize B d.bag:=by omega
       obtain⟨hq,hq2⟩:=pickW_ok hp0.1 hp0.2
       have hr2:=rwood_c B hin d.bag 0 hb hp0 (by decide)
       have hr3:=rwithout_c B hin d.bag (pickW B d.bag 0) hb hq
       have hB2:=hB.draw ht.l hn hb hq hq2
       rw[←hbe] at hB2
       have ih:=rcount_c n hn A _ _ _ [] .nsl (.inl ⟨rfl,rfl⟩) ht2 hr.2 hB2 (by omega) hcl
       rw[cntP_dn hd] at hbd ⊢
       change 0≤bgSize B d.bag*cntP (A.map spOf) [] (drawB B d.bag (pickW B d.bag 0))∧bgSize B d.bag*cntP (A.map spOf) [] (drawB B d.bag (pickW B d.bag 0))≤_ at hbd
       have hz:([]:List Int).length=0:=rfl
       rcases hc with⟨rfl,-⟩ | rfl
       all_goals
        refine RawC.walk (H:=hint92 Try.prog) ir92 Try.func92 rfl rfl rfl ?_
        unfold ir92
        repeat' (first
         | with_reducible (first | refine Rd.p ?_ | refine w_alt ?_ ?_ | refine zE ?_ | refine zE0 ?_)
         | (first | (refine w_boxN rfl hl ?_;intro g2) | refine w_ixP (f:=fun d:Dl=>[AV.int .i64 d.kind,.int .i64 d.bag,.int .i64 d.other,.int .i64 d.wood,.int .i64 d.count]) (l:=d::A) (pre:=[]) (y:=d) (post:=A) rfl rfl rfl ?_ | refine w_ldN rfl rfl hl ?_ | refine w_chkN rfl rfl hl rfl ?_ | refine w_slT (f:=fun d:Dl=>[AV.int .i64 d.kind,.int .i64 d.bag,.int .i64 d.other,.int .i64 d.wood,.int .i64 d.count]) rfl ?_)
         | with_reducible (first | refine zI fun y hy=>?_ | refine zL ?_ | refine zS ?_ | refine zA fun _=>?_ | refine zV ?_ | refine zC ?_ | refine zG ?_ | refine zU ?_ | refine zG0 ?_ | refine zU0 ?_ | refine zF ?_)
         | ((with_reducible refine acall_id ?_);refine ACall.val hds rfl rfl ?_)
         | ((with_reducible refine acall_id ?_);refine ACall.bg2i hr1 rfl ?_)
         | ((with_reducible refine acall_id ?_);refine ACall.bg2i hr2 rfl ?_)
         | ((with_reducible refine acall_id ?_);refine ACall.bg2b hr3 rfl ?_)
         | ((with_reducible refine acall_id ?_);refine ACall.cnt ih rfl rfl ?_)
         | with_reducible (first | refine zX ?_ | refine zD fun _=>?_ | refine zD0 ?_ | refine zN ?_ | refine zF0 ?_ | refine zX0 ?_ | refine z1 ?_ | refine z2 ?_ | refine z3 ?_ | refine z4 ?_ | refine z5 ?_ | refine z6 ?_ | refine z7 ?_ | refine z8 ?_ | refine y1 ?_ | refine y2 ?_ | refine y3 ?_ | refine y4 ?_ | refine y5 ?_ | refine y6 ?_ | refine y7 ?_ | refine y8 ?_ | refine Rt.p (fun _=>?_) fun _=>?_)
         | ((with_reducible apply w_ixM);(focus exact rfl);(focus exact rfl);case' hk=>intro y hy) | ((with_reducible (first | apply w_val | apply q_ends));(focus exact rfl)))
        all_goals first
         | (exfalso;omega)
         | rfl
     | cons w c=>
       rcases hc with⟨-,h⟩ | rfl
       · cases h
       have hz2:(w::c).length=c.length+1:=rfl
       rw[cntP_dc hd]
       obtain⟨hF0,hFb⟩:=cntW_bd hn ht hr hB hd w c
       obtain⟨F,hF⟩:∃F,cntW (spOf d) (A.map spOf) B w c=F:=⟨_,rfl⟩
       rw[hF] at hF0 hFb ⊢
       have hFv:∀v:Nat,F v=if d.kind=5 then (if (v:Int)=w then bgAt B d.bag v*cntP (A.map spOf) c (drawB B d.bag v) else 0) else bgAt B d.bag v*cntP (A.map spOf) (w::c) (drawB B d.bag v):=fun v=>by
        rw[←hF]
        unfold cntW
        rw[hs2]
        by_cases h5:d.kind=5
        · rw[if_pos h5,if_pos (by simp[h5])];rfl
        · rw[if_neg h5,if_neg (by simp;omega)];rfl
       refine RawC.walk (H:=hint92 Try.prog) ir92 Try.func92 rfl rfl rfl ?_
       unfold ir92
       repeat' (first
        | with_reducible (first | refine Rd.p ?_ | refine w_alt ?_ ?_ | refine zE ?_ | refine zE0 ?_)
        | (first | (refine w_boxN rfl hl ?_;intro g2) | refine w_ixP (f:=fun d:Dl=>[AV.int .i64 d.kind,.int .i64 d.bag,.int .i64 d.other,.int .i64 d.wood,.int .i64 d.count]) (l:=d::A) (pre:=[]) (y:=d) (post:=A) rfl rfl rfl ?_ | refine w_ixP (f:=fun x:Int=>[AV.int .i64 x]) (l:=w::c) (pre:=[]) (y:=w) (post:=c) rfl rfl rfl ?_ | refine w_ldN rfl rfl hl ?_ | refine w_chkN rfl rfl hl rfl ?_ | refine w_slT (f:=fun d:Dl=>[AV.int .i64 d.kind,.int .i64 d.bag,.int .i64 d.other,.int .i64 d.wood,.int .i64 d.count]) rfl ?_ | refine w_sl1 rfl ?_)
        | with_reducible (first | refine zI fun y hy=>?_ | refine zL ?_ | refine zS ?_ | refine zA fun _=>?_ | refine zV ?_ | refine zC ?_ | refine zG ?_ | refine zU ?_ | refine zG0 ?_ | refine zU0 ?_ | refine zF ?_)
        | ((with_reducible refine acall_id ?_);refine ACall.val hds rfl rfl ?_)
        | with_reducible (first | refine zX ?_ | refine zD fun _=>?_ | refine zD0 ?_ | refine zN ?_ | refine zF0 ?_ | refine zX0 ?_ | refine z1 ?_ | refine z2 ?_ | refine z3 ?_ | refine z4 ?_ | refine z5 ?_ | refine z6 ?_ | refine z7 ?_ | refine z8 ?_ | refine y1 ?_ | refine y2 ?_ | refine y3 ?_ | refine y4 ?_ | refine y5 ?_ | refine y6 ?_ | refine y7 ?_ | refine y8 ?_ | refine Rt.p (fun _=>?_) fun _=>?_)
        | ((with_reducible apply w_ixM);(focus exact rfl);(focus exact rfl);case' hk=>intro y hy) | ((with_reducible (first | apply w_val | apply q_ends));(focus exact rfl)))
       all_goals try (exfalso;omega)
       refine w_loopK [0,2,4,7] [4,7] (fun v:Nat=>v≤6) (fun v=>6-v) (fun v=>[(9,.int .i64 (v:Int)),(8,.int .i64 (nSum v F))]) (fun _=>[]) 0 (Nat.zero_le _) ⟨rfl,rfl,trivial⟩ trivial ?_
       rintro v hv e σ
       try dsimp only at hv ⊢
       by_cases hv6:v=6
       · subst hv6
         repeat' (first
          | with_reducible (first | refine Rd.p ?_ | refine w_alt ?_ ?_ | refine zE ?_ | refine zE0 ?_)
          | with_reducible (first | refine zI fun y hy=>?_ | refine zL ?_ | refine zS ?_ | refine zA fun _=>?_ | refine zV ?_ | refine zC ?_ | refine zG ?_ | refine zU ?_ | refine zG0 ?_ | refine zU0 ?_ | refine zF ?_)
          | with_reducible (first | refine zX ?_ | refine zD fun _=>?_ | refine zD0 ?_ | refine zN ?_ | refine zF0 ?_ | refine zX0 ?_ | refine z1 ?_ | refine z2 ?_ | refine z3 ?_ | refine z4 ?_ | refine z5 ?_ | refine z6 ?_ | refine z7 ?_ | refine z8 ?_ | refine y1 ?_ | refine y2 ?_ | refine y3 ?_ | refine y4 ?_ | refine y5 ?_ | refine y6 ?_ | refine y7 ?_ | refine y8 ?_ | refine Rt.p (fun _=>?_) fun _=>?_)
          | ((with_reducible apply w_ixM);(focus exact rfl);(focus exact rfl);case' hk=>intro y hy) | ((with_reducible (first | apply w_val | apply q_ends));(focus exact rfl)))
         all_goals first
          | (exfalso;omega)
          | rfl
       have hfv:=hFv v
       have hb1:=hFb v (by omega)
       have hb2:=hFb (v+1) (by omega)
       have hb3:=hF0 v (by omega)
       have hsuc:nSum (v+1) F=nSum v F+F v:=rfl
       have hat:=hin.at (d.bag.toNat*6+v)
       have ho:0+d.bag.toNat*6+v*1=d.bag.toNat*6+v:=by omega
       have hpl2:d.bag.toNat*6+v<B.length:=by omega
       have hbv:bgAt B d.bag v=B.getD (d.bag.toNat*6+v) 0:=rfl
       rw[hbv] at hfv
       by_cases h0:B.getD (d.bag.toNat*6+v) 0=0
       · have hz0:F v=0:=by
          rw[hfv,h0]
          simp only[Int.zero_mul]
          split
          · split<;>rfl
          · rfl
         repeat' (first
          | with_reducible (first | refine Rd.p ?_ | refine w_alt ?_ ?_ | refine zE ?_ | refine zE0 ?_)
          | (first | (refine w_boxN rfl hl ?_;intro g2) | refine w_ixP (f:=fun d:Dl=>[AV.int .i64 d.kind,.int .i64 d.bag,.int .i64 d.other,.int .i64 d.wood,.int .i64 d.count]) (l:=d::A) (pre:=[]) (y:=d) (post:=A) rfl rfl rfl ?_ | refine w_ixP (f:=fun x:Int=>[AV.int .i64 x]) (l:=w::c) (pre:=[]) (y:=w) (post:=c) rfl rfl rfl ?_ | refine w_ldN rfl rfl hl ?_ | refine w_chkN rfl rfl hl rfl ?_ | refine w_slT (f:=fun d:Dl=>[AV.int .i64 d.kind,.int .i64 d.bag,.int .i64 d.other,.int .i64 d.wood,.int .i64 d.count]) rfl ?_ | refine w_sl1 rfl ?_ | refine w_ldEl rfl ho rfl hpl2 ?_ | refine w_chkEl rfl ho rfl hpl2 rfl ?_)
          | with_reducible (first | refine zI fun y hy=>?_ | refine zL ?_ | refine zS ?_ | refine zA fun _=>?_ | refine zV ?_ | refine zC ?_ | refine zG ?_ | refine zU ?_ | refine zG0 ?_ | refine zU0 ?_ | refine zF ?_)
          | with_reducible (first | refine zX ?_ | refine zD fun _=>?_ | refine zD0 ?_ | refine zN ?_ | refine zF0 ?_ | refine zX0 ?_ | refine z1 ?_ | refine z2 ?_ | refine z3 ?_ | refine z4 ?_ | refine z5 ?_ | refine z6 ?_ | refine z7 ?_ | refine z8 ?_ | refine y1 ?_ | refine y2 ?_ | refine y3 ?_ | refine y4 ?_ | refine y5 ?_ | refine y6 ?_ | refine y7 ?_ | refine y8 ?_ | refine Rt.p (fun _=>?_) fun _=>?_)
          | ((with_reducible apply w_ixM);(focus exact rfl);(focus exact rfl);case' hk=>intro y hy) | ((with_reducible (first | apply w_val | apply q_ends));(focus exact rfl)))
         all_goals first
          | (exfalso;omega)
          | exact q_loop (v+1) (by show v+1≤6;omega) (by show 6-(v+1)<6-v;omega) ⟨int_eq (by simp),by show AV.int .i64 _=AV.int .i64 _;exact int_eq (by rw[hsuc,hz0];omega),trivial⟩ (by repeat' (first | exact slots_nil | apply slots_cons | rfl | (rw[map_snoc];rfl) | (rw[len_snoc];rfl) | (rw[hS];rfl) | (rw[hS,map_snoc];rfl) | (refine int_eq ?_;(try dsimp only);omega) | (refine congrArg AV.bool ?_;simp_all;done))) (by repeat' (first | exact kept_nil | apply kept_cons | rfl)) (by repeat' (first | exact kept_nil | apply kept_cons | rfl))
       have hB2:=hB.draw ht.l hn hb (w:=(v:Int)) (by omega) (by omega)
       rw[←hbe] at hB2
       have hr3:=rwithout_c B hin d.bag v hb (by omega)
       by_cases h5:d.kind=5
       · rw[if_pos h5] at hfv
         by_cases hvw:(v:Int)=w
         · rw[if_pos hvw] at hfv
           have ih:=rcount_c n hn A _ _ _ c _ (.inr rfl) ht2 hr.2 hB2 (by omega) (by omega)
           rw[hfv] at hb3 hsuc
           repeat' (first
            | with_reducible (first | refine Rd.p ?_ | refine w_alt ?_ ?_ | refine zE ?_ | refine zE0 ?_)
            | (first | (refine w_boxN rfl hl ?_;intro g2) | refine w_ixP (f:=fun d:Dl=>[AV.int .i64 d.kind,.int .i64 d.bag,.int .i64 d.other,.int .i64 d.wood,.int .i64 d.count]) (l:=d::A) (pre:=[]) (y:=d) (post:=A) rfl rfl rfl ?_ | refine w_ixP (f:=fun x:Int=>[AV.int .i64 x]) (l:=w::c) (pre:=[]) (y:=w) (post:=c) rfl rfl rfl ?_ | refine w_ldN rfl rfl hl ?_ | refine w_chkN rfl rfl hl rfl ?_ | refine w_slT (f:=fun d:Dl=>[AV.int .i64 d.kind,.int .i64 d.bag,.int .i64 d.other,.int .i64 d.wood,.int .i64 d.count]) rfl ?_ | refine w_sl1 rfl ?_ | refine w_ldEl rfl ho rfl hpl2 ?_ | refine w_chkEl rfl ho rfl hpl2 rfl ?_)
            | with_reducible (first | refine zI fun y hy=>?_ | refine zL ?_ | refine zS ?_ | refine zA fun _=>?_ | refine zV ?_ | refine zC ?_ | refine zG ?_ | refine zU ?_ | refine zG0 ?_ | refine zU0 ?_ | refine zF ?_)
            | ((with_reducible refine acall_id ?_);refine ACall.bg2b hr3 rfl ?_)
            | ((with_reducible refine acall_id ?_);refine ACall.cnt ih rfl rfl ?_)
            | with_reducible (first | refine zX ?_ | refine zD fun _=>?_ | refine zD0 ?_ | refine zN ?_ | refine zF0 ?_ | refine zX0 ?_ | refine z1 ?_ | refine z2 ?_ | refine z3 ?_ | refine z4 ?_ | refine z5 ?_ | refine z6 ?_ | refine z7 ?_ | refine z8 ?_ | refine y1 ?_ | refine y2 ?_ | refine y3 ?_ | refine y4 ?_ | refine y5 ?_ | refine y6 ?_ | refine y7 ?_ | refine y8 ?_ | refine Rt.p (fun _=>?_) fun _=>?_)
            | ((with_reducible apply w_ixM);(focus exact rfl);(focus exact rfl);case' hk=>intro y hy) | ((with_reducible (first | apply w_val | apply q_ends));(focus exact rfl)))
           all_goals first
            | (exfalso;omega)
            | exact q_loop (v+1) (by show v+1≤6;omega) (by show 6-(v+1)<6-v;omega) ⟨int_eq (by simp),by show AV.int .i64 _=AV.int .i64 _;exact int_eq hsuc.symm,trivial⟩ (by repeat' (first | exact slots_nil | apply slots_cons | rfl | (rw[map_snoc];rfl) | (rw[len_snoc];rfl) | (rw[hS];rfl) | (rw[hS,map_snoc];rfl) | (refine int_eq ?_;(try dsimp only);omega) | (refine congrArg AV.bool ?_;simp_all;done))) (by repeat' (first | exact kept_nil | apply kept_cons | rfl)) (by repeat' (first | exact kept_nil | apply kept_cons | rfl))
         · rw[if_neg hvw] at hfv
           repeat' (first
            | with_reducible (first | refine Rd.p ?_ | refine w_alt ?_ ?_ | refine zE ?_ | refine zE0 ?_)
            | (first | (refine w_boxN rfl hl ?_;intro g2) | refine w_ixP (f:=fun d:Dl=>[AV.int .i64 d.kind,.int .i64 d.bag,.int .i64 d.other,.int .i64 d.wood,.int .i64 d.count]) (l:=d::A) (pre:=[]) (y:=d) (post:=A) rfl rfl rfl ?_ | refine w_ixP (f:=fun x:Int=>[AV.int .i64 x]) (l:=w::c) (pre:=[]) (y:=w) (post:=c) rfl rfl rfl ?_ | refine w_ldN rfl rfl hl ?_ | refine w_chkN rfl rfl hl rfl ?_ | refine w_slT (f:=fun d:Dl=>[AV.int .i64 d.kind,.int .i64 d.bag,.int .i64 d.other,.int .i64 d.wood,.int .i64 d.count]) rfl ?_ | refine w_sl1 rfl ?_ | refine w_ldEl rfl ho rfl hpl2 ?_ | refine w_chkEl rfl ho rfl hpl2 rfl ?_)
            | with_reducible (first | refine zI fun y hy=>?_ | refine zL ?_ | refine zS ?_ | refine zA fun _=>?_ | refine zV ?_ | refine zC ?_ | refine zG ?_ | refine zU ?_ | refine zG0 ?_ | refine zU0 ?_ | refine zF ?_)
            | with_reducible (first | refine zX ?_ | refine zD fun _=>?_ | refine zD0 ?_ | refine zN ?_ | refine zF0 ?_ | refine zX0 ?_ | refine z1 ?_ | refine z2 ?_ | refine z3 ?_ | refine z4 ?_ | refine z5 ?_ | refine z6 ?_ | refine z7 ?_ | refine z8 ?_ | refine y1 ?_ | refine y2 ?_ | refine y3 ?_ | refine y4 ?_ | refine y5 ?_ | refine y6 ?_ | refine y7 ?_ | refine y8 ?_ | refine Rt.p (fun _=>?_) fun _=>?_)
            | ((with_reducible apply w_ixM);(focus exact rfl);(focus exact rfl);case' hk=>intro y hy) | ((with_reducible (first | apply w_val | apply q_ends));(focus exact rfl)))
           all_goals first
            | (exfalso;omega)
            | exact q_loop (v+1) (by show v+1≤6;omega) (by show 6-(v+1)<6-v;omega) ⟨int_eq (by simp),by show AV.int .i64 _=AV.int .i64 _;exact int_eq (by rw[hsuc,hfv];omega),trivial⟩ (by repeat' (first | exact slots_nil | apply slots_cons | rfl | (rw[map_snoc];rfl) | (rw[len_snoc];rfl) | (rw[hS];rfl) | (rw[hS,map_snoc];rfl) | (refine int_eq ?_;(try dsimp only);omega) | (refine congrArg AV.bool ?_;simp_all;done))) (by repeat' (first | exact kept_nil | apply kept_cons | rfl)) (by repeat' (first | exact kept_nil | apply kept_cons | rfl))
       · rw[if_neg h5] at hfv
         have ih:=rcount_c n hn A _ _ _ (w::c) _ (.inr rfl) ht2 hr.2 hB2 (by omega) (by omega)
         rw[hfv] at hb3 hsuc
         repeat' (first
          | with_reducible (first | refine Rd.p ?_ | refine w_alt ?_ ?_ | refine zE ?_ | refine zE0 ?_)
          | (first | (refine w_boxN rfl hl ?_;intro g2) | refine w_ixP (f:=fun d:Dl=>[AV.int .i64 d.kind,.int .i64 d.bag,.int .i64 d.other,.int .i64 d.wood,.int .i64 d.count]) (l:=d::A) (pre:=[]) (y:=d) (post:=A) rfl rfl rfl ?_ | refine w_ixP (f:=fun x:Int=>[AV.int .i64 x]) (l:=w::c) (pre:=[]) (y:=w) (post:=c) rfl rfl rfl ?_ | refine w_ldN rfl rfl hl ?_ | refine w_chkN rfl rfl hl rfl ?_ | refine w_slT (f:=fun d:Dl=>[AV.int .i64 d.kind,.int .i64 d.bag,.int .i64 d.other,.int .i64 d.wood,.int .i64 d.count]) rfl ?_ | refine w_sl1 rfl ?_ | refine w_ldEl rfl ho rfl hpl2 ?_ | refine w_chkEl rfl ho rfl hpl2 rfl ?_)
          | with_reducible (first | refine zI fun y hy=>?_ | refine zL ?_ | refine zS ?_ | refine zA fun _=>?_ | refine zV ?_ | refine zC ?_ | refine zG ?_ | refine zU ?_ | refine zG0 ?_ | refine zU0 ?_ | refine zF ?_)
          | ((with_reducible refine acall_id ?_);refine ACall.bg2b hr3 rfl ?_)
          | ((with_reducible refine acall_id ?_);refine ACall.cnt ih rfl rfl ?_)
          | with_reducible (first | refine zX ?_ | refine zD fun _=>?_ | refine zD0 ?_ | refine zN ?_ | refine zF0 ?_ | refine zX0 ?_ | refine z1 ?_ | refine z2 ?_ | refine z3 ?_ | refine z4 ?_ | refine z5 ?_ | refine z6 ?_ | refine z7 ?_ | refine z8 ?_ | refine y1 ?_ | refine y2 ?_ | refine y3 ?_ | refine y4 ?_ | refine y5 ?_ | refine y6 ?_ | refine y7 ?_ | refine y8 ?_ | refine Rt.p (fun _=>?_) fun _=>?_)
          | ((with_reducible apply w_ixM);(focus exact rfl);(focus exact rfl);case' hk=>intro y hy) | ((with_reducible (first | apply w_val | apply q_ends));(focus exact rfl)))
         all_goals first
          | (exfalso;omega)
          | exact q_loop (v+1) (by show v+1≤6;omega) (by show 6-(v+1)<6-v;omega) ⟨int_eq (by simp),by show AV.int .i64 _=AV.int .i64 _;exact int_eq hsuc.symm,trivial⟩ (by repeat' (first | exact slots_nil | apply slots_cons | rfl | (rw[map_snoc];rfl) | (rw[len_snoc];rfl) | (rw[hS];rfl) | (rw[hS,map_snoc];rfl) | (refine int_eq ?_;(try dsimp only);omega) | (refine congrArg AV.bool ?_;simp_all;done))) (by repeat' (first | exact kept_nil | apply kept_cons | rfl)) (by repeat' (first | exact kept_nil | apply kept_cons | rfl))
def ir47:IFn:=
 ⟨9,[(4,none)],(.seq (.ops [oo 4 (.mov (kB false))])
 (.seq (.ops [oo 5 (.mov 0),
 oo 6 (.mov 1),
 oo 7 (.callF 31 [5,6]),
 oo 8 (.bin .eql 7 (kI 0)),
 oo 4 (.mov 8)])
 .ret))⟩
def hint47 (P:Program):Hint:={}
theorem one_c (g:Nat) (w n:Int) (hn:n<2^62):RawC Try.prog 47 [.ref 1000 g 0,.int .i64 n] (BoxS g w) (BoxR g fun av=>∃t,av= .bool t):=by
 refine RawC.walk (H:=hint47 Try.prog) ir47 Try.func47 rfl rfl rfl ?_
 unfold ir47
 repeat' (first
  | refine advE ?_ | with_reducible refine w_alt ?_ ?_
  | with_reducible refine zI fun y hy=>?_ | refine advL ?_
  | ((with_reducible refine acall_id ?_);refine ACall.box (up_c _ _ _ (by omega)) rfl rfl rfl ?_;rintro _ _ ⟨_,rfl,_,_⟩)
  | refine adv ?_ | with_reducible (first | intro _ | refine Rt.p (fun _=>?_) fun _=>?_)
  | ((with_reducible apply w_ixM);(focus exact rfl);(focus exact rfl);case' hk=>intro y hy) | ((with_reducible (first | apply w_val | apply q_ends));(focus exact rfl)))
 exact⟨_,⟨_,rfl⟩,rfl⟩
def ir20:IFn:=
 ⟨59,[(4,none)],(.seq (.ops [oo 2 (.box 2 0),
 oo 3 (.box 2 1),
 oo 4 (.mov (kB false))])
 (.seq (.seq (.ops [oo 7 (.flA 0 2),
 oo 8 (.ld 1 false 7),
 oo 9 (.len false 8),
 oo 10 (.flA 0 3),
 oo 11 (.ld 1 false 10),
 oo 12 (.len false 11),
 oo 13 (.bin .neq 9 12),
 oo 14 (.mov 13),
 ⟨(some 15),(some (14,false)),(.flA 1 2)⟩,
 ⟨(some 16),(some (14,false)),(.ld 1 false 15)⟩,
 ⟨(some 17),(some (14,false)),(.len false 16)⟩,
 ⟨(some 18),(some (14,false)),(.flA 1 3)⟩,
 ⟨(some 19),(some (14,false)),(.ld 1 false 18)⟩,
 ⟨(some 20),(some (14,false)),(.len false 19)⟩,
 ⟨(some 21),(some (14,false)),(.bin .neq 17 20)⟩,
 oo 22 (.pick 14 (kB true) 21)])
 (.cnd 22
 (.seq (.ops [oo 4 (.mov (kB false))])
 .ret)
 .skip))
 (.seq (.seq (.ops [oo 5 (.mov (kI 0))])
 (.blk 0 (.loop (.seq (.seq (.ops [oo 23 (.mov 5),
 oo 24 (.flA 0 2),
 oo 25 (.ld 1 false 24),
 oo 26 (.len false 25),
 oo 27 (.bin .lss 23 26)])
 (.cnd 27
 .skip
 (.exit 0)))
 (.seq (.blk 1 (.seq (.ops [oo 30 (.flA 0 2),
 oo 31 (.ld 1 false 30),
 oo 32 (.mov 5),
 oo 33 (.ixA 2 31 32),
 oo 34 (.ld 2 true 33),
 oo 35 (.flA 0 3),
 oo 36 (.ld 1 false 35),
 oo 37 (.mov 5),
 oo 38 (.ixA 2 36 37),
 oo 39 (.ld 2 true 38),
 oo 40 (.eqn (.flat [.s,.i]) true 34 39)])
 (.cnd 40
 (.seq (.ops [oo 4 (.mov (kB false))])
 .ret)
 .skip)))
 (.ops [oo 28 (.mov 5),
 oo 29 (.bin .add 28 (kI 1)),
 oo 5 (.mov 29)]))))))
 (.seq (.seq (.ops [oo 6 (.mov (kI 0))])
 (.blk 2 (.loop (.seq (.seq (.ops [oo 41 (.mov 6),
 oo 42 (.flA 1 2),
 oo 43 (.ld 1 false 42),
 oo 44 (.len false 43),
 oo 45 (.bin .lss 41 44)])
 (.cnd 45
 .skip
 (.exit 2)))
 (.seq (.blk 3 (.seq (.ops [oo 48 (.flA 1 2),
 oo 49 (.ld 1 false 48),
 oo 50 (.mov 6),
 oo 51 (.ixA 5 49 50),
 oo 52 (.ld 5 true 51),
 oo 53 (.flA 1 3),
 oo 54 (.ld 1 false 53),
 oo 55 (.mov 6),
 oo 56 (.ixA 5 54 55),
 oo 57 (.ld 5 true 56),
 oo 58 (.eqn (.flat [.i,.i,.i,.i,.i]) true 52 57)])
 (.cnd 58
 (.seq (.ops [oo 4 (.mov (kB false))])
 .ret)
 .skip)))
 (.ops [oo 46 (.mov 6),
 oo 47 (.bin .add 46 (kI 1)),
 oo 6 (.mov 47)]))))))
 (.seq (.ops [oo 4 (.mov (kB true))])
 .ret)))))⟩
def hint20 (P:Program):Hint:={}
theorem ownGame_c (G:Gm) (hw:G.ws.length≤1000000) (hd:G.ds.length≤1000000):Fn0 Try.prog 17 [gmA G] (fun v=>v=gmA G):=by
 have h1:(wR G.ws).length=G.ws.length:=by simp
 have h2:(dlR G.ds).length=G.ds.length:=by simp
 refine RawC.walk (H:=hint17 Try.prog) ir17 Try.func17 rfl rfl rfl ?_
 unfold ir17
 repeat' (first
  | refine advE ?_ | with_reducible refine w_alt ?_ ?_
  | with_reducible refine zI fun y hy=>?_ | refine advL ?_
  | refine adv ?_ | with_reducible (first | intro _ | refine Rt.p (fun _=>?_) fun _=>?_)
  | ((with_reducible apply w_ixM);(focus exact rfl);(focus exact rfl);case' hk=>intro y hy) | ((with_reducible (first | apply w_val | apply q_ends));(focus exact rfl)))
 all_goals first
  | rfl
theorem eqGames_c (A B:Gm) (hw:A.ws.length<2^60) (hd:A.ds.length<2^60):Fn0 Try.prog 20 [gmA A,gmA B] (fun v=>v= .bool (decide (A.ws=B.ws∧A.ds=B.ds))):=by
 by_cases hlen:A.ws.length=B.ws.length∧A.ds.length=B.ds.length
 case neg=>
  refine RawC.walk (H:=hint20 Try.prog) ir20 Try.func20 rfl (by kernel_rfl) rfl ?_
  unfold ir20
  repeat' (first
   | refine advE ?_ | with_reducible refine w_alt ?_ ?_
   | with_reducible refine zI fun y hy=>?_ | refine advL ?_
   | refine adv ?_ | with_reducible (first | intro _ | refine Rt.p (fun _=>?_) fun _=>?_)
   | ((with_reducible apply w_ixM);(focus exact rfl);(focus exact rfl);case' hk=>intro y hy) | ((with_reducible (first | apply w_val | apply q_ends));(focus exact rfl)))
  all_goals first
   | (exfalso;omega)
   | (refine congrArg AV.bool ?_;symm;rw[decide_eq_false_iff_not];exact fun h=>hlen ⟨by rw[h.1],by rw[h.2]⟩)
 obtain⟨hl1,hl2⟩:=hlen
 refine RawC.walk (H:=hint20 Try.prog) ir20 Try.func20 rfl (by kernel_rfl) rfl ?_
 unfold ir20
 repeat' (first
  | refine advE ?_ | with_reducible refine w_alt ?_ ?_
  | with_reducible refine zI fun y hy=>?_ | refine advL ?_
  | refine adv ?_ | with_reducible (first | intro _ | refine Rt.p (fun _=>?_) fun _=>?_)
  | ((with_reducible apply w_ixM);(focus exact rfl);(focus exact rfl);case' hk=>intro y hy) | ((with_reducible (first | apply w_val | apply q_ends));(focus exact rfl)))
 all_goals try (exfalso;omega)
 refine w_loopK [2,3] [2,3] (fun x:List Wd×List Wd×List Wd=>A.ws=x.1++x.2.1∧B.ws=x.1++x.2.2) (fun x=>x.2.1.length) (fun x=>[(5,.int .i64 x.1.length)]) (fun _=>[]) ([],A.ws,B.ws) ⟨rfl,rfl⟩ ⟨rfl,trivial⟩ trivial ?_
 rintro⟨pre,pa,pb⟩ ⟨ha,hb⟩ e σ
 dsimp only at ha hb ⊢
 have hla:=congrArg List.length ha
 have hlb:=congrArg List.length hb
 rw[List.length_append] at hla hlb
 cases pa with
 | cons x pa=>
   cases pb with
   | nil=>exfalso;simp only[List.length_nil,List.length_cons] at hla hlb;omega
   | cons y pb=>
     simp only[List.length_cons] at hla hlb
     have hxy:(decide (x.name=y.name) && (decide (x.fam=y.fam) && true))=decide (x=y):=by
      obtain⟨n1,r1⟩:=x
      obtain⟨n2,r2⟩:=y
      rw[Bool.eq_iff_iff];simp
     repeat' (first
      | refine advE ?_ | with_reducible refine w_alt ?_ ?_
      | (first | refine w_ixP (f:=fun w:Wd=>[AV.str w.name,.int .i64 w.fam]) ha rfl rfl ?_ | refine w_ixP (f:=fun w:Wd=>[AV.str w.name,.int .i64 w.fam]) hb rfl rfl ?_)
      | with_reducible refine zI fun y hy=>?_ | refine advL ?_
      | refine adv ?_ | with_reducible (first | intro _ | refine Rt.p (fun _=>?_) fun _=>?_)
      | ((with_reducible apply w_ixM);(focus exact rfl);(focus exact rfl);case' hk=>intro y hy) | ((with_reducible (first | apply w_val | apply q_ends));(focus exact rfl)))
     all_goals try (exfalso;omega)
     all_goals (rename_i h;rw[hxy] at h)
     · refine congrArg AV.bool ?_;symm
       rw[decide_eq_false_iff_not];intro e
       rw[ha,hb] at e
       have:=List.append_cancel_left e.1
       simp at this h
       exact h this.1
     · simp at h
       subst h
       exact q_loop (pre++[x],pa,pb) ⟨by rw[ha];simp,by rw[hb];simp⟩ (Nat.lt_succ_self _) ⟨by rw[len_snoc];rfl,trivial⟩ (by repeat' (first | exact slots_nil | apply slots_cons | rfl | (rw[map_snoc];rfl) | (rw[len_snoc];rfl) | (rw[hS];rfl) | (rw[hS,map_snoc];rfl) | (refine int_eq ?_;(try dsimp only);omega) | (refine congrArg AV.bool ?_;simp_all;done))) (by repeat' (first | exact kept_nil | apply kept_cons | rfl)) (by repeat' (first | exact kept_nil | apply kept_cons | rfl))
 | nil=>
 cases pb with
 | cons y pb=>exfalso;simp only[List.length_nil,List.length_cons] at hla hlb;omega
 | nil=>
 rw[List.append_nil] at ha hb
 have hws:A.ws=B.ws:=by rw[ha,hb]
 simp only[List.length_nil] at hla
 repeat' (first
  | refine advE ?_ | with_reducible refine w_alt ?_ ?_
  | with_reducible refine zI fun y hy=>?_ | refine advL ?_
  | refine adv ?_ | with_reducible (first | intro _ | refine Rt.p (fun _=>?_) fun _=>?_)
  | ((with_reducible apply w_ixM);(focus exact rfl);(focus exact rfl);case' hk=>intro y hy) | ((with_reducible (first | apply w_val | apply q_ends));(focus exact rfl)))
 all_goals try (exfalso;omega)
 refine w_loopK [2,3] [2,3] (fun x:List Dl×List Dl×List Dl=>A.ds=x.1++x.2.1∧B.ds=x.1++x.2.2) (fun x=>x.2.1.length) (fun x=>[(6,.int .i64 x.1.length)]) (fun _=>[]) ([],A.ds,B.ds) ⟨rfl,rfl⟩ ⟨rfl,trivial⟩ trivial ?_
 rintro⟨pre,pa,pb⟩ ⟨ha,hb⟩ e σ
 dsimp only at ha hb ⊢
 have hla:=congrArg List.length ha
 have hlb:=congrArg List.length hb
 rw[List.length_append] at hla hlb
 cases pa with
 | cons x pa=>
   cases pb with
   | nil=>exfalso;simp only[List.length_nil,List.length_cons] at hla hlb;omega
   | cons y pb=>
     simp only[List.length_cons] at hla hlb
     have hxy:(decide (x.kind=y.kind) && (decide (x.bag=y.bag) && (decide (x.other=y.other) && (decide (x.wood=y.wood) && (decide (x.count=y.count) && true)))))=decide (x=y):=by
      obtain⟨n1,r1,a1,b1,c1⟩:=x
      obtain⟨n2,r2,a2,b2,c2⟩:=y
      rw[Bool.eq_iff_iff];simp
     repeat' (first
      | refine advE ?_ | with_reducible refine w_alt ?_ ?_
      | (first | refine w_ixP (f:=fun d:Dl=>[AV.int .i64 d.kind,.int .i64 d.bag,.int .i64 d.other,.int .i64 d.wood,.int .i64 d.count]) ha rfl rfl ?_ | refine w_ixP (f:=fun d:Dl=>[AV.int .i64 d.kind,.int .i64 d.bag,.int .i64 d.other,.int .i64 d.wood,.int .i64 d.count]) hb rfl rfl ?_)
      | with_reducible refine zI fun y hy=>?_ | refine advL ?_
      | refine adv ?_ | with_reducible (first | intro _ | refine Rt.p (fun _=>?_) fun _=>?_)
      | ((with_reducible apply w_ixM);(focus exact rfl);(focus exact rfl);case' hk=>intro y hy) | ((with_reducible (first | apply w_val | apply q_ends));(focus exact rfl)))
     all_goals try (exfalso;omega)
     all_goals (rename_i h;rw[hxy] at h)
     · refine congrArg AV.bool ?_;symm
       rw[decide_eq_false_iff_not];intro e
       rw[ha,hb] at e
       have:=List.append_cancel_left e.2
       simp at this h
       exact h this.1
     · simp at h
       subst h
       exact q_loop (pre++[x],pa,pb) ⟨by rw[ha];simp,by rw[hb];simp⟩ (Nat.lt_succ_self _) ⟨by rw[len_snoc];rfl,trivial⟩ (by repeat' (first | exact slots_nil | apply slots_cons | rfl | (rw[map_snoc];rfl) | (rw[len_snoc];rfl) | (rw[hS];rfl) | (rw[hS,map_snoc];rfl) | (refine int_eq ?_;(try dsimp only);omega) | (refine congrArg AV.bool ?_;simp_all;done))) (by repeat' (first | exact kept_nil | apply kept_cons | rfl)) (by repeat' (first | exact kept_nil | apply kept_cons | rfl))
 | nil=>
 cases pb with
 | cons y pb=>exfalso;simp only[List.length_nil,List.length_cons] at hla hlb;omega
 | nil=>
 rw[List.append_nil] at ha hb
 have hds:A.ds=B.ds:=by rw[ha,hb]
 simp only[List.length_nil] at hla
 repeat' (first
  | refine advE ?_ | with_reducible refine w_alt ?_ ?_
  | with_reducible refine zI fun y hy=>?_ | refine advL ?_
  | refine adv ?_ | with_reducible (first | intro _ | refine Rt.p (fun _=>?_) fun _=>?_)
  | ((with_reducible apply w_ixM);(focus exact rfl);(focus exact rfl);case' hk=>intro y hy) | ((with_reducible (first | apply w_val | apply q_ends));(focus exact rfl)))
 all_goals first
  | (exfalso;omega)
  | exact congrArg AV.bool (decide_eq_true ⟨hws,hds⟩).symm
def ir54:IFn:=
 ⟨15,[(6,none)],(.seq (.ops [oo 6 (.mov (kB false))])
 (.seq (.ops [oo 7 (.mov 0),
 oo 8 (.mov 1),
 oo 9 (.bin .geq 7 8),
 oo 10 (.mov 9),
 ⟨(some 11),(some (10,true)),(.mov 0)⟩,
 ⟨(some 12),(some (10,true)),(.mov 2)⟩,
 ⟨(some 13),(some (10,true)),(.bin .leq 11 12)⟩,
 oo 14 (.pick 10 13 (kB false)),
 oo 6 (.mov 14)])
 .ret))⟩
def hint54 (P:Program):Hint:={}
def ir86:IFn:=
 ⟨28,[(2,none)],(.seq (.ops [oo 2 (.mov (kB false))])
 (.seq (.seq (.ops [oo 3 (.mov (kI 0))])
 (.blk 0 (.loop (.seq (.seq (.ops [oo 4 (.mov 3),
 oo 5 (.mov 0),
 oo 6 (.len true 5),
 oo 7 (.bin .lss 4 6)])
 (.cnd 7
 .skip
 (.exit 0)))
 (.seq (.blk 1 (.seq (.ops [oo 10 (.mov 0),
 oo 11 (.mov 3),
 oo 12 (.ixS 10 11),
 oo 13 (.bin .lss 12 (.k (.int .u8 97))),
 oo 14 (.mov 13),
 ⟨(some 15),(some (14,false)),(.mov 0)⟩,
 ⟨(some 16),(some (14,false)),(.mov 3)⟩,
 ⟨(some 17),(some (14,false)),(.ixS 15 16)⟩,
 ⟨(some 18),(some (14,false)),(.bin .gtr 17 (.k (.int .u8 122)))⟩,
 oo 19 (.pick 14 (kB true) 18)])
 (.cnd 19
 (.seq (.ops [oo 2 (.mov (kB false))])
 .ret)
 .skip)))
 (.ops [oo 8 (.mov 3),
 oo 9 (.bin .add 8 (kI 1)),
 oo 3 (.mov 9)]))))))
 (.seq (.ops [oo 20 (.mov 0),
 oo 21 (.len true 20),
 oo 22 (.bin .geq 21 (kI 1)),
 oo 23 (.mov 22),
 ⟨(some 24),(some (23,true)),(.mov 0)⟩,
 ⟨(some 25),(some (23,true)),(.len true 24)⟩,
 ⟨(some 26),(some (23,true)),(.bin .leq 25 (kI 8))⟩,
 oo 27 (.pick 23 26 (kB false)),
 oo 2 (.mov 27)])
 .ret)))⟩
def hint86 (P:Program):Hint:={}
def ir53:IFn:=
 ⟨47,[(2,none)],(.seq (.ops [oo 2 (.mov (kI 0))])
 (.seq (.seq (.ops [oo 5 (.mov 0),
 oo 6 (.len false 5),
 oo 7 (.bin .eql 6 (kI 0))])
 (.cnd 7
 (.seq (.ops [oo 2 (.mov (kI 6))])
 .ret)
 .skip))
 (.seq (.seq (.ops [oo 8 (.mov 0),
 oo 9 (.len false 8),
 oo 10 (.bin .gtr 9 (kI 6))])
 (.cnd 10
 (.seq (.ops [oo 2 (.mov (kI 8))])
 .ret)
 .skip))
 (.seq (.seq (.ops [oo 3 (.mov (kI 0))])
 (.blk 0 (.loop (.seq (.seq (.ops [oo 11 (.mov 3),
 oo 12 (.mov 0),
 oo 13 (.len false 12),
 oo 14 (.bin .lss 11 13)])
 (.cnd 14
 .skip
 (.exit 0)))
 (.seq (.blk 1 (.seq (.seq (.ops [oo 17 (.mov 0),
 oo 18 (.mov 3),
 oo 19 (.ixA 2 17 18),
 oo 20 (.flA 0 19),
 oo 21 (.ld 1 false 20),
 oo 22 (.callF 86 [21]),
 oo 23 (.not 22)])
 (.cnd 23
 (.seq (.ops [oo 2 (.mov (kI 3))])
 .ret)
 .skip))
 (.seq (.seq (.ops [oo 4 (.mov (kI 0))])
 (.blk 2 (.loop (.seq (.seq (.ops [oo 24 (.mov 4),
 oo 25 (.mov 3),
 oo 26 (.bin .lss 24 25)])
 (.cnd 26
 .skip
 (.exit 2)))
 (.seq (.blk 3 (.seq (.ops [oo 29 (.mov 0),
 oo 30 (.mov 4),
 oo 31 (.ixA 2 29 30),
 oo 32 (.flA 0 31),
 oo 33 (.ld 1 false 32),
 oo 34 (.mov 0),
 oo 35 (.mov 3),
 oo 36 (.ixA 2 34 35),
 oo 37 (.flA 0 36),
 oo 38 (.ld 1 false 37),
 oo 39 (.bin .eql 33 38)])
 (.cnd 39
 (.seq (.ops [oo 2 (.mov (kI 9))])
 .ret)
 .skip)))
 (.ops [oo 27 (.mov 4),
 oo 28 (.bin .add 27 (kI 1)),
 oo 4 (.mov 28)]))))))
 (.seq (.ops [oo 40 (.mov 0),
 oo 41 (.mov 3),
 oo 42 (.ixA 2 40 41),
 oo 43 (.flA 1 42),
 oo 44 (.ld 1 false 43),
 oo 45 (.callF 54 [44,(kI 0),(kI 9)]),
 oo 46 (.not 45)])
 (.cnd 46
 (.seq (.ops [oo 2 (.mov (kI 2))])
 .ret)
 .skip)))))
 (.ops [oo 15 (.mov 3),
 oo 16 (.bin .add 15 (kI 1)),
 oo 3 (.mov 16)]))))))
 (.seq (.ops [oo 2 (.mov (kI 0))])
 .ret)))))⟩
def hint53 (P:Program):Hint:={}
theorem rin_c (n a b:Int):Fn0 Try.prog 54 [.int .i64 n,.int .i64 a,.int .i64 b] (fun v=>v= .bool (inB n a b)):=by
 by_cases h1:a≤n
 · by_cases h2:n≤b
   · have:inB n a b=true:=inB_t.2 ⟨h1,h2⟩
     rw[this]
     refine RawC.walk (H:=hint54 Try.prog) ir54 Try.func54 rfl rfl rfl ?_
     unfold ir54
     repeat' (first
      | refine advE ?_ | with_reducible refine w_alt ?_ ?_
      | with_reducible refine zI fun y hy=>?_ | refine advL ?_
      | refine adv ?_ | with_reducible (first | intro _ | refine Rt.p (fun _=>?_) fun _=>?_)
      | ((with_reducible apply w_ixM);(focus exact rfl);(focus exact rfl);case' hk=>intro y hy) | ((with_reducible (first | apply w_val | apply q_ends));(focus exact rfl)))
     all_goals first
      | (exfalso;omega)
      | exact congrArg AV.bool (decide_eq_true h2)
   · have:inB n a b=false:=inB_f.2 (by omega)
     rw[this]
     refine RawC.walk (H:=hint54 Try.prog) ir54 Try.func54 rfl rfl rfl ?_
     unfold ir54
     repeat' (first
      | refine advE ?_ | with_reducible refine w_alt ?_ ?_
      | with_reducible refine zI fun y hy=>?_ | refine advL ?_
      | refine adv ?_ | with_reducible (first | intro _ | refine Rt.p (fun _=>?_) fun _=>?_)
      | ((with_reducible apply w_ixM);(focus exact rfl);(focus exact rfl);case' hk=>intro y hy) | ((with_reducible (first | apply w_val | apply q_ends));(focus exact rfl)))
     all_goals first
      | (exfalso;omega)
      | exact congrArg AV.bool (decide_eq_false h2)
 · have:inB n a b=false:=inB_f.2 (by omega)
   rw[this]
   refine RawC.walk (H:=hint54 Try.prog) ir54 Try.func54 rfl rfl rfl ?_
   unfold ir54
   repeat' (first
    | refine advE ?_ | with_reducible refine w_alt ?_ ?_
    | with_reducible refine zI fun y hy=>?_ | refine advL ?_
    | refine adv ?_ | with_reducible (first | intro _ | refine Rt.p (fun _=>?_) fun _=>?_)
    | ((with_reducible apply w_ixM);(focus exact rfl);(focus exact rfl);case' hk=>intro y hy) | ((with_reducible (first | apply w_val | apply q_ends));(focus exact rfl)))
   all_goals first
    | rfl
    | (exfalso;omega)
theorem rnamed_c (s:ByteArray) (hs:s.size≤1000):Fn0 Try.prog 86 [.str s] (fun v=>v= .bool (namedB s)):=by
 refine RawC.walk (H:=hint86 Try.prog) ir86 Try.func86 rfl rfl rfl ?_
 unfold ir86
 repeat' (first
  | refine advE ?_ | with_reducible refine w_alt ?_ ?_
  | with_reducible refine zI fun y hy=>?_ | refine advL ?_
  | refine adv ?_ | with_reducible (first | intro _ | refine Rt.p (fun _=>?_) fun _=>?_)
  | ((with_reducible apply w_ixM);(focus exact rfl);(focus exact rfl);case' hk=>intro y hy) | ((with_reducible (first | apply w_val | apply q_ends));(focus exact rfl)))
 have hsz:s.data.toList.length=s.size:=by simp
 refine w_loopK [0] [] (fun x:List UInt8×List UInt8=>s.data.toList=x.1++x.2∧x.1.all letB=true) (fun x=>x.2.length) (fun x=>[(3,.int .i64 x.1.length)]) (fun _=>[]) ([],s.data.toList) ⟨rfl,rfl⟩ ⟨rfl,trivial⟩ trivial ?_
 rintro⟨pre,post⟩ ⟨hl,hb⟩ e σ
 dsimp only at hl hb ⊢
 have hlen:=congrArg List.length hl
 cases post with
 | nil=>
   simp only[List.append_nil,List.length_append,List.length_nil] at hlen
   repeat' (first
    | refine advE ?_ | with_reducible refine w_alt ?_ ?_
    | with_reducible refine zI fun y hy=>?_ | refine advL ?_
    | refine adv ?_ | with_reducible (first | intro _ | refine Rt.p (fun _=>?_) fun _=>?_)
    | ((with_reducible apply w_ixM);(focus exact rfl);(focus exact rfl);case' hk=>intro y hy) | ((with_reducible (first | apply w_val | apply q_ends));(focus exact rfl)))
   · rename_i h1
     refine congrArg AV.bool ?_
     show decide ((s.size:Int)≤8)=_
     unfold namedB;rw[hl,List.append_nil,hb,Bool.and_true,Bool.eq_iff_iff,inB_t,decide_eq_true_eq];omega
   · rename_i h1
     refine congrArg AV.bool ?_
     unfold namedB;rw[hl,List.append_nil,hb,Bool.and_true];exact (inB_f.2 (by omega)).symm
 | cons c post=>
   simp only[List.length_append,List.length_cons] at hlen
   have hn:letB c=decide (97≤(c.toNat:Int)∧(c.toNat:Int)≤122):=rfl
   have hbad:letB c=false→namedB s=false:=fun h=>by unfold namedB;rw[hl];simp[h]
   have hg:s.data.toList.getD ((pre.length:Int)).toNat 0=c:=by rw[hl];simp
   repeat' (first
    | refine advE ?_ | with_reducible refine w_alt ?_ ?_
    | with_reducible refine zI fun y hy=>?_ | refine advL ?_
    | refine adv ?_ | with_reducible (first | intro _ | refine Rt.p (fun _=>?_) fun _=>?_)
    | ((with_reducible apply w_ixM);(focus exact rfl);(focus exact rfl);case' hk=>intro y hy) | ((with_reducible (first | apply w_val | apply q_ends));(focus exact rfl)))
   · rename_i h1
     rw[hg] at h1
     exact congrArg AV.bool (hbad (by rw[hn];simp;omega)).symm
   · rename_i h2 h1
     rw[hg] at h1 h2
     exact congrArg AV.bool (hbad (by rw[hn];simp;omega)).symm
   · rename_i h2 h1
     rw[hg] at h1 h2
     exact q_loop (pre++[c],post) ⟨by show s.data.toList=_;rw[hl];simp,by show (pre++[c]).all letB=true;rw[List.all_append,hb];simp[hn];omega⟩ (by simp) ⟨by rw[len_snoc];rfl,trivial⟩ (by repeat' (first | exact slots_nil | apply slots_cons | rfl | (rw[map_snoc];rfl) | (rw[len_snoc];rfl) | (rw[hS];rfl) | (rw[hS,map_snoc];rfl) | (refine int_eq ?_;(try dsimp only);omega) | (refine congrArg AV.bool ?_;simp_all;done))) (by repeat' (first | exact kept_nil | apply kept_cons | rfl)) (by repeat' (first | exact kept_nil | apply kept_cons | rfl))
theorem checkWoods_c (ws:List Wd) (hw:ws.length<1000) (hs:∀w∈ws,w.name.size≤1000):Fn0 Try.prog 53 [.slc 2 (wR ws) .non] (fun v=>v= .int .i64 (if ws=[] then 6 else if 6<ws.length then 8 else wsErr [] ws)):=by
 obtain⟨R,hR⟩:∃R,(if ws=[] then 6 else if 6<ws.length then 8 else wsErr [] ws)=R:=⟨_,rfl⟩
 rw[hR]
 by_cases h0:ws=[]
 · rw[if_pos h0] at hR
   subst h0 hR
   have hz:([]:List Wd).length=0:=rfl
   refine RawC.walk (H:=hint53 Try.prog) ir53 Try.func53 rfl rfl rfl ?_
   unfold ir53
   repeat' (first
    | refine advE ?_ | with_reducible refine w_alt ?_ ?_
    | with_reducible refine zI fun y hy=>?_ | refine advL ?_
    | refine adv ?_ | with_reducible (first | intro _ | refine Rt.p (fun _=>?_) fun _=>?_)
    | ((with_reducible apply w_ixM);(focus exact rfl);(focus exact rfl);case' hk=>intro y hy) | ((with_reducible (first | apply w_val | apply q_ends));(focus exact rfl)))
   all_goals first
    | (exfalso;omega)
    | rfl
 rw[if_neg h0] at hR
 have hpos:0<ws.length:=List.length_pos_iff.2 h0
 by_cases h6:6<ws.length
 · rw[if_pos h6] at hR
   subst hR
   refine RawC.walk (H:=hint53 Try.prog) ir53 Try.func53 rfl rfl rfl ?_
   unfold ir53
   repeat' (first
    | refine advE ?_ | with_reducible refine w_alt ?_ ?_
    | with_reducible refine zI fun y hy=>?_ | refine advL ?_
    | refine adv ?_ | with_reducible (first | intro _ | refine Rt.p (fun _=>?_) fun _=>?_)
    | ((with_reducible apply w_ixM);(focus exact rfl);(focus exact rfl);case' hk=>intro y hy) | ((with_reducible (first | apply w_val | apply q_ends));(focus exact rfl)))
   all_goals first
    | (exfalso;omega)
    | rfl
 rw[if_neg h6] at hR
 refine RawC.walk (H:=hint53 Try.prog) ir53 Try.func53 rfl rfl rfl ?_
 unfold ir53
 repeat' (first
  | refine advE ?_ | with_reducible refine w_alt ?_ ?_
  | with_reducible refine zI fun y hy=>?_ | refine advL ?_
  | refine adv ?_ | with_reducible (first | intro _ | refine Rt.p (fun _=>?_) fun _=>?_)
  | ((with_reducible apply w_ixM);(focus exact rfl);(focus exact rfl);case' hk=>intro y hy) | ((with_reducible (first | apply w_val | apply q_ends));(focus exact rfl)))
 all_goals try (exfalso;omega)
 refine w_loopK [0] [] (fun x:List Wd×List Wd=>ws=x.1++x.2∧wsErr x.1 x.2=R) (fun x=>x.2.length) (fun x=>[(3,.int .i64 x.1.length)]) (fun _=>[]) ([],ws) ⟨rfl,hR⟩ ⟨rfl,trivial⟩ trivial ?_
 rintro⟨pre,post⟩ ⟨hl,hb⟩ e σ
 dsimp only at hl hb ⊢
 have hlen:=congrArg List.length hl
 rw[List.length_append] at hlen
 cases post with
 | nil=>
   simp only[List.length_nil] at hlen
   rw[wsErr] at hb
   subst hb
   repeat' (first
    | refine advE ?_ | with_reducible refine w_alt ?_ ?_
    | with_reducible refine zI fun y hy=>?_ | refine advL ?_
    | refine adv ?_ | with_reducible (first | intro _ | refine Rt.p (fun _=>?_) fun _=>?_)
    | ((with_reducible apply w_ixM);(focus exact rfl);(focus exact rfl);case' hk=>intro y hy) | ((with_reducible (first | apply w_val | apply q_ends));(focus exact rfl)))
   all_goals first
    | (exfalso;omega)
    | rfl
 | cons w post=>
   simp only[List.length_cons] at hlen
   have hnm:=rnamed_c w.name (hs w (by rw[hl];simp))
   have hrn:=rin_c w.fam 0 9
   rw[wsErr] at hb
   by_cases h1:namedB w.name=true
   · rw[if_pos h1] at hb
     rw[h1] at hnm
     repeat' (first
      | refine advE ?_ | with_reducible refine w_alt ?_ ?_
      | (refine w_ixP (f:=fun w:Wd=>[AV.str w.name,.int .i64 w.fam]) hl rfl rfl ?_)
      | with_reducible refine zI fun y hy=>?_ | refine advL ?_
      | ((with_reducible refine acall_id ?_);refine ACall.val hnm rfl rfl ?_)
      | refine adv ?_ | with_reducible (first | intro _ | refine Rt.p (fun _=>?_) fun _=>?_)
      | ((with_reducible apply w_ixM);(focus exact rfl);(focus exact rfl);case' hk=>intro y hy) | ((with_reducible (first | apply w_val | apply q_ends));(focus exact rfl)))
     all_goals try (exfalso;omega)
     refine w_loopK [0,3] [] (fun x:List Wd×List Wd=>pre=x.1++x.2∧x.1.any (fun x=>decide (x.name=w.name))=false) (fun x=>x.2.length) (fun x=>[(4,.int .i64 x.1.length)]) (fun _=>[]) ([],pre) ⟨rfl,rfl⟩ ⟨rfl,trivial⟩ trivial ?_
     rintro⟨p1,p2⟩ ⟨hp,ha⟩ e2 σ2
     dsimp only at hp ha ⊢
     have hpl:=congrArg List.length hp
     rw[List.length_append] at hpl
     cases p2 with
     | nil=>
       rw[List.append_nil] at hp
       simp only[List.length_nil] at hpl
       rw[hp,ha,if_neg Bool.false_ne_true,←hp] at hb
       by_cases h2:inB w.fam 0 9=true
       · rw[if_pos h2] at hb
         rw[h2] at hrn
         repeat' (first
          | refine advE ?_ | with_reducible refine w_alt ?_ ?_
          | (refine w_ixP (f:=fun w:Wd=>[AV.str w.name,.int .i64 w.fam]) hl rfl rfl ?_)
          | with_reducible refine zI fun y hy=>?_ | refine advL ?_
          | ((with_reducible refine acall_id ?_);refine ACall.val hrn rfl rfl ?_)
          | refine adv ?_ | with_reducible (first | intro _ | refine Rt.p (fun _=>?_) fun _=>?_)
          | ((with_reducible apply w_ixM);(focus exact rfl);(focus exact rfl);case' hk=>intro y hy) | ((with_reducible (first | apply w_val | apply q_ends));(focus exact rfl)))
         all_goals first
          | (exfalso;omega)
          | exact q_loop (pre++[w],post) ⟨by show ws=_;rw[hl];simp,hb⟩ (Nat.lt_succ_self _) ⟨by rw[len_snoc];rfl,trivial⟩ (by repeat' (first | exact slots_nil | apply slots_cons | rfl | (rw[map_snoc];rfl) | (rw[len_snoc];rfl) | (rw[hS];rfl) | (rw[hS,map_snoc];rfl) | (refine int_eq ?_;(try dsimp only);omega) | (refine congrArg AV.bool ?_;simp_all;done))) (by repeat' (first | exact kept_nil | apply kept_cons | rfl)) (by repeat' (first | exact kept_nil | apply kept_cons | rfl))
       · rw[if_neg h2] at hb
         subst hb
         rw[show inB w.fam 0 9=false by simpa using h2] at hrn
         repeat' (first
          | refine advE ?_ | with_reducible refine w_alt ?_ ?_
          | (refine w_ixP (f:=fun w:Wd=>[AV.str w.name,.int .i64 w.fam]) hl rfl rfl ?_)
          | with_reducible refine zI fun y hy=>?_ | refine advL ?_
          | ((with_reducible refine acall_id ?_);refine ACall.val hrn rfl rfl ?_)
          | refine adv ?_ | with_reducible (first | intro _ | refine Rt.p (fun _=>?_) fun _=>?_)
          | ((with_reducible apply w_ixM);(focus exact rfl);(focus exact rfl);case' hk=>intro y hy) | ((with_reducible (first | apply w_val | apply q_ends));(focus exact rfl)))
         all_goals first
          | (exfalso;omega)
          | rfl
     | cons y p2=>
       simp only[List.length_cons] at hpl
       have hl2:ws=p1++y::(p2++w::post):=by rw[hl,hp];simp
       by_cases hy:y.name=w.name
       · have hany:pre.any (fun x=>decide (x.name=w.name))=true:=by rw[hp];simp[hy]
         rw[if_pos hany] at hb
         subst hb
         repeat' (first
          | refine advE ?_ | with_reducible refine w_alt ?_ ?_
          | (first | refine w_ixP (f:=fun w:Wd=>[AV.str w.name,.int .i64 w.fam]) hl rfl rfl ?_ | refine w_ixP (f:=fun w:Wd=>[AV.str w.name,.int .i64 w.fam]) hl2 rfl rfl ?_)
          | with_reducible refine zI fun y hy=>?_ | refine advL ?_
          | refine adv ?_ | with_reducible (first | intro _ | refine Rt.p (fun _=>?_) fun _=>?_)
          | ((with_reducible apply w_ixM);(focus exact rfl);(focus exact rfl);case' hk=>intro y hy) | ((with_reducible (first | apply w_val | apply q_ends));(focus exact rfl)))
         all_goals first
          | (exfalso;omega)
          | (rename_i hne;exact absurd hy hne)
          | rfl
       · repeat' (first
          | refine advE ?_ | with_reducible refine w_alt ?_ ?_
          | (first | refine w_ixP (f:=fun w:Wd=>[AV.str w.name,.int .i64 w.fam]) hl rfl rfl ?_ | refine w_ixP (f:=fun w:Wd=>[AV.str w.name,.int .i64 w.fam]) hl2 rfl rfl ?_)
          | with_reducible refine zI fun y hy=>?_ | refine advL ?_
          | refine adv ?_ | with_reducible (first | intro _ | refine Rt.p (fun _=>?_) fun _=>?_)
          | ((with_reducible apply w_ixM);(focus exact rfl);(focus exact rfl);case' hk=>intro y hy) | ((with_reducible (first | apply w_val | apply q_ends));(focus exact rfl)))
         all_goals first
          | (exfalso;omega)
          | (rename_i hne;exact absurd hne hy)
          | exact q_loop (p1++[y],p2) ⟨by show pre=_;rw[hp];simp,by show (p1++[y]).any _=false;rw[List.any_append,ha];simp[hy]⟩ (Nat.lt_succ_self _) ⟨by rw[len_snoc];rfl,trivial⟩ (by repeat' (first | exact slots_nil | apply slots_cons | rfl | (rw[map_snoc];rfl) | (rw[len_snoc];rfl) | (rw[hS];rfl) | (rw[hS,map_snoc];rfl) | (refine int_eq ?_;(try dsimp only);omega) | (refine congrArg AV.bool ?_;simp_all;done))) (by repeat' (first | exact kept_nil | apply kept_cons | rfl)) (by repeat' (first | exact kept_nil | apply kept_cons | rfl))
   · rw[if_neg h1] at hb
     subst hb
     rw[show namedB w.name=false by simpa using h1] at hnm
     repeat' (first
      | refine advE ?_ | with_reducible refine w_alt ?_ ?_
      | (refine w_ixP (f:=fun w:Wd=>[AV.str w.name,.int .i64 w.fam]) hl rfl rfl ?_)
      | with_reducible refine zI fun y hy=>?_ | refine advL ?_
      | ((with_reducible refine acall_id ?_);refine ACall.val hnm rfl rfl ?_)
      | refine adv ?_ | with_reducible (first | intro _ | refine Rt.p (fun _=>?_) fun _=>?_)
      | ((with_reducible apply w_ixM);(focus exact rfl);(focus exact rfl);case' hk=>intro y hy) | ((with_reducible (first | apply w_val | apply q_ends));(focus exact rfl)))
     all_goals first
      | (exfalso;omega)
      | rfl
def ir55:IFn:=
 ⟨50,[(2,none)],(.seq (.ops [oo 1 (.box 5 0),
 oo 2 (.mov (kB false))])
 (.seq (.ops [oo 3 (.mov (kB true)),
 oo 4 (.mov (kB false)),
 oo 5 (.mov (kB false)),
 oo 6 (.mov (kB false))])
 (.seq (.seq (.ops [oo 7 (.flA 0 1),
 oo 8 (.ld 1 false 7)])
 (.blk 0 (.seq (.seq (.ops [oo 10 (.bin .eql 8 (kI 1)),
 oo 9 (.mov 10)])
 (.cnd 9
 .skip
 (.ops [oo 11 (.bin .eql 8 (kI 6)),
 oo 9 (.mov 11)])))
 (.cnd 9
 (.ops [oo 3 (.mov (kB false)),
 oo 5 (.mov (kB true))])
 (.seq (.ops [oo 13 (.bin .eql 8 (kI 2)),
 oo 12 (.mov 13)])
 (.cnd 12
 (.ops [oo 5 (.mov (kB true)),
 oo 6 (.mov (kB true))])
 (.seq (.ops [oo 15 (.bin .eql 8 (kI 3)),
 oo 14 (.mov 15)])
 (.cnd 14
 (.ops [oo 4 (.mov (kB true))])
 (.ops [oo 6 (.mov (kB true))])))))))))
 (.seq (.ops [oo 16 (.mov 3),
 oo 17 (.not 16),
 oo 18 (.mov 17),
 ⟨(some 19),(some (18,true)),(.flA 1 1)⟩,
 ⟨(some 20),(some (18,true)),(.ld 1 false 19)⟩,
 ⟨(some 21),(some (18,true)),(.bin .neq 20 (kI 0))⟩,
 oo 22 (.pick 18 21 (kB false)),
 oo 23 (.mov 22),
 ⟨(some 24),(some (23,false)),(.mov 4)⟩,
 ⟨(some 25),(some (23,false)),(.not 24)⟩,
 ⟨(some 26),(some (23,false)),(.mov 25)⟩,
 ⟨(some 27),(some (26,true)),(.flA 2 1)⟩,
 ⟨(some 28),(some (26,true)),(.ld 1 false 27)⟩,
 ⟨(some 29),(some (26,true)),(.bin .neq 28 (kI 0))⟩,
 ⟨(some 30),(some (23,false)),(.pick 26 29 (kB false))⟩,
 oo 31 (.pick 23 (kB true) 30),
 oo 32 (.mov 31),
 ⟨(some 33),(some (32,false)),(.mov 5)⟩,
 ⟨(some 34),(some (32,false)),(.not 33)⟩,
 ⟨(some 35),(some (32,false)),(.mov 34)⟩,
 ⟨(some 36),(some (35,true)),(.flA 3 1)⟩,
 ⟨(some 37),(some (35,true)),(.ld 1 false 36)⟩,
 ⟨(some 38),(some (35,true)),(.bin .neq 37 (kI 0))⟩,
 ⟨(some 39),(some (32,false)),(.pick 35 38 (kB false))⟩,
 oo 40 (.pick 32 (kB true) 39),
 oo 41 (.mov 40),
 ⟨(some 42),(some (41,false)),(.mov 6)⟩,
 ⟨(some 43),(some (41,false)),(.not 42)⟩,
 ⟨(some 44),(some (41,false)),(.mov 43)⟩,
 ⟨(some 45),(some (44,true)),(.flA 4 1)⟩,
 ⟨(some 46),(some (44,true)),(.ld 1 false 45)⟩,
 ⟨(some 47),(some (44,true)),(.bin .neq 46 (kI 0))⟩,
 ⟨(some 48),(some (41,false)),(.pick 44 47 (kB false))⟩,
 oo 49 (.pick 41 (kB true) 48),
 oo 2 (.mov 49)])
 .ret))))⟩
def hint55 (P:Program):Hint:={}
theorem needless_c (d:Dl) (hk:inB d.kind 1 6=true):Fn0 Try.prog 55 [dlA d] (fun v=>v= .bool (!formD d)):=by
 obtain⟨k1,k2⟩:=inB_ex hk
 obtain⟨kind,bag,other,wood,count⟩:=d
 dsimp only at k1 k2
 have hc:kind=1∨kind=2∨kind=3∨kind=4∨kind=5∨kind=6:=by omega
 clear hk k1 k2
 rcases hc with rfl | rfl | rfl | rfl | rfl | rfl
 all_goals
  refine RawC.walk (H:=hint55 Try.prog) ir55 Try.func55 rfl rfl rfl ?_
  unfold ir55
  repeat' (first
   | refine advE ?_ | with_reducible refine w_alt ?_ ?_
   | with_reducible refine zI fun y hy=>?_ | refine advL ?_
   | refine adv ?_ | with_reducible (first | intro _ | refine Rt.p (fun _=>?_) fun _=>?_)
   | ((with_reducible apply w_ixM);(focus exact rfl);(focus exact rfl);case' hk=>intro y hy) | ((with_reducible (first | apply w_val | apply q_ends));(focus exact rfl)))
 all_goals first
  | (exfalso;simp at*;done)
  | (refine congrArg AV.bool ?_;simp_all [formD];done)
  | (refine congrArg AV.bool ?_;rw[Bool.eq_iff_iff];simp_all [formD];done)
  | (refine congrArg AV.bool ?_;rw[Bool.eq_iff_iff];simp_all [formD];omega)
def trV (s:Nat) (tr:List Int) (h:Nat):AV:=match tr with
 | []=> .nsl
 | _::_=> .slc 1 (iR tr) (.own s h)
def trS (tr:List Int) (h:Nat):Nat×Res:=match tr with
 | []=>(0,.dead)
 | _::_=>(h,.row [])
def rtRow (t:Tb) (x:AV):List AV:=t.bags.map (AV.int .i64)++[.int .i64 t.mixed,.int .i64 t.cens,x]
def tbS (s g:Nat) (t:Tb) (tr:List Int) (h:Nat):List (Nat×(Nat×Res)):=[(1000,(g,.row (rtRow t (trV s tr h)))),(s,trS tr h)]
theorem rt_get {t:Tb} {x:AV} (hb:t.bags.length=4) (k:Nat):(rtRow t x)[k]?=if k<4 then (t.bags[k]?).map (AV.int .i64) else[AV.int .i64 t.mixed,.int .i64 t.cens,x][k-4]?:=by
 unfold rtRow
 have hl:(t.bags.map (AV.int .i64)).length=4:=by rw[List.length_map,hb]
 by_cases h:k<4
 · rw[if_pos h,List.getElem?_append_left (by omega),List.getElem?_map]
 · rw[if_neg h,List.getElem?_append_right (by omega),hl]
theorem rt_len {t:Tb} {x:AV} (hb:t.bags.length=4):(rtRow t x).length=7:=by unfold rtRow;simp[hb]
theorem rt_bag {t:Tb} {x:AV} (hb:t.bags.length=4) {k:Nat} (hk:k<4):(rtRow t x)[k]?=some (.int .i64 (t.bags.getD k 0)):=by
 rw[rt_get hb,if_pos hk,List.getD_eq_getElem?_getD,List.getElem?_eq_getElem (by omega)];rfl
theorem rt_setB {t:Tb} {x:AV} (hb:t.bags.length=4) {k:Nat} (hk:k<4) (v:Int):(rtRow t x).set k (.int .i64 v)=rtRow {t with bags:=t.bags.set k v } x:=by
 unfold rtRow
 rw[List.set_append_left _ _ (by rw[List.length_map];omega),←List.map_set]
theorem rt_setM {t:Tb} {x:AV} (hb:t.bags.length=4) (v:Int):(rtRow t x).set 4 (.int .i64 v)=rtRow {t with mixed:=v } x:=by
 unfold rtRow
 rw[List.set_append_right _ _ (by rw[List.length_map];omega),List.length_map,hb];rfl
theorem rt_setC {t:Tb} {x:AV} (hb:t.bags.length=4) (v:Int):(rtRow t x).set 5 (.int .i64 v)=rtRow {t with cens:=v } x:=by
 unfold rtRow
 rw[List.set_append_right _ _ (by rw[List.length_map];omega),List.length_map,hb];rfl
theorem rt_setT {t:Tb} {x:AV} (hb:t.bags.length=4) (y:AV):(rtRow t x).set 6 y=rtRow t y:=by
 unfold rtRow
 rw[List.set_append_right _ _ (by rw[List.length_map];omega),List.length_map,hb];rfl
section
variable {P:Program} {K:(Nat→AV)→Sig→Prop} {e:Nat→AV} {σ:Sig} {x v:IOpd} {r:List IStep} {t:Tb} {g i d off w:Nat} {y:AV} {b:Int}
theorem w_rtB (hx:x.ev e= .ref i g off) (ho:off=w) (hσ:σ i=(g,.row (rtRow t y))) (hb:t.bags.length=4) (hw:w<4) (hv:t.bags.getD w 0=b) (hk:stepsW P r K (upd e d (.int .i64 b)) σ):stepsW P (⟨some d,none,.ld 1 false x⟩::r) K e σ:=
 w_ldAt hx hσ (by rw[ho,←hv];exact rt_bag hb hw) rfl hk
theorem w_rtM (hx:x.ev e= .ref i g off) (ho:off=4) (hσ:σ i=(g,.row (rtRow t y))) (hb:t.bags.length=4) (hk:stepsW P r K (upd e d (.int .i64 t.mixed)) σ):stepsW P (⟨some d,none,.ld 1 false x⟩::r) K e σ:=
 w_ldAt hx hσ (by rw[ho,rt_get hb];rfl) rfl hk
theorem w_rtC (hx:x.ev e= .ref i g off) (ho:off=5) (hσ:σ i=(g,.row (rtRow t y))) (hb:t.bags.length=4) (hk:stepsW P r K (upd e d (.int .i64 t.cens)) σ):stepsW P (⟨some d,none,.ld 1 false x⟩::r) K e σ:=
 w_ldAt hx hσ (by rw[ho,rt_get hb];rfl) rfl hk
theorem w_rtT (hx:x.ev e= .ref i g off) (ho:off=6) (hσ:σ i=(g,.row (rtRow t y))) (hb:t.bags.length=4) (hv:forceA y=some y) (hk:stepsW P r K (upd e d y) σ):stepsW P (⟨some d,none,.ld 1 false x⟩::r) K e σ:=
 w_ldAt hx hσ (by rw[ho,rt_get hb];rfl) hv hk
theorem w_rtSB (hx:x.ev e= .ref i g off) (ho:off=w) (hv:v.ev e= .int .i64 b) (hσ:σ i=(g,.row (rtRow t y))) (hb:t.bags.length=4) (hw:w<4) (hk:stepsW P r K e (upd σ i (g,.row (rtRow {t with bags:=t.bags.set w b } y)))):stepsW P (⟨none,none,.st 1 x v⟩::r) K e σ:=by
 refine w_stAt (a:= .int .i64 b) hx hσ (by rw[hv];rfl) (by rw[rt_len hb];omega) ?_
 rw[ho,rt_setB hb hw];exact hk
theorem w_rtSM (hx:x.ev e= .ref i g off) (ho:off=4) (hv:v.ev e= .int .i64 b) (hσ:σ i=(g,.row (rtRow t y))) (hb:t.bags.length=4) (hk:stepsW P r K e (upd σ i (g,.row (rtRow {t with mixed:=b } y)))):stepsW P (⟨none,none,.st 1 x v⟩::r) K e σ:=by
 refine w_stAt (a:= .int .i64 b) hx hσ (by rw[hv];rfl) (by rw[rt_len hb];omega) ?_
 rw[ho,rt_setM hb];exact hk
theorem w_rtSC (hx:x.ev e= .ref i g off) (ho:off=5) (hv:v.ev e= .int .i64 b) (hσ:σ i=(g,.row (rtRow t y))) (hb:t.bags.length=4) (hk:stepsW P r K e (upd σ i (g,.row (rtRow {t with cens:=b } y)))):stepsW P (⟨none,none,.st 1 x v⟩::r) K e σ:=by
 refine w_stAt (a:= .int .i64 b) hx hσ (by rw[hv];rfl) (by rw[rt_len hb];omega) ?_
 rw[ho,rt_setC hb];exact hk
theorem w_rtST {z:AV} (hx:x.ev e= .ref i g off) (ho:off=6) (hv:cellsO 1 (v.ev e)=some (1=1,[z])) (hσ:σ i=(g,.row (rtRow t y))) (hb:t.bags.length=4) (hk:stepsW P r K e (upd σ i (g,.row (rtRow t z)))):stepsW P (⟨none,none,.st 1 x v⟩::r) K e σ:=by
 refine w_stAt (a:=z) hx hσ hv (by rw[rt_len hb];omega) ?_
 rw[ho,rt_setT hb];exact hk
end
theorem renL_rt (ρ:List (Nat×Nat)) (t:Tb) (x:AV):renL ρ (rtRow t x)=rtRow t (ren ρ x):=by
 unfold rtRow
 rw[renL_app2,renL_nI];rfl
theorem ren_trV {ρ:List (Nat×Nat)} {s q:Nat} (h:lk ρ s=some q) (tr:List Int) (g:Nat):ren ρ (trV s tr g)=trV q tr g:=by
 cases tr with
 | nil=>rfl
 | cons x r=>
   show AV.slc 1 (iR (x::r)) (renT ρ (.own s g))=_
   simp only[renT,h];rfl
theorem upd_comm {σ:Sig} {p q:Nat} {x y:Nat×Res} (h:p≠q):upd (upd σ p x) q y=upd (upd σ q y) p x:=by
 funext j
 simp only[upd_eq]
 by_cases h1:j=q
 · subst h1;rw[if_pos rfl,if_neg (fun e=>h e.symm),if_pos rfl]
 · rw[if_neg h1,if_neg h1]
theorem ACall.tab {P:Program} {f:Nat} {args0 args:List AV} {s0 p q g h0 d:Nat} {t:Tb} {tr:List Int} {α:Type} {V:α→AV→Prop} {T:α→Tb} {R:α→List Int} {H:α→Nat} {σ:Sig} {Q:AV→Sig→Prop}
  (h:RawC P f args0 (sg (tbS s0 g t tr h0)) (SR V (fun x=>tbS s0 g (T x) (R x) (H x)))) (hs0:Nat.beq 1000 s0=false) (hq:Nat.ble YS q=true) (hpq:Nat.beq p q=false)
  (hr1:renOK [(s0,q),(1000,p)]=true) (hr2:renOK [(1000,p),(s0,q)]=true) (ha1:args0=renL (flipL [(1000,p)]) args) (ha2:args0=renL (flipL [(1000,p),(s0,q)]) args)
  (hp:σ p=(g,.row (rtRow t (trV q tr h0)))) (hσq:σ q=trS tr h0)
  (hQ:∀x av,V x av→ren [(s0,q),(1000,p)] av=av→ren [(1000,p),(s0,q)] av=av→Q av (upd (upd σ q (trS (R x) (H x))) p (g,.row (rtRow (T x) (trV q (R x) (H x)))))) (hV:∀x av,V x av→ ∃n,av= .int .i64 n):ACall P f args σ d Q:=by
 have hne:p≠q:=fun e=>by rw[e] at hpq;simp at hpq
 have hs1:s0≠1000:=fun e=>by rw[e] at hs0;simp at hs0
 have hqp:Nat.beq q p=false:=by
  cases h:Nat.beq q p with
  | false=>rfl
  | true=>exact absurd (nbeq.1 h).symm hne
 have hs2:Nat.beq s0 1000=false:=by
  cases h:Nat.beq s0 1000 with
  | false=>rfl
  | true=>exact absurd (nbeq.1 h) hs1
 cases tr with
 | nil=>
   have e0:sg (tbS s0 g t [] h0)=sg [(1000,(g,.row (rtRow t .nsl)))]:=by
    funext j
    show (match Nat.beq 1000 j with | true=>_ | false=>(match Nat.beq s0 j with | true=>((0,Res.dead):Nat×Res) | false=>(0,.dead)))=(match Nat.beq 1000 j with | true=>_ | false=>_)
    split
    · rfl
    · split<;>rfl
   rw[e0] at h
   refine ACall.liftN h [(1000,p)] [(s0,q)] (by simp[outsB,hq]) hr1 ha1 ?_ ⟨⟨_,by rw[hp]⟩,trivial⟩ fun av σ0' hR=>?_
   · show _=[(1000,((σ p).1,renR _ (σ p).2))]
     rw[hp]
     simp only[renR,renL_rt];rfl
   · obtain⟨x,hv,hsl⟩:=hR
     obtain⟨k1,k2,-⟩:=hsl
     obtain⟨n,rfl⟩:=hV x av hv
     have l1:lk [(s0,q),(1000,p)] s0=some q:=by simp[lk]
     show Q (.int .i64 n) (upd (upd σ p ((σ0' 1000).1,renR [(s0,q),(1000,p)] (σ0' 1000).2)) q ((σ0' s0).1,renR [(s0,q),(1000,p)] (σ0' s0).2))
     have e1:((trS (R x) (H x)).1,renR [(s0,q),(1000,p)] (trS (R x) (H x)).2)=trS (R x) (H x):=by
      cases R x<;>rfl
     rw[k1,k2,e1]
     simp only[renR,renL_rt,ren_trV l1]
     rw[upd_comm hne]
     exact hQ x _ hv rfl rfl
 | cons c cs=>
   refine ACall.liftN h [(1000,p),(s0,q)] [] rfl hr2 ha2 ?_ ⟨⟨_,by rw[hp]⟩,⟨[],by rw[hσq];rfl⟩,trivial⟩ fun av σ0' hR=>?_
   · show _=[(1000,((σ p).1,renR (flipL [(1000,p),(s0,q)]) (σ p).2)),(s0,((σ q).1,renR (flipL [(1000,p),(s0,q)]) (σ q).2))]
     have l2:lk (flipL [(1000,p),(s0,q)]) q=some s0:=by simp[flipL,lk,hpq]
     rw[hp,hσq]
     simp only[renR,renL_rt,ren_trV l2,tbS];rfl
   · obtain⟨x,hv,hsl⟩:=hR
     obtain⟨k1,k2,-⟩:=hsl
     obtain⟨n,rfl⟩:=hV x av hv
     have l1:lk [(1000,p),(s0,q)] s0=some q:=by simp[lk,hs0]
     show Q (.int .i64 n) (upd (upd σ q ((σ0' s0).1,renR [(1000,p),(s0,q)] (σ0' s0).2)) p ((σ0' 1000).1,renR [(1000,p),(s0,q)] (σ0' 1000).2))
     have e1:((trS (R x) (H x)).1,renR [(1000,p),(s0,q)] (trS (R x) (H x)).2)=trS (R x) (H x):=by
      cases R x<;>rfl
     rw[k1,k2,e1]
     simp only[renR,renL_rt,ren_trV l1]
     exact hQ x _ hv rfl rfl
def ir88:IFn:=
 ⟨53,[(6,none)],(.seq (.ops [oo 4 (.box 2 1),
 oo 5 (.box 5 2),
 oo 6 (.mov (kI 0))])
 (.seq (.seq (.ops [oo 7 (.flA 3 5),
 oo 8 (.ld 1 false 7),
 oo 9 (.flA 0 4),
 oo 10 (.ld 1 false 9),
 oo 11 (.len false 10),
 oo 12 (.bin .sub 11 (kI 1)),
 oo 13 (.callF 54 [8,(kI 0),12]),
 oo 14 (.not 13)])
 (.cnd 14
 (.seq (.ops [oo 6 (.mov (kI 7))])
 .ret)
 .skip))
 (.seq (.seq (.ops [oo 15 (.flA 4 5),
 oo 16 (.ld 1 false 15),
 oo 17 (.callF 54 [16,(kI 1),(kI 12)]),
 oo 18 (.not 17)])
 (.cnd 18
 (.seq (.ops [oo 6 (.mov (kI 2))])
 .ret)
 .skip))
 (.seq (.seq (.ops [oo 19 (.mov 0),
 oo 20 (.nck 19),
 oo 21 (.flA 4 20),
 oo 22 (.ld 1 false 21),
 oo 23 (.flA 4 5),
 oo 24 (.ld 1 false 23),
 oo 25 (.bin .add 22 24),
 oo 26 (.bin .gtr 25 (kI 12))])
 (.cnd 26
 (.seq (.ops [oo 6 (.mov (kI 8))])
 .ret)
 .skip))
 (.seq (.ops [oo 27 (.mov 0),
 oo 28 (.mov 0),
 oo 29 (.flA 1 5),
 oo 30 (.ld 1 false 29),
 oo 31 (.mov 0),
 oo 32 (.nck 31),
 oo 33 (.flA 4 32),
 oo 34 (.ld 1 false 33),
 oo 35 (.flA 4 5),
 oo 36 (.ld 1 false 35),
 oo 37 (.bin .add 34 36),
 oo 38 (.mov 0),
 oo 39 (.flA 1 5),
 oo 40 (.ld 1 false 39),
 oo 41 (.nck 38),
 oo 42 (.flA 0 41),
 oo 43 (.ixAr 4 1 42 40),
 oo 44 (.ld 1 false 43),
 oo 45 (.flA 4 5),
 oo 46 (.ld 1 false 45),
 oo 47 (.bin .add 44 46),
 oo 48 (.nck 27),
 oo 49 (.flA 4 48),
 oo 50 (.nck 28),
 oo 51 (.flA 0 50),
 ⟨none,none,(.st 1 49 37)⟩,
 ⟨none,none,(.chk 1 false 29 30)⟩,
 ⟨none,none,(.chk 1 false 45 46)⟩,
 oo 52 (.ixAr 4 1 51 30),
 ⟨none,none,(.st 1 52 47)⟩])
 (.seq (.ops [oo 6 (.mov (kI 0))])
 .ret))))))⟩
def hint88 (P:Program):Hint:={}
theorem rmix_c (G:Gm) (d:Dl) (g h:Nat) (t:Tb) (tr:List Int) (hn:1≤G.ws.length∧G.ws.length≤6) (ht:tbOK t) (hbg:inB d.bag 0 3=true):
  RawC Try.prog 88 [.ref 1000 g 0,gmA G,dlA d] (sg (tbS 1001 g t tr h)) (SR (fun (y:Tb) v=>v= .int .i64 (mixE G.ws.length d t)∧(mixE G.ws.length d t=0→y={t with mixed:=t.mixed+d.count,bags:=setI t.bags d.bag (atI t.bags d.bag+d.count) })) (fun y=>tbS 1001 g y tr h)):=by
 have hb:=ht.b
 have h1:=rin_c d.wood 0 (G.ws.length-1)
 have h2:=rin_c d.count 1 12
 have hbi:=inB_t.1 hbg
 have hb4:d.bag.toNat<4:=by omega
 have hat:=ht.at hb4
 have hm:=ht.m
 have hat2:0≤t.bags.getD d.bag.toNat 0∧t.bags.getD d.bag.toNat 0≤12:=hat
 obtain⟨E,hE⟩:∃E,mixE G.ws.length d t=E:=⟨_,rfl⟩
 rw[hE]
 unfold mixE at hE
 rw[if_pos hbg] at hE
 by_cases e1:inB d.wood 0 (G.ws.length-1)=true
 rotate_left
 · rw[if_neg e1] at hE
   subst hE
   rw[show inB d.wood 0 (G.ws.length-1)=false by simpa using e1] at h1
   refine RawC.walk (H:=hint88 Try.prog) ir88 Try.func88 rfl rfl rfl ?_
   unfold ir88
   repeat' (first
    | refine advE ?_ | with_reducible refine w_alt ?_ ?_
    | with_reducible refine zI fun y hy=>?_ | refine advL ?_
    | ((with_reducible refine acall_id ?_);refine ACall.val h1 rfl rfl ?_)
    | refine adv ?_ | with_reducible (first | intro _ | refine Rt.p (fun _=>?_) fun _=>?_)
    | ((with_reducible apply w_ixM);(focus exact rfl);(focus exact rfl);case' hk=>intro y hy) | ((with_reducible (first | apply w_val | apply q_ends));(focus exact rfl)))
   all_goals first
    | (exfalso;omega)
    | exact⟨t,⟨rfl,fun h=>absurd h (by decide)⟩,rfl,rfl,trivial⟩
 rw[if_pos e1] at hE
 rw[e1] at h1
 by_cases e2:inB d.count 1 12=true
 rotate_left
 · rw[if_neg e2] at hE
   subst hE
   rw[show inB d.count 1 12=false by simpa using e2] at h2
   refine RawC.walk (H:=hint88 Try.prog) ir88 Try.func88 rfl rfl rfl ?_
   unfold ir88
   repeat' (first
    | refine advE ?_ | with_reducible refine w_alt ?_ ?_
    | with_reducible refine zI fun y hy=>?_ | refine advL ?_
    | ((with_reducible refine acall_id ?_);refine ACall.val h1 rfl rfl ?_)
    | ((with_reducible refine acall_id ?_);refine ACall.val h2 rfl rfl ?_)
    | refine adv ?_ | with_reducible (first | intro _ | refine Rt.p (fun _=>?_) fun _=>?_)
    | ((with_reducible apply w_ixM);(focus exact rfl);(focus exact rfl);case' hk=>intro y hy) | ((with_reducible (first | apply w_val | apply q_ends));(focus exact rfl)))
   all_goals first
    | (exfalso;omega)
    | exact⟨t,⟨rfl,fun h=>absurd h (by decide)⟩,rfl,rfl,trivial⟩
 rw[if_pos e2] at hE
 rw[e2] at h2
 have hc:=inB_t.1 e2
 by_cases e3:12<t.mixed+d.count
 · rw[if_pos e3] at hE
   subst hE
   refine RawC.walk (H:=hint88 Try.prog) ir88 Try.func88 rfl rfl rfl ?_
   unfold ir88
   repeat' (first
    | refine advE ?_ | with_reducible refine w_alt ?_ ?_
    | (first | refine w_rtM rfl rfl rfl hb ?_)
    | with_reducible refine zI fun y hy=>?_ | refine advL ?_
    | ((with_reducible refine acall_id ?_);refine ACall.val h1 rfl rfl ?_)
    | ((with_reducible refine acall_id ?_);refine ACall.val h2 rfl rfl ?_)
    | refine adv ?_ | with_reducible (first | intro _ | refine Rt.p (fun _=>?_) fun _=>?_)
    | ((with_reducible apply w_ixM);(focus exact rfl);(focus exact rfl);case' hk=>intro y hy) | ((with_reducible (first | apply w_val | apply q_ends));(focus exact rfl)))
   all_goals first
    | (exfalso;omega)
    | exact⟨t,⟨rfl,fun h=>absurd h (by decide)⟩,rfl,rfl,trivial⟩
 · rw[if_neg e3] at hE
   subst hE
   refine RawC.walk (H:=hint88 Try.prog) ir88 Try.func88 rfl rfl rfl ?_
   unfold ir88
   repeat' (first
    | refine advE ?_ | with_reducible refine w_alt ?_ ?_
    | (first | refine w_rtM rfl rfl rfl hb ?_ | refine w_rtB (w:=d.bag.toNat) rfl (by omega) rfl hb hb4 rfl ?_ | refine w_rtSM rfl rfl rfl rfl hb ?_ | refine w_rtSB (w:=d.bag.toNat) rfl (by omega) rfl rfl hb hb4 ?_)
    | with_reducible refine zI fun y hy=>?_ | refine advL ?_
    | ((with_reducible refine acall_id ?_);refine ACall.val h1 rfl rfl ?_)
    | ((with_reducible refine acall_id ?_);refine ACall.val h2 rfl rfl ?_)
    | refine adv ?_ | with_reducible (first | intro _ | refine Rt.p (fun _=>?_) fun _=>?_)
    | ((with_reducible apply w_ixM);(focus exact rfl);(focus exact rfl);case' hk=>intro y hy) | ((with_reducible (first | apply w_val | apply q_ends));(focus exact rfl)))
   all_goals first
    | (exfalso;omega)
    | exact⟨_,⟨rfl,fun _=>rfl⟩,rfl,rfl,trivial⟩
def ir87:IFn:=
 ⟨46,[(6,none)],(.seq (.ops [oo 4 (.box 2 1),
 oo 5 (.box 5 2),
 oo 6 (.mov (kI 0))])
 (.seq (.seq (.ops [oo 8 (.flA 3 5),
 oo 9 (.ld 1 false 8),
 oo 10 (.flA 0 4),
 oo 11 (.ld 1 false 10),
 oo 12 (.len false 11),
 oo 13 (.bin .sub 12 (kI 1)),
 oo 14 (.callF 54 [9,(kI 0),13]),
 oo 15 (.not 14)])
 (.cnd 15
 (.seq (.ops [oo 6 (.mov (kI 7))])
 .ret)
 .skip))
 (.seq (.seq (.ops [oo 7 (.mov (kI 0))])
 (.blk 0 (.loop (.seq (.seq (.ops [oo 16 (.mov 7),
 oo 17 (.mov 0),
 oo 18 (.nck 17),
 oo 19 (.flA 6 18),
 oo 20 (.ld 1 false 19),
 oo 21 (.len false 20),
 oo 22 (.bin .lss 16 21)])
 (.cnd 22
 .skip
 (.exit 0)))
 (.seq (.blk 1 (.seq (.ops [oo 25 (.mov 0),
 oo 26 (.nck 25),
 oo 27 (.flA 6 26),
 oo 28 (.ld 1 false 27),
 oo 29 (.mov 7),
 oo 30 (.ixA 1 28 29),
 oo 31 (.ld 1 false 30),
 oo 32 (.flA 3 5),
 oo 33 (.ld 1 false 32),
 oo 34 (.bin .eql 31 33)])
 (.cnd 34
 (.seq (.ops [oo 6 (.mov (kI 9))])
 .ret)
 .skip)))
 (.ops [oo 23 (.mov 7),
 oo 24 (.bin .add 23 (kI 1)),
 oo 7 (.mov 24)]))))))
 (.seq (.ops [oo 35 (.mov 0),
 oo 36 (.mov 0),
 oo 37 (.nck 36),
 oo 38 (.flA 6 37),
 oo 39 (.ld 1 false 38),
 oo 40 (.flA 3 5),
 oo 41 (.ld 1 false 40),
 oo 42 (.bsl 1 [[(.int .i64 0)]] [(0,41)]),
 oo 43 (.app 1 8 39 42 1001),
 oo 44 (.nck 35),
 oo 45 (.flA 6 44),
 ⟨none,none,(.st 1 45 43)⟩])
 (.seq (.ops [oo 6 (.mov (kI 0))])
 .ret)))))⟩
def hint87 (P:Program):Hint:={site:=[(43,1001)],nils:=[],frz:=[],mve:=[],wr:=[] }
def trO (tr:List Int) (b:List Bool):Prop:=∀w:Nat,w<6→(b.getD w false=true↔(w:Int)∈tr)
end Go.Abs
