/- A part of the proofs of the laws of this seat: contracts of the functions that they reach, each proved of the program's form in Lean. No condition beyond those that each contract names. -/
import Derived.Test.YtecogfpnfhkibaaProg
import Derived.Test.YtecogfpnfhkibaaSnd3
import Derived.Test.YtecogfpnfhkibaaA0
import Derived.Test.YtecogfpnfhkibaaN1a
import Derived.Test.YtecogfpnfhkibaaN1b
import Derived.Test.YtecogfpnfhkibaaN1c
import Derived.Test.YtecogfpnfhkibaaN1d
import Derived.Test.YtecogfpnfhkibaaN1e
import Derived.Test.YtecogfpnfhkibaaN1f
import Derived.Test.YtecogfpnfhkibaaN1g
import Derived.Test.YtecogfpnfhkibaaN1h
import Derived.Test.YtecogfpnfhkibaaQ1a
set_option linter.unusedVariables false
set_option linter.unusedSimpArgs false
set_option maxRecDepth 20000
set_option maxHeartbeats 4000000
namespace Go.Abs
open Go.Proofs
theorem rcount_c (n:Nat) (hn:n≤6):∀(A:List Dl) (b:List Int) (m:Int) (B c:List Int) (a:AV),CV a c→tbIn b m→runOK n (A.map spOf) b m→bgT n b B→A.length<1000→c.length<1000→Fn0 Try.prog 92 [.slc 5 (dlR A) .non,bgV B,a] (fun v=>v= .int .i64 (cntP (A.map spOf) c B))
 | [],b,m,B,c,a,hc,ht,hr,hB,hA,hcl=>by
   have hz:([]:List Dl).length=0:=rfl
   have hl:=hB.l
   rcases hc with⟨rfl,rfl⟩ | rfl
   all_goals
    refine RawC.walk (H:=hint92 Try.prog) ir92 Try.func92 rfl rfl rfl ?_
    unfold ir92
    repeat' (first
     | with_reducible (first | refine Rd.p ?_ | refine w_alt ?_ ?_ | refine zE ?_ | refine zE0 ?_)
     | (first | (refine w_boxN rfl hl ?_;intro g2))
     | with_reducible (first | refine zI fun y hy=>?_ | refine zL ?_ | refine zS ?_ | refine zA fun _=>?_ | refine zV ?_ | refine zC ?_ | refine zG ?_ | refine zU ?_ | refine zG0 ?_ | refine zU0 ?_ | refine zF ?_)
     | with_reducible (first | refine zX ?_ | refine zD fun _=>?_ | refine zD0 ?_ | refine zN ?_ | refine zF0 ?_ | refine zX0 ?_ | refine z1 ?_ | refine z2 ?_ | refine z3 ?_ | refine z4 ?_ | refine z5 ?_ | refine z6 ?_ | refine z7 ?_ | refine z8 ?_ | refine y1 ?_ | refine y2 ?_ | refine y3 ?_ | refine y4 ?_ | refine y5 ?_ | refine y6 ?_ | refine y7 ?_ | refine y8 ?_ | refine Rt.p (fun _=>?_) fun _=>?_)
     | ((with_reducible apply w_ixM);(focus exact rfl);(focus exact rfl);case' hk=>intro y hy) | ((with_reducible (first | apply w_val | apply q_ends));(focus exact rfl)))
    all_goals first
     | (exfalso;omega)
     | rfl
 | d::A,b,m,B,c,a,hc,ht,hr,hB,hA,hcl=>by
   have hl:=hB.l
   have hin:=hB.bgin ht
   have hx:=hr.1
   have ht2:=(ht.step hx).1
   have hds:=rdraws_c d
   have hm:=ht.m
   have hbd:=cntP_bd hn c ht hr hB
   have hsb:=szP_bd ht hr
   have hsb2:=szP_bd ht2 hr.2
   have hcls:(d::A).length=A.length+1:=rfl
   have hmap:(d::A).map spOf=spOf d::A.map spOf:=rfl
   rw[hmap] at hbd hsb ⊢
   have hs1:(spOf d).2.1=drawsB d:=rfl
   have hs2:(spOf d).2.2=(decide (d.kind=5) || decide (d.kind=6)):=rfl
   cases hdb:drawsB d with
   | false=>
     have hk:¬(d.kind=4∨d.kind=5):=by simpa[drawsB] using hdb
     have hnd:¬(spOf d).2.1=true:=by rw[hs1,hdb];decide
     rw[hdb] at hds
     have hB2:=hB.mix ht.l hn hx (by rw[hs1,hdb])
     by_cases h6:d.kind=6
     · have hce:(spOf d).2.2=true:=by rw[hs2];simp[h6]
       have hmx:mixedB (spOf d).1 B=B:=by show mixedB d B=B;unfold mixedB;rw[if_neg (by omega),if_neg (by omega)]
       rw[hmx] at hB2
       cases c with
       | nil=>
         rw[cntP_pn hnd hce,hmx]
         have ih:=rcount_c n hn A _ _ B [] .nsl (.inl ⟨rfl,rfl⟩) ht2 hr.2 hB2 (by omega) hcl
         have hz:([]:List Int).length=0:=rfl
         rcases hc with⟨rfl,-⟩ | rfl
         all_goals
          refine RawC.walk (H:=hint92 Try.prog) ir92 Try.func92 rfl rfl rfl ?_
          unfold ir92
          repeat' (first
           | with_reducible (first | refine Rd.p ?_ | refine w_alt ?_ ?_ | refine zE ?_ | refine zE0 ?_)
           | (first | (refine w_boxN rfl hl ?_;intro g2) | refine w_ixP (f:=fun d:Dl=>[AV.int .i64 d.kind,.int .i64 d.bag,.int .i64 d.other,.int .i64 d.wood,.int .i64 d.count]) (l:=d::A) (pre:=[]) (y:=d) (post:=A) rfl rfl rfl ?_ | refine w_ldN rfl rfl hl ?_ | refine w_slT (f:=fun d:Dl=>[AV.int .i64 d.kind,.int .i64 d.bag,.int .i64 d.other,.int .i64 d.wood,.int .i64 d.count]) rfl ?_)
           | with_reducible (first | refine zI fun y hy=>?_ | refine zL ?_ | refine zS ?_ | refine zA fun _=>?_ | refine zV ?_ | refine zC ?_ | refine zG ?_ | refine zU ?_ | refine zG0 ?_ | refine zU0 ?_ | refine zF ?_)
           | ((with_reducible refine acall_id ?_);refine ACall.val hds rfl rfl ?_)
           | ((with_reducible refine acall_id ?_);refine ACall.cnt ih rfl rfl ?_)
           | with_reducible (first | refine zX ?_ | refine zD fun _=>?_ | refine zD0 ?_ | refine zN ?_ | refine zF0 ?_ | refine zX0 ?_ | refine z1 ?_ | refine z2 ?_ | refine z3 ?_ | refine z4 ?_ | refine z5 ?_ | refine z6 ?_ | refine z7 ?_ | refine z8 ?_ | refine y1 ?_ | refine y2 ?_ | refine y3 ?_ | refine y4 ?_ | refine y5 ?_ | refine y6 ?_ | refine y7 ?_ | refine y8 ?_ | refine Rt.p (fun _=>?_) fun _=>?_)
           | ((with_reducible apply w_ixM);(focus exact rfl);(focus exact rfl);case' hk=>intro y hy) | ((with_reducible (first | apply w_val | apply q_ends));(focus exact rfl)))
          all_goals first
           | (exfalso;omega)
           | rfl
       | cons w c=>
         rw[cntP_pc hnd hce,hmx]
         have ih:=rcount_c n hn A _ _ B c _ (.inr rfl) ht2 hr.2 hB2 (by omega) (by rw[List.length_cons] at hcl;omega)
         rcases hc with⟨-,h⟩ | rfl
         · cases h
         have hz:(iR (w::c)).length=c.length+1:=by rw[List.length_map];rfl
         have hz2:(w::c).length=c.length+1:=rfl
         by_cases hw:w=(spOf d).1.wood
         · rw[if_pos hw]
           change w=d.wood at hw
           refine RawC.walk (H:=hint92 Try.prog) ir92 Try.func92 rfl rfl rfl ?_
           unfold ir92
           repeat' (first
            | with_reducible (first | refine Rd.p ?_ | refine w_alt ?_ ?_ | refine zE ?_ | refine zE0 ?_)
            | (first | (refine w_boxN rfl hl ?_;intro g2) | refine w_ixP (f:=fun d:Dl=>[AV.int .i64 d.kind,.int .i64 d.bag,.int .i64 d.other,.int .i64 d.wood,.int .i64 d.count]) (l:=d::A) (pre:=[]) (y:=d) (post:=A) rfl rfl rfl ?_ | refine w_ixP (f:=fun x:Int=>[AV.int .i64 x]) (l:=w::c) (pre:=[]) (y:=w) (post:=c) rfl rfl rfl ?_ | refine w_ldN rfl rfl hl ?_ | refine w_slT (f:=fun d:Dl=>[AV.int .i64 d.kind,.int .i64 d.bag,.int .i64 d.other,.int .i64 d.wood,.int .i64 d.count]) rfl ?_ | refine w_sl1 rfl ?_)
            | with_reducible (first | refine zI fun y hy=>?_ | refine zL ?_ | refine zS ?_ | refine zA fun _=>?_ | refine zV ?_ | refine zC ?_ | refine zG ?_ | refine zU ?_ | refine zG0 ?_ | refine zU0 ?_ | refine zF ?_)
            | ((with_reducible refine acall_id ?_);refine ACall.val hds rfl rfl ?_)
            | ((with_reducible refine acall_id ?_);refine ACall.cnt ih rfl rfl ?_)
            | with_reducible (first | refine zX ?_ | refine zD fun _=>?_ | refine zD0 ?_ | refine zN ?_ | refine zF0 ?_ | refine zX0 ?_ | refine z1 ?_ | refine z2 ?_ | refine z3 ?_ | refine z4 ?_ | refine z5 ?_ | refine z6 ?_ | refine z7 ?_ | refine z8 ?_ | refine y1 ?_ | refine y2 ?_ | refine y3 ?_ | refine y4 ?_ | refine y5 ?_ | refine y6 ?_ | refine y7 ?_ | refine y8 ?_ | refine Rt.p (fun _=>?_) fun _=>?_)
            | ((with_reducible apply w_ixM);(focus exact rfl);(focus exact rfl);case' hk=>intro y hy) | ((with_reducible (first | apply w_val | apply q_ends));(focus exact rfl)))
           all_goals first
            | (exfalso;omega)
            | rfl
         · rw[if_neg hw]
           change ¬w=d.wood at hw
           refine RawC.walk (H:=hint92 Try.prog) ir92 Try.func92 rfl rfl rfl ?_
           unfold ir92
           repeat' (first
            | with_reducible (first | refine Rd.p ?_ | refine w_alt ?_ ?_ | refine zE ?_ | refine zE0 ?_)
            | (first | (refine w_boxN rfl hl ?_;intro g2) | refine w_ixP (f:=fun d:Dl=>[AV.int .i64 d.kind,.int .i64 d.bag,.int .i64 d.other,.int .i64 d.wood,.int .i64 d.count]) (l:=d::A) (pre:=[]) (y:=d) (post:=A) rfl rfl rfl ?_ | refine w_ixP (f:=fun x:Int=>[AV.int .i64 x]) (l:=w::c) (pre:=[]) (y:=w) (post:=c) rfl rfl rfl ?_ | refine w_ldN rfl rfl hl ?_)
            | with_reducible (first | refine zI fun y hy=>?_ | refine zL ?_ | refine zS ?_ | refine zA fun _=>?_ | refine zV ?_ | refine zC ?_ | refine zG ?_ | refine zU ?_ | refine zG0 ?_ | refine zU0 ?_ | refine zF ?_)
            | ((with_reducible refine acall_id ?_);refine ACall.val hds rfl rfl ?_)
            | with_reducible (first | refine zX ?_ | refine zD fun _=>?_ | refine zD0 ?_ | refine zN ?_ | refine zF0 ?_ | refine zX0 ?_ | refine z1 ?_ | refine z2 ?_ | refine z3 ?_ | refine z4 ?_ | refine z5 ?_ | refine z6 ?_ | refine z7 ?_ | refine z8 ?_ | refine y1 ?_ | refine y2 ?_ | refine y3 ?_ | refine y4 ?_ | refine y5 ?_ | refine y6 ?_ | refine y7 ?_ | refine y8 ?_ | refine Rt.p (fun _=>?_) fun _=>?_)
            | ((with_reducible apply w_ixM);(focus exact rfl);(focus exact rfl);case' hk=>intro y hy) | ((with_reducible (first | apply w_val | apply q_ends));(focus exact rfl)))
           all_goals first
            | (exfalso;omega)
            | rfl
     · have hce:¬(spOf d).2.2=true:=by rw[hs2];simp;omega
       rw[cntP_m hnd hce]
       have hrd:=rready_c d B hin (fun h2=>by obtain⟨q1,q2,q3,q4⟩:=hx.h2 (by rw[hs1,hdb]) h2;change 0≤d.wood∧d.wood<_ at q2;change 1≤d.count at q3;change m+d.count≤12 at q4;exact⟨q1,by omega,by omega⟩) (fun h3=>hx.h3 (by rw[hs1,hdb]) h3)
       have ih:=rcount_c n hn A _ _ (mixedB d B) c _ hc ht2 hr.2 hB2 (by omega) hcl
       have hml:=hB2.l
       change Fn0 Try.prog _ _ (fun v=>v= .int .i64 (cntP (A.map spOf) c (mixedB d B))) at ih
       rcases hc with⟨rfl,-⟩ | rfl
       all_goals
        refine RawC.walk (H:=hint92 Try.prog) ir92 Try.func92 rfl rfl rfl ?_
        unfold ir92
        repeat' (first
         | with_reducible (first | refine Rd.p ?_ | refine w_alt ?_ ?_ | refine zE ?_ | refine zE0 ?_)
         | (first | (refine w_boxN rfl hl ?_;intro g2) | refine w_ixP (f:=fun d:Dl=>[AV.int .i64 d.kind,.int .i64 d.bag,.int .i64 d.other,.int .i64 d.wood,.int .i64 d.count]) (l:=d::A) (pre:=[]) (y:=d) (post:=A) rfl rfl rfl ?_ | refine w_ldN rfl rfl hl ?_ | refine w_slT (f:=fun d:Dl=>[AV.int .i64 d.kind,.int .i64 d.bag,.int .i64 d.other,.int .i64 d.wood,.int .i64 d.count]) rfl ?_)
         | with_reducible (first | refine zI fun y hy=>?_ | refine zL ?_ | refine zS ?_ | refine zA fun _=>?_ | refine zV ?_ | refine zC ?_ | refine zG ?_ | refine zU ?_ | refine zG0 ?_ | refine zU0 ?_ | refine zF ?_)
         | ((with_reducible refine acall_id ?_);refine ACall.val hds rfl rfl ?_)
         | ((with_reducible refine acall_id ?_);refine ACall.bgbg hrd rfl ?_)
         | ((with_reducible refine acall_id ?_);refine ACall.cnt ih rfl rfl ?_)
         | with_reducible (first | refine zX ?_ | refine zD fun _=>?_ | refine zD0 ?_ | refine zN ?_ | refine zF0 ?_ | refine zX0 ?_ | refine z1 ?_ | refine z2 ?_ | refine z3 ?_ | refine z4 ?_ | refine z5 ?_ | refine z6 ?_ | refine z7 ?_ | refine z8 ?_ | refine y1 ?_ | refine y2 ?_ | refine y3 ?_ | refine y4 ?_ | refine y5 ?_ | refine y6 ?_ | refine y7 ?_ | refine y8 ?_ | refine Rt.p (fun _=>?_) fun _=>?_)
         | ((with_reducible apply w_ixM);(focus exact rfl);(focus exact rfl);case' hk=>intro y hy) | ((with_reducible (first | apply w_val | apply q_ends));(focus exact rfl)))
        all_goals first
         | (exfalso;omega)
         | rfl
   | true=>
     rw[hdb] at hds
     have hd:(spOf d).2.1=true:=by rw[hs1,hdb]
     have hk:d.kind=4∨d.kind=5:=by simpa[drawsB] using hdb
     obtain⟨hb,ha⟩:=hx.d hd
     have hsz1:=hB.size hb
     have hle:=ht.le hb
     have hsm:=ht.sm
     change 0≤d.bag∧d.bag≤3 at hb
     change 1≤atI b d.bag at ha
     change bgSize B d.bag=atI b d.bag at hsz1
     change atI b d.bag≤sumB b at hle
     have hbe:spB (spOf d) b=setI b d.bag (atI b d.bag+ -1):=by unfold spB;rw[if_pos hd];rfl
     cases c with
     | nil=>
       have hr1:=rsize_c B hin d.bag hb
       have hp0:0≤(0:Int)∧(0:Int)<bgSize B d.bag:=by omega
       obtain⟨hq,hq2⟩:=pickW_ok hp0.1 hp0.2
       have hr2:=rwood_c B hin d.bag 0 hb hp0 (by decide)
       have hr3:=rwithout_c B hin d.bag (pickW B d.bag 0) hb hq
       have hB2:=hB.draw ht.l hn hb hq hq2
       rw[←hbe] at hB2
       have ih:=rcount_c n hn A _ _ _ [] .nsl (.inl ⟨rfl,rfl⟩) ht2 hr.2 hB2 (by omega) hcl
       rw[cntP_dn hd] at hbd ⊢
       change 0≤bgSize B d.bag*cntP (A.map spOf) [] (drawB B d.bag (pickW B d.bag 0))∧bgSize B d.bag*cntP (A.map spOf) [] (drawB B d.bag (pickW B d.bag 0))≤_ at hbd
       have hz:([]:List Int).length=0:=rfl
       rcases hc with⟨rfl,-⟩ | rfl
       all_goals
        refine RawC.walk (H:=hint92 Try.prog) ir92 Try.func92 rfl rfl rfl ?_
        unfold ir92
        repeat' (first
         | with_reducible (first | refine Rd.p ?_ | refine w_alt ?_ ?_ | refine zE ?_ | refine zE0 ?_)
         | (first | (refine w_boxN rfl hl ?_;intro g2) | refine w_ixP (f:=fun d:Dl=>[AV.int .i64 d.kind,.int .i64 d.bag,.int .i64 d.other,.int .i64 d.wood,.int .i64 d.count]) (l:=d::A) (pre:=[]) (y:=d) (post:=A) rfl rfl rfl ?_ | refine w_ldN rfl rfl hl ?_ | refine w_chkN rfl rfl hl rfl ?_ | refine w_slT (f:=fun d:Dl=>[AV.int .i64 d.kind,.int .i64 d.bag,.int .i64 d.other,.int .i64 d.wood,.int .i64 d.count]) rfl ?_)
         | with_reducible (first | refine zI fun y hy=>?_ | refine zL ?_ | refine zS ?_ | refine zA fun _=>?_ | refine zV ?_ | refine zC ?_ | refine zG ?_ | refine zU ?_ | refine zG0 ?_ | refine zU0 ?_ | refine zF ?_)
         | ((with_reducible refine acall_id ?_);refine ACall.val hds rfl rfl ?_)
         | ((with_reducible refine acall_id ?_);refine ACall.bg2i hr1 rfl ?_)
         | ((with_reducible refine acall_id ?_);refine ACall.bg2i hr2 rfl ?_)
         | ((with_reducible refine acall_id ?_);refine ACall.bg2b hr3 rfl ?_)
         | ((with_reducible refine acall_id ?_);refine ACall.cnt ih rfl rfl ?_)
         | with_reducible (first | refine zX ?_ | refine zD fun _=>?_ | refine zD0 ?_ | refine zN ?_ | refine zF0 ?_ | refine zX0 ?_ | refine z1 ?_ | refine z2 ?_ | refine z3 ?_ | refine z4 ?_ | refine z5 ?_ | refine z6 ?_ | refine z7 ?_ | refine z8 ?_ | refine y1 ?_ | refine y2 ?_ | refine y3 ?_ | refine y4 ?_ | refine y5 ?_ | refine y6 ?_ | refine y7 ?_ | refine y8 ?_ | refine Rt.p (fun _=>?_) fun _=>?_)
         | ((with_reducible apply w_ixM);(focus exact rfl);(focus exact rfl);case' hk=>intro y hy) | ((with_reducible (first | apply w_val | apply q_ends));(focus exact rfl)))
        all_goals first
         | (exfalso;omega)
         | rfl
     | cons w c=>
       rcases hc with⟨-,h⟩ | rfl
       · cases h
       have hz2:(w::c).length=c.length+1:=rfl
       rw[cntP_dc hd]
       obtain⟨hF0,hFb⟩:=cntW_bd hn ht hr hB hd w c
       obtain⟨F,hF⟩:∃F,cntW (spOf d) (A.map spOf) B w c=F:=⟨_,rfl⟩
       rw[hF] at hF0 hFb ⊢
       have hFv:∀v:Nat,F v=if d.kind=5 then (if (v:Int)=w then bgAt B d.bag v*cntP (A.map spOf) c (drawB B d.bag v) else 0) else bgAt B d.bag v*cntP (A.map spOf) (w::c) (drawB B d.bag v):=fun v=>by
        rw[←hF]
        unfold cntW
        rw[hs2]
        by_cases h5:d.kind=5
        · rw[if_pos h5,if_pos (by simp[h5])];rfl
        · rw[if_neg h5,if_neg (by simp;omega)];rfl
       refine RawC.walk (H:=hint92 Try.prog) ir92 Try.func92 rfl rfl rfl ?_
       unfold ir92
       repeat' (first
        | with_reducible (first | refine Rd.p ?_ | refine w_alt ?_ ?_ | refine zE ?_ | refine zE0 ?_)
        | (first | (refine w_boxN rfl hl ?_;intro g2) | refine w_ixP (f:=fun d:Dl=>[AV.int .i64 d.kind,.int .i64 d.bag,.int .i64 d.other,.int .i64 d.wood,.int .i64 d.count]) (l:=d::A) (pre:=[]) (y:=d) (post:=A) rfl rfl rfl ?_ | refine w_ixP (f:=fun x:Int=>[AV.int .i64 x]) (l:=w::c) (pre:=[]) (y:=w) (post:=c) rfl rfl rfl ?_ | refine w_ldN rfl rfl hl ?_ | refine w_chkN rfl rfl hl rfl ?_ | refine w_slT (f:=fun d:Dl=>[AV.int .i64 d.kind,.int .i64 d.bag,.int .i64 d.other,.int .i64 d.wood,.int .i64 d.count]) rfl ?_ | refine w_sl1 rfl ?_)
        | with_reducible (first | refine zI fun y hy=>?_ | refine zL ?_ | refine zS ?_ | refine zA fun _=>?_ | refine zV ?_ | refine zC ?_ | refine zG ?_ | refine zU ?_ | refine zG0 ?_ | refine zU0 ?_ | refine zF ?_)
        | ((with_reducible refine acall_id ?_);refine ACall.val hds rfl rfl ?_)
        | with_reducible (first | refine zX ?_ | refine zD fun _=>?_ | refine zD0 ?_ | refine zN ?_ | refine zF0 ?_ | refine zX0 ?_ | refine z1 ?_ | refine z2 ?_ | refine z3 ?_ | refine z4 ?_ | refine z5 ?_ | refine z6 ?_ | refine z7 ?_ | refine z8 ?_ | refine y1 ?_ | refine y2 ?_ | refine y3 ?_ | refine y4 ?_ | refine y5 ?_ | refine y6 ?_ | refine y7 ?_ | refine y8 ?_ | refine Rt.p (fun _=>?_) fun _=>?_)
        | ((with_reducible apply w_ixM);(focus exact rfl);(focus exact rfl);case' hk=>intro y hy) | ((with_reducible (first | apply w_val | apply q_ends));(focus exact rfl)))
       all_goals try (exfalso;omega)
       refine w_loopK [0,2,4,7] [4,7] (fun v:Nat=>v≤6) (fun v=>6-v) (fun v=>[(9,.int .i64 (v:Int)),(8,.int .i64 (nSum v F))]) (fun _=>[]) 0 (Nat.zero_le _) ⟨rfl,rfl,trivial⟩ trivial ?_
       rintro v hv e σ
       try dsimp only at hv ⊢
       by_cases hv6:v=6
       · subst hv6
         repeat' (first
          | with_reducible (first | refine Rd.p ?_ | refine w_alt ?_ ?_ | refine zE ?_ | refine zE0 ?_)
          | with_reducible (first | refine zI fun y hy=>?_ | refine zL ?_ | refine zS ?_ | refine zA fun _=>?_ | refine zV ?_ | refine zC ?_ | refine zG ?_ | refine zU ?_ | refine zG0 ?_ | refine zU0 ?_ | refine zF ?_)
          | with_reducible (first | refine zX ?_ | refine zD fun _=>?_ | refine zD0 ?_ | refine zN ?_ | refine zF0 ?_ | refine zX0 ?_ | refine z1 ?_ | refine z2 ?_ | refine z3 ?_ | refine z4 ?_ | refine z5 ?_ | refine z6 ?_ | refine z7 ?_ | refine z8 ?_ | refine y1 ?_ | refine y2 ?_ | refine y3 ?_ | refine y4 ?_ | refine y5 ?_ | refine y6 ?_ | refine y7 ?_ | refine y8 ?_ | refine Rt.p (fun _=>?_) fun _=>?_)
          | ((with_reducible apply w_ixM);(focus exact rfl);(focus exact rfl);case' hk=>intro y hy) | ((with_reducible (first | apply w_val | apply q_ends));(focus exact rfl)))
         all_goals first
          | (exfalso;omega)
          | rfl
       have hfv:=hFv v
       have hb1:=hFb v (by omega)
       have hb2:=hFb (v+1) (by omega)
       have hb3:=hF0 v (by omega)
       have hsuc:nSum (v+1) F=nSum v F+F v:=rfl
       have hat:=hin.at (d.bag.toNat*6+v)
       have ho:0+d.bag.toNat*6+v*1=d.bag.toNat*6+v:=by omega
       have hpl2:d.bag.toNat*6+v<B.length:=by omega
       have hbv:bgAt B d.bag v=B.getD (d.bag.toNat*6+v) 0:=rfl
       rw[hbv] at hfv
       by_cases h0:B.getD (d.bag.toNat*6+v) 0=0
       · have hz0:F v=0:=by
          rw[hfv,h0]
          simp only[Int.zero_mul]
          split
          · split<;>rfl
          · rfl
         repeat' (first
          | with_reducible (first | refine Rd.p ?_ | refine w_alt ?_ ?_ | refine zE ?_ | refine zE0 ?_)
          | (first | (refine w_boxN rfl hl ?_;intro g2) | refine w_ixP (f:=fun d:Dl=>[AV.int .i64 d.kind,.int .i64 d.bag,.int .i64 d.other,.int .i64 d.wood,.int .i64 d.count]) (l:=d::A) (pre:=[]) (y:=d) (post:=A) rfl rfl rfl ?_ | refine w_ixP (f:=fun x:Int=>[AV.int .i64 x]) (l:=w::c) (pre:=[]) (y:=w) (post:=c) rfl rfl rfl ?_ | refine w_ldN rfl rfl hl ?_ | refine w_chkN rfl rfl hl rfl ?_ | refine w_slT (f:=fun d:Dl=>[AV.int .i64 d.kind,.int .i64 d.bag,.int .i64 d.other,.int .i64 d.wood,.int .i64 d.count]) rfl ?_ | refine w_sl1 rfl ?_ | refine w_ldEl rfl ho rfl hpl2 ?_ | refine w_chkEl rfl ho rfl hpl2 rfl ?_)
          | with_reducible (first | refine zI fun y hy=>?_ | refine zL ?_ | refine zS ?_ | refine zA fun _=>?_ | refine zV ?_ | refine zC ?_ | refine zG ?_ | refine zU ?_ | refine zG0 ?_ | refine zU0 ?_ | refine zF ?_)
          | with_reducible (first | refine zX ?_ | refine zD fun _=>?_ | refine zD0 ?_ | refine zN ?_ | refine zF0 ?_ | refine zX0 ?_ | refine z1 ?_ | refine z2 ?_ | refine z3 ?_ | refine z4 ?_ | refine z5 ?_ | refine z6 ?_ | refine z7 ?_ | refine z8 ?_ | refine y1 ?_ | refine y2 ?_ | refine y3 ?_ | refine y4 ?_ | refine y5 ?_ | refine y6 ?_ | refine y7 ?_ | refine y8 ?_ | refine Rt.p (fun _=>?_) fun _=>?_)
          | ((with_reducible apply w_ixM);(focus exact rfl);(focus exact rfl);case' hk=>intro y hy) | ((with_reducible (first | apply w_val | apply q_ends));(focus exact rfl)))
         all_goals first
          | (exfalso;omega)
          | exact q_loop (v+1) (by show v+1≤6;omega) (by show 6-(v+1)<6-v;omega) ⟨int_eq (by simp),by show AV.int .i64 _=AV.int .i64 _;exact int_eq (by rw[hsuc,hz0];omega),trivial⟩ (by repeat' (first | exact slots_nil | apply slots_cons | rfl | (rw[map_snoc];rfl) | (rw[len_snoc];rfl) | (rw[hS];rfl) | (rw[hS,map_snoc];rfl) | (refine int_eq ?_;(try dsimp only);omega) | (refine congrArg AV.bool ?_;simp_all;done))) (by repeat' (first | exact kept_nil | apply kept_cons | rfl)) (by repeat' (first | exact kept_nil | apply kept_cons | rfl))
       have hB2:=hB.draw ht.l hn hb (w:=(v:Int)) (by omega) (by omega)
       rw[←hbe] at hB2
       have hr3:=rwithout_c B hin d.bag v hb (by omega)
       by_cases h5:d.kind=5
       · rw[if_pos h5] at hfv
         by_cases hvw:(v:Int)=w
         · rw[if_pos hvw] at hfv
           have ih:=rcount_c n hn A _ _ _ c _ (.inr rfl) ht2 hr.2 hB2 (by omega) (by omega)
           rw[hfv] at hb3 hsuc
           repeat' (first
            | with_reducible (first | refine Rd.p ?_ | refine w_alt ?_ ?_ | refine zE ?_ | refine zE0 ?_)
            | (first | (refine w_boxN rfl hl ?_;intro g2) | refine w_ixP (f:=fun d:Dl=>[AV.int .i64 d.kind,.int .i64 d.bag,.int .i64 d.other,.int .i64 d.wood,.int .i64 d.count]) (l:=d::A) (pre:=[]) (y:=d) (post:=A) rfl rfl rfl ?_ | refine w_ixP (f:=fun x:Int=>[AV.int .i64 x]) (l:=w::c) (pre:=[]) (y:=w) (post:=c) rfl rfl rfl ?_ | refine w_ldN rfl rfl hl ?_ | refine w_chkN rfl rfl hl rfl ?_ | refine w_slT (f:=fun d:Dl=>[AV.int .i64 d.kind,.int .i64 d.bag,.int .i64 d.other,.int .i64 d.wood,.int .i64 d.count]) rfl ?_ | refine w_sl1 rfl ?_ | refine w_ldEl rfl ho rfl hpl2 ?_ | refine w_chkEl rfl ho rfl hpl2 rfl ?_)
            | with_reducible (first | refine zI fun y hy=>?_ | refine zL ?_ | refine zS ?_ | refine zA fun _=>?_ | refine zV ?_ | refine zC ?_ | refine zG ?_ | refine zU ?_ | refine zG0 ?_ | refine zU0 ?_ | refine zF ?_)
            | ((with_reducible refine acall_id ?_);refine ACall.bg2b hr3 rfl ?_)
            | ((with_reducible refine acall_id ?_);refine ACall.cnt ih rfl rfl ?_)
            | with_reducible (first | refine zX ?_ | refine zD fun _=>?_ | refine zD0 ?_ | refine zN ?_ | refine zF0 ?_ | refine zX0 ?_ | refine z1 ?_ | refine z2 ?_ | refine z3 ?_ | refine z4 ?_ | refine z5 ?_ | refine z6 ?_ | refine z7 ?_ | refine z8 ?_ | refine y1 ?_ | refine y2 ?_ | refine y3 ?_ | refine y4 ?_ | refine y5 ?_ | refine y6 ?_ | refine y7 ?_ | refine y8 ?_ | refine Rt.p (fun _=>?_) fun _=>?_)
            | ((with_reducible apply w_ixM);(focus exact rfl);(focus exact rfl);case' hk=>intro y hy) | ((with_reducible (first | apply w_val | apply q_ends));(focus exact rfl)))
           all_goals first
            | (exfalso;omega)
            | exact q_loop (v+1) (by show v+1≤6;omega) (by show 6-(v+1)<6-v;omega) ⟨int_eq (by simp),by show AV.int .i64 _=AV.int .i64 _;exact int_eq hsuc.symm,trivial⟩ (by repeat' (first | exact slots_nil | apply slots_cons | rfl | (rw[map_snoc];rfl) | (rw[len_snoc];rfl) | (rw[hS];rfl) | (rw[hS,map_snoc];rfl) | (refine int_eq ?_;(try dsimp only);omega) | (refine congrArg AV.bool ?_;simp_all;done))) (by repeat' (first | exact kept_nil | apply kept_cons | rfl)) (by repeat' (first | exact kept_nil | apply kept_cons | rfl))
         · rw[if_neg hvw] at hfv
           repeat' (first
            | with_reducible (first | refine Rd.p ?_ | refine w_alt ?_ ?_ | refine zE ?_ | refine zE0 ?_)
            | (first | (refine w_boxN rfl hl ?_;intro g2) | refine w_ixP (f:=fun d:Dl=>[AV.int .i64 d.kind,.int .i64 d.bag,.int .i64 d.other,.int .i64 d.wood,.int .i64 d.count]) (l:=d::A) (pre:=[]) (y:=d) (post:=A) rfl rfl rfl ?_ | refine w_ixP (f:=fun x:Int=>[AV.int .i64 x]) (l:=w::c) (pre:=[]) (y:=w) (post:=c) rfl rfl rfl ?_ | refine w_ldN rfl rfl hl ?_ | refine w_chkN rfl rfl hl rfl ?_ | refine w_slT (f:=fun d:Dl=>[AV.int .i64 d.kind,.int .i64 d.bag,.int .i64 d.other,.int .i64 d.wood,.int .i64 d.count]) rfl ?_ | refine w_sl1 rfl ?_ | refine w_ldEl rfl ho rfl hpl2 ?_ | refine w_chkEl rfl ho rfl hpl2 rfl ?_)
            | with_reducible (first | refine zI fun y hy=>?_ | refine zL ?_ | refine zS ?_ | refine zA fun _=>?_ | refine zV ?_ | refine zC ?_ | refine zG ?_ | refine zU ?_ | refine zG0 ?_ | refine zU0 ?_ | refine zF ?_)
            | with_reducible (first | refine zX ?_ | refine zD fun _=>?_ | refine zD0 ?_ | refine zN ?_ | refine zF0 ?_ | refine zX0 ?_ | refine z1 ?_ | refine z2 ?_ | refine z3 ?_ | refine z4 ?_ | refine z5 ?_ | refine z6 ?_ | refine z7 ?_ | refine z8 ?_ | refine y1 ?_ | refine y2 ?_ | refine y3 ?_ | refine y4 ?_ | refine y5 ?_ | refine y6 ?_ | refine y7 ?_ | refine y8 ?_ | refine Rt.p (fun _=>?_) fun _=>?_)
            | ((with_reducible apply w_ixM);(focus exact rfl);(focus exact rfl);case' hk=>intro y hy) | ((with_reducible (first | apply w_val | apply q_ends));(focus exact rfl)))
           all_goals first
            | (exfalso;omega)
            | exact q_loop (v+1) (by show v+1≤6;omega) (by show 6-(v+1)<6-v;omega) ⟨int_eq (by simp),by show AV.int .i64 _=AV.int .i64 _;exact int_eq (by rw[hsuc,hfv];omega),trivial⟩ (by repeat' (first | exact slots_nil | apply slots_cons | rfl | (rw[map_snoc];rfl) | (rw[len_snoc];rfl) | (rw[hS];rfl) | (rw[hS,map_snoc];rfl) | (refine int_eq ?_;(try dsimp only);omega) | (refine congrArg AV.bool ?_;simp_all;done))) (by repeat' (first | exact kept_nil | apply kept_cons | rfl)) (by repeat' (first | exact kept_nil | apply kept_cons | rfl))
       · rw[if_neg h5] at hfv
         have ih:=rcount_c n hn A _ _ _ (w::c) _ (.inr rfl) ht2 hr.2 hB2 (by omega) (by omega)
         rw[hfv] at hb3 hsuc
         repeat' (first
          | with_reducible (first | refine Rd.p ?_ | refine w_alt ?_ ?_ | refine zE ?_ | refine zE0 ?_)
          | (first | (refine w_boxN rfl hl ?_;intro g2) | refine w_ixP (f:=fun d:Dl=>[AV.int .i64 d.kind,.int .i64 d.bag,.int .i64 d.other,.int .i64 d.wood,.int .i64 d.count]) (l:=d::A) (pre:=[]) (y:=d) (post:=A) rfl rfl rfl ?_ | refine w_ixP (f:=fun x:Int=>[AV.int .i64 x]) (l:=w::c) (pre:=[]) (y:=w) (post:=c) rfl rfl rfl ?_ | refine w_ldN rfl rfl hl ?_ | refine w_chkN rfl rfl hl rfl ?_ | refine w_slT (f:=fun d:Dl=>[AV.int .i64 d.kind,.int .i64 d.bag,.int .i64 d.other,.int .i64 d.wood,.int .i64 d.count]) rfl ?_ | refine w_sl1 rfl ?_ | refine w_ldEl rfl ho rfl hpl2 ?_ | refine w_chkEl rfl ho rfl hpl2 rfl ?_)
          | with_reducible (first | refine zI fun y hy=>?_ | refine zL ?_ | refine zS ?_ | refine zA fun _=>?_ | refine zV ?_ | refine zC ?_ | refine zG ?_ | refine zU ?_ | refine zG0 ?_ | refine zU0 ?_ | refine zF ?_)
          | ((with_reducible refine acall_id ?_);refine ACall.bg2b hr3 rfl ?_)
          | ((with_reducible refine acall_id ?_);refine ACall.cnt ih rfl rfl ?_)
          | with_reducible (first | refine zX ?_ | refine zD fun _=>?_ | refine zD0 ?_ | refine zN ?_ | refine zF0 ?_ | refine zX0 ?_ | refine z1 ?_ | refine z2 ?_ | refine z3 ?_ | refine z4 ?_ | refine z5 ?_ | refine z6 ?_ | refine z7 ?_ | refine z8 ?_ | refine y1 ?_ | refine y2 ?_ | refine y3 ?_ | refine y4 ?_ | refine y5 ?_ | refine y6 ?_ | refine y7 ?_ | refine y8 ?_ | refine Rt.p (fun _=>?_) fun _=>?_)
          | ((with_reducible apply w_ixM);(focus exact rfl);(focus exact rfl);case' hk=>intro y hy) | ((with_reducible (first | apply w_val | apply q_ends));(focus exact rfl)))
         all_goals first
          | (exfalso;omega)
          | exact q_loop (v+1) (by show v+1≤6;omega) (by show 6-(v+1)<6-v;omega) ⟨int_eq (by simp),by show AV.int .i64 _=AV.int .i64 _;exact int_eq hsuc.symm,trivial⟩ (by repeat' (first | exact slots_nil | apply slots_cons | rfl | (rw[map_snoc];rfl) | (rw[len_snoc];rfl) | (rw[hS];rfl) | (rw[hS,map_snoc];rfl) | (refine int_eq ?_;(try dsimp only);omega) | (refine congrArg AV.bool ?_;simp_all;done))) (by repeat' (first | exact kept_nil | apply kept_cons | rfl)) (by repeat' (first | exact kept_nil | apply kept_cons | rfl))
theorem upd_comm {σ:Sig} {p q:Nat} {x y:Nat×Res} (h:p≠q):upd (upd σ p x) q y=upd (upd σ q y) p x:=by
 funext j
 simp only[upd_eq]
 by_cases h1:j=q
 · subst h1;rw[if_pos rfl,if_neg (fun e=>h e.symm),if_pos rfl]
 · rw[if_neg h1,if_neg h1]
theorem allL_len (n:Nat):∀k:Nat,(allL n k).length=n^k
 | 0=>rfl
 | k+1=>by
   rw[allL,List.length_flatMap]
   have:(List.range n).map (fun (w:Nat)=>((allL n k).map fun l=>(w:Int)::l).length)=(List.range n).map fun _=>n^k:=by
    refine List.map_congr_left fun w _=>?_
    rw[List.length_map,allL_len n k]
   rw[this,List.map_const',List.length_range,List.sum_replicate_nat,Nat.pow_succ,Nat.mul_comm]
theorem crsO_ok {X:Gm} (hX:gmErr X=0) {a b:Nat} (hn:X.ws.length≤a) (hc:censG (stepsG X.ds)≤b) (h:a^b≤5000):crsO X=(crsG X,0):=by
 have h1:=gm_ok hX
 have hl:(crsG X).length≤X.ws.length^censG (stepsG X.ds):=by
  rw[crsG_list h1,List.length_map]
  refine Nat.le_trans (List.length_filter_le _ _) ?_
  rw[allL_len];exact Nat.le_refl _
 have h2:X.ws.length^censG (stepsG X.ds)≤a^censG (stepsG X.ds):=Nat.pow_le_pow_left hn _
 have h3:a^censG (stepsG X.ds)≤a^b:=Nat.pow_le_pow_right (by have:=h1.n1;omega) hc
 unfold crsO
 rw[if_pos hX,if_pos (by omega)]
section
variable {P:Program}
variable {α:Type} {row:α→List AV} {sz:Nat}
theorem frzL_app (i g:Nat) (c:List AV):∀l m:List AV,frzL i g c (l++m)=frzL i g c l++frzL i g c m
 | [],m=>rfl
 | a::l,m=>by rw[List.cons_append,frzL,frzL,frzL_app i g c l m];rfl
theorem FlatR.frzs (h:FlatR row sz) (i g:Nat) (c:List AV):∀xs:List α,frzL i g c (xs.map row).flatten=(xs.map row).flatten
 | []=>rfl
 | x::xs=>by rw[List.map_cons,List.flatten_cons,frzL_app,h.frz,h.frzs i g c xs]
theorem renL_app (ρ:List (Nat×Nat)):∀l m:List AV,renL ρ (l++m)=renL ρ l++renL ρ m
 | [],m=>rfl
 | a::l,m=>by rw[List.cons_append,renL,renL,renL_app ρ l m];rfl
theorem FlatR.rens (h:FlatR row sz) (ρ:List (Nat×Nat)):∀xs:List α,renL ρ (xs.map row).flatten=(xs.map row).flatten
 | []=>rfl
 | x::xs=>by rw[List.map_cons,List.flatten_cons,renL_app,h.ren,h.rens ρ xs]
theorem FlatR.scals (h:FlatR row sz):∀xs:List α,(xs.map row).flatten.all AV.scal=true
 | []=>rfl
 | x::xs=>by rw[List.map_cons,List.flatten_cons,List.all_append,h.scal,h.scals xs];rfl
theorem FlatR.get (h:FlatR row sz) {pre post:List α} {y:α} {j:Nat} (hj:j<sz):((pre++y::post).map row).flatten[pre.length*sz+j]?=(row y)[j]?:=by
 rw[List.map_append,List.map_cons,List.flatten_append,List.flatten_cons,List.getElem?_append_right (by rw[h.flat_len];omega),h.flat_len,Nat.add_sub_cancel_left,List.getElem?_append_left (by rw[h.len];exact hj)]
theorem w_apmR {K:(Nat→AV)→Sig→Prop} {e:Nat→AV} {σ:Sig} {x y:IOpd} {r:List IStep} {d i bytes:Nat} {x0:α} {xs:List α} {t:Tag} (hx:x.ev e= .slc sz [] .full) (hy:y.ev e= .slc sz ((x0::xs).map row) t) (hb:(x0::xs).length*bytes≤140737488355328)
  (hk:∀g,stepsW P r K (upd e d (.msl i g (x0::xs).length sz)) (newS σ i g ((x0::xs).map row).flatten)):stepsW P (⟨some d,none,.apm sz bytes x y i⟩::r) K e σ:=by
 have hl:((x0::xs).map row).length=(x0::xs).length:=by simp
 refine w_det (p:=sz=sz∧sz=sz∧(0+((x0::xs).map row).length)*bytes≤140737488355328) (v:=fun g=> .msl i g (x0::xs).length sz) (σ':=fun g=>newS σ i g ((x0::xs).map row).flatten) (fun g=>?_) ⟨rfl,rfl,by rw[hl,Nat.zero_add];exact hb⟩ hk
 show (match baseM sz σ (x.ev e),rowsO sz (y.ev e) with
  | some (p,n,c,σ'),some (q,ys)=>(match ys with
    | []=>some (p∧q,x.ev e,σ)
    | _::_=>some (p∧q∧(n+ys.length)*bytes≤140737488355328,AV.msl i g (n+ys.length) sz,newS σ' i g (c++ys.flatten)))
  | some (p,n,c,σ'),none=>(match rowsM sz σ (y.ev e) with
    | some (q,m,ys)=>some (p∧q∧(n+m)*bytes≤140737488355328,AV.msl i g (n+m) sz,newS σ' i g (c++ys))
    | none=>none)
  | _,_=>none)=_
 rw[hx,hy]
 simp only[baseM,rowsO,List.map_cons,List.length_cons,List.length_map,Nat.zero_add,List.nil_append]
theorem w_ldM {K:(Nat→AV)→Sig→Prop} {e:Nat→AV} {σ:Sig} {x:IOpd} {d:Nat} {r:List IStep} {i g off:Nat} {pre post:List α} {y:α} {j:Nat} {c:AV} (hR:FlatR row sz) (hx:x.ev e= .ref i g off) (hσ:σ i=(g,.row ((pre++y::post).map row).flatten)) (ho:off=pre.length*sz+j) (hj:j<sz) (hc:(row y)[j]?=some c) (hf:forceA c=some c)
  (hk:stepsW P r K (upd e d c) σ):stepsW P (⟨some d,none,.ld 1 false x⟩::r) K e σ:=by
 refine w_val (p:=g=g∧True) (v:=c) ?_ ⟨rfl,trivial⟩ hk
 show ldO 1 false σ (x.ev e)=_
 rw[hx]
 have h1:((pre++y::post).map row).flatten[off]?=some c:=by rw[ho,hR.get hj,hc]
 simp only[ldO,hσ,partO,h1,hf,liftV,okV]
theorem w_stM {K:(Nat→AV)→Sig→Prop} {e:Nat→AV} {σ:Sig} {x v:IOpd} {r:List IStep} {i g off:Nat} {pre post:List α} {y y':α} {j:Nat} {c:AV} (hR:FlatR row sz) (hx:x.ev e= .ref i g off) (hσ:σ i=(g,.row ((pre++y::post).map row).flatten)) (ho:off=pre.length*sz+j) (hj:j<sz) (hv:cellsO 1 (v.ev e)=some (1=1,[c])) (hy:(row y).set j c=row y')
  (hk:stepsW P r K e (upd σ i (g,.row ((pre++y'::post).map row).flatten))):stepsW P (⟨none,none,.st 1 x v⟩::r) K e σ:=by
 have hlen:=hR.flat_len (pre++y::post)
 refine w_det0 (p:=g=g∧1=1∧off+1≤((pre++y::post).map row).flatten.length) (v:= .junk) (σ':=upd σ i (g,.row (setL ((pre++y::post).map row).flatten off [c]))) (fun _=>?_) ⟨rfl,rfl,?_⟩ ?_
 · show stO 1 σ (v.ev e) (x.ev e)=_
   rw[hx]
   simp only[stO,hv,hσ]
 · rw[hlen,ho,List.length_append,List.length_cons,Nat.add_mul,Nat.add_mul];omega
 · rw[setL_one,ho,hR.set hj hy];exact hk
theorem zLd {K:(Nat→AV)→Sig→Prop} {e:Nat→AV} {σ:Sig} {x:IOpd} {d:Nat} {r:List IStep} {g off:Nat} {pre post:List α} {y:α} {c:AV} (hR:FlatR row sz) (i j:Nat) (hk:stepsW P r K (upd e d c) σ) (hx:x.ev e= .ref i g off:=by with_unfolding_all exact rfl) (hσ:σ i=(g,.row ((pre++y::post).map row).flatten):=by with_unfolding_all exact rfl) (ho:off=pre.length*sz+j:=by simp<;>fail) (hj:j<sz:=by omega) (hc:(row y)[j]?=some c:=by with_unfolding_all exact rfl) (hf:forceA c=some c:=by with_unfolding_all exact rfl):stepsW P (⟨some d,none,.ld 1 false x⟩::r) K e σ:=w_ldM hR hx hσ ho hj hc hf hk
theorem ACall.liftNS {f:Nat} {args0 args:List AV} {l0:List (Nat×(Nat×Res))} {σ:Sig} {β:Type} {V:β→AV→Prop} {L:β→List (Nat×(Nat×Res))} {d:Nat} {Q:AV→Sig→Prop} (h:RawC P f args0 (sg l0) (SR V L)) (ρi os:List (Nat×Nat)) (hos:outsB d os=true) (hr:renOK (os++ρi)=true)
  (ha:args0=renL (flipL ρi) args) (h0:l0=pull (flipL ρi) σ ρi) (hl:liveL σ ρi) (hc:∀x,covers (L x) (os++ρi)=true) (hQ:∀x av,V x av→Q (ren (os++ρi) av) (pushV (os++ρi) (L x) (os++ρi) σ)):ACall P f args σ d Q:=
 ACall.liftN h ρi os hos hr ha h0 hl fun av σ0' ⟨x,hV,hs⟩=>by rw[push_slots hs (hc x)];exact hQ x av hV
theorem w_frzP {β:Type} {row2:β→List AV} {sz2:Nat} {Q:Post} {e:Nat→AV} {σ:Sig} {b:IR} {t1 t2 i g j h s gb u ub n1 n2:Nat} {xs:List α} {ys:List β} {cu:List AV} (hR:FlatR row sz) (hR2:FlatR row2 sz2) (hij:i≠j) (his:i≠s) (hjs:j≠s) (hiu:i≠u) (hju:j≠u) (hn1:xs.length=n1) (hn2:ys.length=n2)
  (h1:e t1= .msl i g n1 sz) (h2:e t2= .msl j h n2 sz2) (hb:e s= .ref s gb 0) (hu:e u= .ref u ub 0) (hσi:σ i=(g,.row (xs.map row).flatten)) (hσj:σ j=(h,.row (ys.map row2).flatten)) (hσs:σ s=(gb,.row [.msl i g n1 sz,.msl j h n2 sz2])) (hσu:σ u=(ub,.row cu)) (hcu:∀i g c,frzL i g c cu=cu)
  (hk:∀e' σ',awp P b Q (updL [(s,.ref s gb 0),(u,.ref u ub 0)] e') (updL [(s,(gb,.row [.slc sz (xs.map row) .non,.slc sz2 (ys.map row2) .non])),(u,(ub,.row cu))] σ')):awp P (.seq (.frz (.t t1)) (.seq (.frz (.t t2)) b)) Q e σ:=by
 subst hn1;subst hn2
 have hl1:=hR.flat_len xs
 have hl2:=hR2.flat_len ys
 show frzW (e t1) e σ (seqQ (awp P (.seq (.frz (.t t2)) b) Q) Q .nor)
 rw[h1]
 show (match σ i with | (g',.row c)=>g=g'∧c.all AV.scal=true∧seqQ (awp P (.seq (.frz (.t t2)) b) Q) Q .nor (frzE i g c e) (frzS i g c σ) | _=>False)
 rw[hσi]
 refine⟨rfl,hR.scals xs,?_⟩
 have hji:j≠i:=Ne.symm hij
 have e2:frzE i g (xs.map row).flatten e t2= .msl j h ys.length sz2:=by simp[frzE,h2,frzA,hji]
 have s2:frzS i g (xs.map row).flatten σ j=(h,.row (ys.map row2).flatten):=by simp[frzS,hji,hσj,frzR,hR2.frzs]
 show frzW (frzE i g (xs.map row).flatten e t2) (frzE i g (xs.map row).flatten e) (frzS i g (xs.map row).flatten σ) (seqQ (awp P b Q) Q .nor)
 rw[e2]
 show (match frzS i g (xs.map row).flatten σ j with | (g',.row c)=>h=g'∧c.all AV.scal=true∧seqQ (awp P b Q) Q .nor (frzE j h c (frzE i g (xs.map row).flatten e)) (frzS j h c (frzS i g (xs.map row).flatten σ)) | _=>False)
 rw[s2]
 refine⟨rfl,hR2.scals ys,?_⟩
 have es:frzE j h (ys.map row2).flatten (frzE i g (xs.map row).flatten e) s= .ref s gb 0:=by simp[frzE,hb,frzA,Ne.symm his,Ne.symm hjs]
 have eu:frzE j h (ys.map row2).flatten (frzE i g (xs.map row).flatten e) u= .ref u ub 0:=by simp[frzE,hu,frzA,Ne.symm hiu,Ne.symm hju]
 have ss:frzS j h (ys.map row2).flatten (frzS i g (xs.map row).flatten σ) s=(gb,.row [.slc sz (xs.map row) .non,.slc sz2 (ys.map row2) .non]):=by
  simp[frzS,Ne.symm his,Ne.symm hjs,hσs,frzR,frzL,frzA,hl1,hl2,hR.chunk,hR2.chunk,hji]
 have su:frzS j h (ys.map row2).flatten (frzS i g (xs.map row).flatten σ) u=(ub,.row cu):=by
  simp[frzS,Ne.symm hiu,Ne.symm hju,hσu,frzR,hcu]
 have hk2:=hk (frzE j h (ys.map row2).flatten (frzE i g (xs.map row).flatten e)) (frzS j h (ys.map row2).flatten (frzS i g (xs.map row).flatten σ))
 have x1:slots [(s,.ref s gb 0),(u,.ref u ub 0)] (frzE j h (ys.map row2).flatten (frzE i g (xs.map row).flatten e)):=⟨es,eu,trivial⟩
 have x2:slots [(s,(gb,.row [.slc sz (xs.map row) .non,.slc sz2 (ys.map row2) .non])),(u,(ub,.row cu))] (frzS j h (ys.map row2).flatten (frzS i g (xs.map row).flatten σ)):=⟨ss,su,trivial⟩
 rw[updL_slots x1,updL_slots x2] at hk2
 exact hk2
end
def ir29:IFn:=
 ⟨19,[(4,none)],(.seq (.ops [oo 4 (.mov (kI 0))])
 (.seq (.seq (.ops [oo 5 (.mov (kI 0))])
 (.blk 0 (.loop (.seq (.seq (.ops [oo 6 (.mov 5),
 oo 7 (.mov 0),
 oo 8 (.len false 7),
 oo 9 (.bin .lss 6 8)])
 (.cnd 9
 .skip
 (.exit 0)))
 (.seq (.blk 1 (.seq (.ops [oo 12 (.mov 0),
 oo 13 (.mov 5),
 oo 14 (.ixA 1 12 13),
 oo 15 (.ld 1 false 14),
 oo 16 (.mov 1),
 oo 17 (.callF 24 [15,16])])
 (.cnd 17
 (.seq (.ops [oo 18 (.mov 5),
 oo 4 (.mov 18)])
 .ret)
 .skip)))
 (.ops [oo 10 (.mov 5),
 oo 11 (.bin .add 10 (kI 1)),
 oo 5 (.mov 11)]))))))
 (.seq (.ops [oo 4 (.mov (.k (.int .i64 (-1))))])
 .ret)))⟩
def hint29 (P:Program):Hint:={}
def ir35:IFn:=
 ⟨32,[(6,none),(7,none)],(.seq (.ops [oo 3 (.box 2 0),
 oo 4 (.box 2 1),
 oo 6 (.mov (.k .nsl)),
 oo 7 (.mov (kI 0))])
 (.seq (.seq (.ops [oo 11 (.ld 2 true 3),
 oo 12 (.callF 18 [11]),
 oo 8 (.mov 12)])
 (.seq (.ops [oo 13 (.mov 8),
 oo 14 (.bin .neq 13 (kI 0))])
 (.cnd 14
 (.seq (.ops [oo 15 (.mov 8),
 oo 6 (.mov (.k .nsl)),
 oo 7 (.mov 15)])
 .ret)
 .skip)))
 (.seq (.seq (.ops [oo 16 (.ld 2 true 3),
 oo 17 (.ld 2 true 4),
 oo 18 (.callF 69 [16,17]),
 oo 9 (.mov 18)])
 (.seq (.ops [oo 19 (.mov 9),
 oo 20 (.bin .neq 19 (kI 0))])
 (.cnd 20
 (.seq (.ops [oo 21 (.mov 9),
 oo 6 (.mov (.k .nsl)),
 oo 7 (.mov 21)])
 .ret)
 .skip)))
 (.seq (.seq (.ops [oo 22 (.ld 2 true 3),
 oo 23 (.mov 2),
 oo 24 (.callF 70 [22,23]),
 oo 10 (.mov 24)])
 (.seq (.ops [oo 25 (.mov 10),
 oo 26 (.bin .neq 25 (kI 0))])
 (.cnd 26
 (.seq (.ops [oo 27 (.mov 10),
 oo 6 (.mov (.k .nsl)),
 oo 7 (.mov 27)])
 .ret)
 .skip)))
 (.seq (.ops [oo 28 (.ld 2 true 3),
 oo 29 (.ld 2 true 4),
 oo 30 (.mov 2),
 oo 31 (.callF 71 [28,29,30]),
 oo 6 (.mov 31),
 oo 7 (.mov (kI 0))])
 .ret)))))⟩
def hint35 (P:Program):Hint:={}
def plcI (x:List Int):List (List Int)→Int→Int
 | [],_=> -1
 | y::r,k=>if y=x then k else plcI x r (k+1)
theorem plcI_mem {x:List Int}:∀{l:List (List Int)} {k:Int},x∈l→ ∃i:Nat,l[i]?=some x∧plcI x l k=k+i
 | y::r,k,h=>by
   rw[plcI]
   by_cases e:y=x
   · rw[if_pos e];exact⟨0,by rw[e];rfl,by omega⟩
   · rw[if_neg e]
     obtain⟨i,h1,h2⟩:=plcI_mem (k:=k+1) ((List.mem_cons.1 h).resolve_left fun h=>e h.symm)
     exact⟨i+1,by simpa using h1,by rw[h2];omega⟩
theorem place_c (l:List (List Int)) (x:List Int) (hl:l.length<1000000) (hx:∀y∈l,y.length<1000000):Fn0 Try.prog 29 [.slc 1 (llR l) .non,.slc 1 (iR x) .non] (fun v=>v= .int .i64 (plcI x l 0)):=by
 have hL:(llR l).length=l.length:=List.length_map _
 refine RawC.walk (H:=hint29 Try.prog) ir29 Try.func29 rfl rfl rfl ?_
 unfold ir29
 repeat' (first
  | with_reducible (first | refine Rd.p ?_ | refine w_alt ?_ ?_ | refine zE ?_ | refine zE0 ?_)
  | with_reducible (first | refine zI fun y hy=>?_ | refine zL ?_ | refine zS ?_ | refine zA fun _=>?_ | refine zV ?_ | refine zC ?_ | refine zG ?_ | refine zU ?_ | refine zG0 ?_ | refine zU0 ?_ | refine zF ?_)
  | with_reducible (first | refine zX ?_ | refine zD fun _=>?_ | refine zD0 ?_ | refine zN ?_ | refine zF0 ?_ | refine zX0 ?_ | refine z1 ?_ | refine z2 ?_ | refine z3 ?_ | refine z4 ?_ | refine z5 ?_ | refine z6 ?_ | refine z7 ?_ | refine z8 ?_ | refine y1 ?_ | refine y2 ?_ | refine y3 ?_ | refine y4 ?_ | refine y5 ?_ | refine y6 ?_ | refine y7 ?_ | refine y8 ?_ | refine Rt.p (fun _=>?_) fun _=>?_)
  | ((with_reducible apply w_ixM);(focus exact rfl);(focus exact rfl);case' hk=>intro y hy) | ((with_reducible (first | apply w_val | apply q_ends));(focus exact rfl)))
 all_goals try (exfalso;omega)
 refine w_loopK [0,1] [] (fun q:List (List Int)×List (List Int)=>l=q.1++q.2∧plcI x q.2 (q.1.length:Int)=plcI x l 0) (fun q=>q.2.length) (fun q=>[(5,.int .i64 (q.1.length:Int))]) (fun _=>[]) ([],l) ⟨rfl,rfl⟩ ⟨rfl,trivial⟩ trivial ?_
 rintro⟨pre,post⟩ ⟨hl2,hp⟩ e σ
 dsimp only at hl2 hp ⊢
 have hlen:=congrArg List.length hl2
 rw[List.length_append] at hlen
 cases post with
 | nil=>
   simp only[List.length_nil] at hlen
   rw[←hp]
   repeat' (first
    | with_reducible (first | refine Rd.p ?_ | refine w_alt ?_ ?_ | refine zE ?_ | refine zE0 ?_)
    | with_reducible (first | refine zI fun y hy=>?_ | refine zL ?_ | refine zS ?_ | refine zA fun _=>?_ | refine zV ?_ | refine zC ?_ | refine zG ?_ | refine zU ?_ | refine zG0 ?_ | refine zU0 ?_ | refine zF ?_)
    | with_reducible (first | refine zX ?_ | refine zD fun _=>?_ | refine zD0 ?_ | refine zN ?_ | refine zF0 ?_ | refine zX0 ?_ | refine z1 ?_ | refine z2 ?_ | refine z3 ?_ | refine z4 ?_ | refine z5 ?_ | refine z6 ?_ | refine z7 ?_ | refine z8 ?_ | refine y1 ?_ | refine y2 ?_ | refine y3 ?_ | refine y4 ?_ | refine y5 ?_ | refine y6 ?_ | refine y7 ?_ | refine y8 ?_ | refine Rt.p (fun _=>?_) fun _=>?_)
    | ((with_reducible apply w_ixM);(focus exact rfl);(focus exact rfl);case' hk=>intro y hy) | ((with_reducible (first | apply w_val | apply q_ends));(focus exact rfl)))
   all_goals first
    | (exfalso;omega)
    | rfl
 | cons y post=>
   simp only[List.length_cons] at hlen
   have hy:=hx y (by rw[hl2];simp)
   have hE:=eq_c y x (by omega)
   rw[plcI] at hp
   by_cases hyx:y=x
   · rw[if_pos hyx] at hp
     rw[decide_eq_true hyx] at hE
     rw[←hp]
     repeat' (first
      | with_reducible (first | refine Rd.p ?_ | refine w_alt ?_ ?_ | refine zE ?_ | refine zE0 ?_)
      | (first | refine w_ixP hl2 rfl rfl ?_)
      | with_reducible (first | refine zI fun y hy=>?_ | refine zL ?_ | refine zS ?_ | refine zA fun _=>?_ | refine zV ?_ | refine zC ?_ | refine zG ?_ | refine zU ?_ | refine zG0 ?_ | refine zU0 ?_ | refine zF ?_)
      | ((with_reducible refine acall_id ?_);refine ACall.val hE rfl rfl ?_)
      | with_reducible (first | refine zX ?_ | refine zD fun _=>?_ | refine zD0 ?_ | refine zN ?_ | refine zF0 ?_ | refine zX0 ?_ | refine z1 ?_ | refine z2 ?_ | refine z3 ?_ | refine z4 ?_ | refine z5 ?_ | refine z6 ?_ | refine z7 ?_ | refine z8 ?_ | refine y1 ?_ | refine y2 ?_ | refine y3 ?_ | refine y4 ?_ | refine y5 ?_ | refine y6 ?_ | refine y7 ?_ | refine y8 ?_ | refine Rt.p (fun _=>?_) fun _=>?_)
      | ((with_reducible apply w_ixM);(focus exact rfl);(focus exact rfl);case' hk=>intro y hy) | ((with_reducible (first | apply w_val | apply q_ends));(focus exact rfl)))
     all_goals first
      | (exfalso;omega)
      | rfl
   · rw[if_neg hyx] at hp
     rw[decide_eq_false hyx] at hE
     repeat' (first
      | with_reducible (first | refine Rd.p ?_ | refine w_alt ?_ ?_ | refine zE ?_ | refine zE0 ?_)
      | (first | refine w_ixP hl2 rfl rfl ?_)
      | with_reducible (first | refine zI fun y hy=>?_ | refine zL ?_ | refine zS ?_ | refine zA fun _=>?_ | refine zV ?_ | refine zC ?_ | refine zG ?_ | refine zU ?_ | refine zG0 ?_ | refine zU0 ?_ | refine zF ?_)
      | ((with_reducible refine acall_id ?_);refine ACall.val hE rfl rfl ?_)
      | with_reducible (first | refine zX ?_ | refine zD fun _=>?_ | refine zD0 ?_ | refine zN ?_ | refine zF0 ?_ | refine zX0 ?_ | refine z1 ?_ | refine z2 ?_ | refine z3 ?_ | refine z4 ?_ | refine z5 ?_ | refine z6 ?_ | refine z7 ?_ | refine z8 ?_ | refine y1 ?_ | refine y2 ?_ | refine y3 ?_ | refine y4 ?_ | refine y5 ?_ | refine y6 ?_ | refine y7 ?_ | refine y8 ?_ | refine Rt.p (fun _=>?_) fun _=>?_)
      | ((with_reducible apply w_ixM);(focus exact rfl);(focus exact rfl);case' hk=>intro y hy) | ((with_reducible (first | apply w_val | apply q_ends));(focus exact rfl)))
     all_goals first
      | (exfalso;omega)
      | exact q_loop (pre++[y],post) ⟨by show l=_;rw[hl2];simp,by dsimp only;rw[len_snoc,←hp];simp⟩ (Nat.lt_succ_self _) ⟨by rw[len_snoc];rfl,trivial⟩ (by repeat' (first | exact slots_nil | apply slots_cons | rfl | (rw[map_snoc];rfl) | (rw[len_snoc];rfl) | (rw[hS];rfl) | (rw[hS,map_snoc];rfl) | (refine int_eq ?_;(try dsimp only);omega) | (refine congrArg AV.bool ?_;simp_all;done))) (by repeat' (first | exact kept_nil | apply kept_cons | rfl)) (by repeat' (first | exact kept_nil | apply kept_cons | rfl))
section
variable {P:Program} {α:Type} {row:α→List AV} {sz:Nat}
theorem setL_get2 {β:Type}:∀(xs pre ys post:List β),xs.length=ys.length→setL (pre++ys++post) pre.length xs=pre++xs++post
 | [],pre,[],post,_=>rfl
 | [],pre,y::ys,post,h=>by simp at h
 | x::xs,pre,[],post,h=>by simp at h
 | x::xs,pre,y::ys,post,h=>by
   have e:(pre++(y::ys)++post).set pre.length x=(pre++[x])++ys++post:=by simp
   rw[setL,e,show pre.length+1=(pre++[x]).length by simp,setL_get2 xs (pre++[x]) ys post (by simpa using h)]
   simp
theorem FlatR.setRow (h:FlatR row sz) {pre post:List α} {y y':α}:setL ((pre++y::post).map row).flatten (pre.length*sz) (row y')=((pre++y'::post).map row).flatten:=by
 have e:∀z,((pre++z::post).map row).flatten=(pre.map row).flatten++row z++(post.map row).flatten:=fun z=>by simp
 rw[e,e,←h.flat_len pre];exact setL_get2 _ _ _ _ (by rw[h.len,h.len])
theorem w_stRow {K:(Nat→AV)→Sig→Prop} {e:Nat→AV} {σ:Sig} {x v:IOpd} {r:List IStep} {i g off:Nat} {xs:List α} {k:Nat} {y':α} (hR:FlatR row sz) (hx:x.ev e= .ref i g off) (hσ:σ i=(g,.row (xs.map row).flatten)) (ho:off=k*sz) (hk0:k<xs.length) (hv:v.ev e= .agg (row y'))
  (hk:stepsW P r K e (upd σ i (g,.row ((xs.set k y').map row).flatten))):stepsW P (⟨none,none,.st sz x v⟩::r) K e σ:=by
 have hlen:=hR.flat_len xs
 have hle:off+sz≤xs.length*sz:=by rw[ho,←Nat.succ_mul];exact Nat.mul_le_mul_right _ hk0
 refine w_det0 (p:=g=g∧((row y').length=sz∧(row y').all AV.scal=true)∧off+sz≤(xs.map row).flatten.length) (v:= .junk) (σ':=upd σ i (g,.row (setL (xs.map row).flatten off (row y')))) (fun _=>?_) ⟨rfl,⟨hR.len _,hR.scal _⟩,by rw[hlen];exact hle⟩ ?_
 · show stO sz σ (v.ev e) (x.ev e)=_
   rw[hx,hv];simp only[stO,cellsO,hσ]
 · have e1:xs=xs.take k++xs[k]::xs.drop (k+1):=by rw[List.getElem_cons_drop,List.take_append_drop]
   have e2:xs.set k y'=xs.take k++y'::xs.drop (k+1):=by rw[List.set_eq_take_append_cons_drop,if_pos hk0]
   have e3:(xs.take k).length=k:=by rw[List.length_take];omega
   have:=hR.setRow (pre:=xs.take k) (y:=xs[k]) (post:=xs.drop (k+1)) (y':=y')
   rw[e3,←e1,←e2] at this
   rw[ho,this];exact hk
end
theorem dlFl:FlatR Dl.row 5:=⟨fun _=>rfl,fun _=>rfl,fun _=>rfl,fun _ _ _ _=>rfl,fun _ _=>rfl⟩
def goV (s:Nat) (l:List (List Int×Int)) (h:Nat):AV:=match l with
 | []=> .nsl
 | _::_=> .slc 1 (llR (l.map (·.1))) (.own s h)
def goW (s:Nat) (l:List (List Int×Int)) (h:Nat):AV:=match l with
 | []=> .nsl
 | _::_=> .slc 1 (iR (l.map (·.2))) (.own s h)
def goX (l:List (List Int×Int)) (h:Nat):Nat×Res:=match l with
 | []=>(0,.dead)
 | _::_=>(h,.row [])
abbrev soR (G:Gm) (A:List Dl) (m:Int) (x y:AV):List AV:=[.slc 2 (wR G.ws) .non,.slc 5 (dlR G.ds) .non,.slc 5 (dlR A) .non,.int .i64 m,x,y]
abbrev soS (s g:Nat) (G:Gm) (A:List Dl) (m:Int) (l:List (List Int×Int)) (h1 h2:Nat):List (Nat×(Nat×Res)):=[(1000,(g,.row (soR G A m (goV s l h1) (goW (s+1) l h2)))),(s,goX l h1),(s+1,goX l h2)]
theorem ren_goV {ρ:List (Nat×Nat)} {s q:Nat} (h:lk ρ s=some q) (l:List (List Int×Int)) (g:Nat):ren ρ (goV s l g)=goV q l g:=by
 cases l with
 | nil=>rfl
 | cons x r=>
   show AV.slc 1 (llR ((x::r).map (·.1))) (renT ρ (.own s g))=_
   simp only[renT,h];rfl
theorem ren_goW {ρ:List (Nat×Nat)} {s q:Nat} (h:lk ρ s=some q) (l:List (List Int×Int)) (g:Nat):ren ρ (goW s l g)=goW q l g:=by
 cases l with
 | nil=>rfl
 | cons x r=>
   show AV.slc 1 (iR ((x::r).map (·.2))) (renT ρ (.own s g))=_
   simp only[renT,h];rfl
theorem goX_ren {ρ:List (Nat×Nat)} (l:List (List Int×Int)) (h:Nat):((goX l h).1,renR ρ (goX l h).2)=goX l h:=by cases l<;>rfl
theorem ACall.so {P:Program} {f:Nat} {args0 args:List AV} {s0 p g h1 h2 d:Nat} {G:Gm} {A:List Dl} {m:Int} {l:List (List Int×Int)} {C:List (List Int×Int)→Prop} {σ:Sig} {Q:AV→Sig→Prop}
  (h:RawC P f args0 (sg (soS s0 g G A m l h1 h2)) (SR (fun (x:List (List Int×Int)×Nat×Nat) _=>C x.1) (fun x=>soS s0 g G A m x.1 x.2.1 x.2.2)))
  (hp1:p≠2001) (hp2:p≠2002) (hr1:renOK [(s0,2001),(s0+1,2002),(1000,p)]=true) (hr2:renOK [(1000,p),(s0,2001),(s0+1,2002)]=true)
  (l1:lk [(s0,2001),(s0+1,2002),(1000,p)] s0=some 2001) (l2:lk [(s0,2001),(s0+1,2002),(1000,p)] (s0+1)=some 2002) (l3:lk [(1000,p),(s0,2001),(s0+1,2002)] s0=some 2001) (l4:lk [(1000,p),(s0,2001),(s0+1,2002)] (s0+1)=some 2002)
  (l5:lk (flipL [(1000,p),(s0,2001),(s0+1,2002)]) 2001=some s0) (l6:lk (flipL [(1000,p),(s0,2001),(s0+1,2002)]) 2002=some (s0+1))
  (n1:Nat.beq 1000 s0=false) (n2:Nat.beq 1000 (s0+1)=false) (n3:Nat.beq s0 (s0+1)=false)
  (ha1:args0=renL (flipL [(1000,p)]) args) (ha2:args0=renL (flipL [(1000,p),(s0,2001),(s0+1,2002)]) args)
  (hp:σ p=(g,.row (soR G A m (goV 2001 l h1) (goW 2002 l h2)))) (hσ1:σ 2001=goX l h1) (hσ2:σ 2002=goX l h2)
  (hQ:∀(x:List (List Int×Int)) (k1 k2:Nat) av,C x→Q av (upd (upd (upd σ 2002 (goX x k2)) 2001 (goX x k1)) p (g,.row (soR G A m (goV 2001 x k1) (goW 2002 x k2))))):ACall P f args σ d Q:=by
 have y1:Nat.ble YS 2001=true:=rfl
 have y2:Nat.ble YS 2002=true:=rfl
 have hos:outsB d [(s0,2001),(s0+1,2002)]=true:=by simp[outsB,y1,y2]
 cases l with
 | nil=>
   have e0:sg (soS s0 g G A m [] h1 h2)=sg [(1000,(g,.row (soR G A m .nsl .nsl)))]:=by
    funext j
    show (match Nat.beq 1000 j with | true=>_ | false=>(match Nat.beq s0 j with | true=>((0,Res.dead):Nat×Res) | false=>(match Nat.beq (s0+1) j with | true=>(0,.dead) | false=>(0,.dead))))=(match Nat.beq 1000 j with | true=>_ | false=>_)
    split
    · rfl
    · split
      · rfl
      · split<;>rfl
   rw[e0] at h
   refine ACall.liftN h [(1000,p)] [(s0,2001),(s0+1,2002)] hos hr1 ha1 ?_ ⟨⟨_,by rw[hp]⟩,trivial⟩ fun av σ0' hR=>?_
   · show _=[(1000,((σ p).1,renR _ (σ p).2))]
     rw[hp]
     rfl
   · obtain⟨⟨x,a,b⟩,hv,hsl⟩:=hR
     obtain⟨k1,k2,k3,-⟩:=hsl
     show Q _ (upd (upd (upd σ p ((σ0' 1000).1,renR [(s0,2001),(s0+1,2002),(1000,p)] (σ0' 1000).2)) 2002 ((σ0' (s0+1)).1,renR [(s0,2001),(s0+1,2002),(1000,p)] (σ0' (s0+1)).2)) 2001 ((σ0' s0).1,renR [(s0,2001),(s0+1,2002),(1000,p)] (σ0' s0).2))
     rw[k1,k2,k3,goX_ren,goX_ren]
     have e1:renR [(s0,2001),(s0+1,2002),(1000,p)] (.row (soR G A m (goV s0 x a) (goW (s0+1) x b)))= .row (soR G A m (goV 2001 x a) (goW 2002 x b)):=by
      show Res.row [_,_,_,_,ren _ (goV s0 x a),ren _ (goW (s0+1) x b)]=_
      rw[ren_goV l1,ren_goW l2];rfl
     show Q _ (upd (upd (upd σ p (g,renR [(s0,2001),(s0+1,2002),(1000,p)] (.row (soR G A m (goV s0 x a) (goW (s0+1) x b))))) 2002 (goX x b)) 2001 (goX x a))
     rw[e1,upd_comm hp2,upd_comm hp1]
     exact hQ x a b _ hv
 | cons c cs=>
   refine ACall.liftN h [(1000,p),(s0,2001),(s0+1,2002)] [] rfl hr2 ha2 ?_ ⟨⟨_,by rw[hp]⟩,⟨[],by rw[hσ1];rfl⟩,⟨[],by rw[hσ2];rfl⟩,trivial⟩ fun av σ0' hR=>?_
   · show _=[(1000,((σ p).1,renR (flipL [(1000,p),(s0,2001),(s0+1,2002)]) (σ p).2)),(s0,((σ 2001).1,renR (flipL [(1000,p),(s0,2001),(s0+1,2002)]) (σ 2001).2)),(s0+1,((σ 2002).1,renR (flipL [(1000,p),(s0,2001),(s0+1,2002)]) (σ 2002).2))]
     rw[hp,hσ1,hσ2,goX_ren,goX_ren]
     have e1:renR (flipL [(1000,p),(s0,2001),(s0+1,2002)]) (.row (soR G A m (goV 2001 (c::cs) h1) (goW 2002 (c::cs) h2)))= .row (soR G A m (goV s0 (c::cs) h1) (goW (s0+1) (c::cs) h2)):=by
      show Res.row [_,_,_,_,ren _ (goV 2001 (c::cs) h1),ren _ (goW 2002 (c::cs) h2)]=_
      rw[ren_goV l5,ren_goW l6];rfl
     rw[e1]
   · obtain⟨⟨x,a,b⟩,hv,hsl⟩:=hR
     obtain⟨k1,k2,k3,-⟩:=hsl
     show Q _ (upd (upd (upd σ 2002 ((σ0' (s0+1)).1,renR [(1000,p),(s0,2001),(s0+1,2002)] (σ0' (s0+1)).2)) 2001 ((σ0' s0).1,renR [(1000,p),(s0,2001),(s0+1,2002)] (σ0' s0).2)) p ((σ0' 1000).1,renR [(1000,p),(s0,2001),(s0+1,2002)] (σ0' 1000).2))
     rw[k1,k2,k3,goX_ren,goX_ren]
     have e1:renR [(1000,p),(s0,2001),(s0+1,2002)] (.row (soR G A m (goV s0 x a) (goW (s0+1) x b)))= .row (soR G A m (goV 2001 x a) (goW 2002 x b)):=by
      show Res.row [_,_,_,_,ren _ (goV s0 x a),ren _ (goW (s0+1) x b)]=_
      rw[ren_goV l3,ren_goW l4];rfl
     show Q _ (upd (upd (upd σ 2002 (goX x b)) 2001 (goX x a)) p (g,renR [(1000,p),(s0,2001),(s0+1,2002)] (.row (soR G A m (goV s0 x a) (goW (s0+1) x b)))))
     rw[e1]
     exact hQ x a b _ hv
structure goH (G:Gm) (A:List Dl) (b:List Int) (m:Int):Prop where
 n6:G.ws.length≤6
 t:tbIn b m
 r:runOK G.ws.length (A.map spOf) b m
 B:bgT G.ws.length b bg0
 a:A.length<1000
theorem goH.cnt {G:Gm} {A:List Dl} {b:List Int} {m:Int} (h:goH G A b m) {a:AV} {c:List Int} (hc:CV a c) (hl:c.length<1000):Fn0 Try.prog 92 [.slc 5 (dlR A) .non,bgV bg0,a] (fun v=>v= .int .i64 (cntP (A.map spOf) c bg0)):=
 rcount_c _ h.n6 A b m bg0 c a hc h.t h.r h.B h.a hl
theorem allL_nodup (n:Nat):∀k:Nat,(allL n k).Nodup
 | 0=>by simp[allL]
 | k+1=>by
   rw[allL]
   unfold List.Nodup
   rw[List.pairwise_flatMap]
   constructor
   · intro w _
     rw[List.pairwise_map]
     exact (allL_nodup n k).imp fun h e=>h (List.cons.inj e).2
   · refine List.nodup_range.imp fun {a b} h x hx y hy e=>?_
     obtain⟨x',_,rfl⟩:=List.mem_map.1 hx
     obtain⟨y',_,rfl⟩:=List.mem_map.1 hy
     have:=(List.cons.inj e).1
     omega
section
variable {P:Program}
theorem w_apmN {K:(Nat→AV)→Sig→Prop} {e:Nat→AV} {σ:Sig} {x y:IOpd} {r:List IStep} {d i:Nat} {a:Int} {t:Tag} (hx:x.ev e= .nsl) (hy:y.ev e= .slc 1 [[.int .i64 a]] t)
  (hk:∀g,stepsW P r K (upd e d (.msl i g 1 1)) (newS σ i g ([a].map (AV.int .i64)))):stepsW P (⟨some d,none,.apm 1 8 x y i⟩::r) K e σ:=by
 refine w_det (p:=True∧1=1∧(0+1)*8≤140737488355328) (v:=fun g=> .msl i g (0+1) 1) (σ':=fun g=>newS σ i g ([]++[[AV.int .i64 a]].flatten)) (fun g=>?_) ⟨trivial,rfl,by omega⟩ hk
 show (match baseM 1 σ (x.ev e),rowsO 1 (y.ev e) with
  | some (p,n,c,σ'),some (q,ys)=>(match ys with
    | []=>some (p∧q,x.ev e,σ)
    | _::_=>some (p∧q∧(n+ys.length)*8≤140737488355328,AV.msl i g (n+ys.length) 1,newS σ' i g (c++ys.flatten)))
  | some (p,n,c,σ'),none=>(match rowsM 1 σ (y.ev e) with
    | some (q,m,ys)=>some (p∧q∧(n+m)*8≤140737488355328,AV.msl i g (n+m) 1,newS σ' i g (c++ys))
    | none=>none)
  | _,_=>none)=_
 rw[hx,hy];rfl
theorem w_apmI {K:(Nat→AV)→Sig→Prop} {e:Nat→AV} {σ:Sig} {x y:IOpd} {r:List IStep} {d i i' g' n:Nat} {a:Int} {xs:List Int} {t:Tag} (hx:x.ev e= .msl i' g' n 1) (hσ:σ i'=(g',.row (xs.map (AV.int .i64)))) (hn:xs.length=n) (hn2:n≤1000000) (hy:y.ev e= .slc 1 [[.int .i64 a]] t)
  (hk:∀g,stepsW P r K (upd e d (.msl i g (n+1) 1)) (newS (upd σ i' (g',.dead)) i g ((xs++[a]).map (AV.int .i64)))):stepsW P (⟨some d,none,.apm 1 8 x y i⟩::r) K e σ:=by
 refine w_det (p:=(g'=g'∧1=1∧(xs.map (AV.int .i64)).length=n*1)∧1=1∧(n+1)*8≤140737488355328) (v:=fun g=> .msl i g (n+1) 1) (σ':=fun g=>newS (upd σ i' (g',.dead)) i g (xs.map (AV.int .i64)++[[AV.int .i64 a]].flatten)) (fun g=>?_) ⟨⟨rfl,rfl,by simp;omega⟩,rfl,by omega⟩ fun g=>?_
 · show (match baseM 1 σ (x.ev e),rowsO 1 (y.ev e) with
    | some (p,n,c,σ'),some (q,ys)=>(match ys with
      | []=>some (p∧q,x.ev e,σ)
      | _::_=>some (p∧q∧(n+ys.length)*8≤140737488355328,AV.msl i g (n+ys.length) 1,newS σ' i g (c++ys.flatten)))
    | some (p,n,c,σ'),none=>(match rowsM 1 σ (y.ev e) with
      | some (q,m,ys)=>some (p∧q∧(n+m)*8≤140737488355328,AV.msl i g (n+m) 1,newS σ' i g (c++ys))
      | none=>none)
    | _,_=>none)=_
   rw[hx,hy]
   simp only[baseM,hσ,rowsO];rfl
 · have:=hk g
   rw[List.map_append] at this
   exact this
end
theorem isPerm.of_perm {n:Nat} {l l':List Int} (h:isPerm n l) (hp:List.Perm l' l):isPerm n l':=
 ⟨by rw[hp.length_eq,h.len],hp.nodup_iff.2 h.nd,fun x hx=>h.bd x (hp.mem_iff.1 hx)⟩
theorem isPerm.snoc {n:Nat} {l:List Int} (h:isPerm n l):isPerm (n+1) (l++[(n:Int)]):=by
 refine⟨by simp[h.len],?_,fun x hx=>?_⟩
 · rw[List.nodup_append]
   exact⟨h.nd,by simp,fun a ha b hb=>by simp at hb;subst hb;have:=h.bd a ha;omega⟩
 · rcases List.mem_append.1 hx with hx | hx
   · have:=h.bd x hx;omega
   · simp at hx;omega
theorem swap_perm {l:List Int} {i k:Nat} (hi:i<l.length) (hk:k<l.length):List.Perm ((l.set i (l.getD k 0)).set k (l.getD i 0)) l:=by
 have e1:l.getD k 0=l[k]:=by simp[hk]
 have e2:l.getD i 0=l[i]:=by simp[hi]
 rw[e1,e2]
 exact List.set_set_perm hi hk
def ir33:IFn:=
 ⟨36,[(4,none)],(.seq (.ops [oo 4 (.mov (.k .nsl))])
 (.seq (.ops [oo 5 (.mov (.k .nsl))])
 (.seq (.seq (.ops [oo 6 (.mov (kI 0))])
 (.blk 0 (.loop (.seq (.seq (.ops [oo 8 (.mov 6),
 oo 9 (.mov 1),
 oo 10 (.bin .lss 8 9)])
 (.cnd 10
 .skip
 (.exit 0)))
 (.seq (.blk 1 (.seq (.ops [oo 13 (.mov 0),
 oo 14 (.mov 6),
 oo 15 (.bin .add 14 (kI 1)),
 oo 16 (.callF 31 [13,15]),
 oo 7 (.mov 16)])
 (.seq (.ops [oo 17 (.mov 5),
 oo 18 (.mov 6),
 oo 19 (.bsl 1 [[(.int .i64 0)]] [(0,18)]),
 oo 20 (.apm 1 8 17 19 5),
 oo 5 (.mov 20)])
 (.ops [oo 21 (.mov 5),
 oo 22 (.mov 6),
 oo 23 (.mov 5),
 oo 24 (.mov 7),
 oo 25 (.mov 5),
 oo 26 (.mov 7),
 oo 27 (.ixA 1 25 26),
 oo 28 (.ld 1 false 27),
 oo 29 (.mov 5),
 oo 30 (.mov 6),
 oo 31 (.ixA 1 29 30),
 oo 32 (.ld 1 false 31),
 oo 33 (.ixA 1 21 22),
 ⟨none,none,(.st 1 33 28)⟩,
 oo 34 (.ixA 1 23 24),
 ⟨none,none,(.st 1 34 32)⟩]))))
 (.ops [oo 11 (.mov 6),
 oo 12 (.bin .add 11 (kI 1)),
 oo 6 (.mov 12)]))))))
 (.seq (.seq (.frz 5)
 (.ops [oo 35 (.mov 5),
 oo 4 (.mov 35)]))
 .ret))))⟩
def hint33 (P:Program):Hint:={site:=[(20,5)],nils:=[],frz:=[(35,5)],mve:=[],wr:=[20] }
def ordV (xs:List Int) (g:Nat):AV:=match xs with
 | []=> .nsl
 | _::_=> .msl 5 g xs.length 1
def ordS (xs:List Int) (g:Nat):List (Nat×(Nat×Res)):=match xs with
 | []=>[]
 | _::_=>[(5,(g,.row (xs.map (AV.int .i64))))]
theorem order_c (g:Nat) (w:Int) (n:Nat) (hn:1≤n∧n≤1000):RawC Try.prog 33 [.ref 1000 g 0,.int .i64 n] (BoxS g w) (BoxR g fun av=>∃l,av= .slc 1 (iR l) .non∧isPerm n l):=by
 refine RawC.walk (H:=hint33 Try.prog) ir33 Try.func33 rfl rfl rfl ?_
 unfold ir33
 repeat' (first
  | with_reducible (first | refine Rd.p ?_ | refine w_alt ?_ ?_ | refine zE ?_ | refine zE0 ?_)
  | with_reducible (first | refine zI fun y hy=>?_ | refine zL ?_ | refine zS ?_ | refine zA fun _=>?_ | refine zV ?_ | refine zC ?_ | refine zG ?_ | refine zU ?_ | refine zG0 ?_ | refine zU0 ?_ | refine zF ?_)
  | with_reducible (first | refine zX ?_ | refine zD fun _=>?_ | refine zD0 ?_ | refine zN ?_ | refine zF0 ?_ | refine zX0 ?_ | refine z1 ?_ | refine z2 ?_ | refine z3 ?_ | refine z4 ?_ | refine z5 ?_ | refine z6 ?_ | refine z7 ?_ | refine z8 ?_ | refine y1 ?_ | refine y2 ?_ | refine y3 ?_ | refine y4 ?_ | refine y5 ?_ | refine y6 ?_ | refine y7 ?_ | refine y8 ?_ | refine Rt.p (fun _=>?_) fun _=>?_)
  | ((with_reducible apply w_ixM);(focus exact rfl);(focus exact rfl);case' hk=>intro y hy) | ((with_reducible (first | apply w_val | apply q_ends));(focus exact rfl)))
 refine w_loopK [0,1] [] (fun x:List Int×Nat×Int=>x.1.length≤n∧isPerm x.1.length x.1) (fun x=>n-x.1.length) (fun x=>[(6,.int .i64 x.1.length),(5,ordV x.1 x.2.1)])
  (fun x=>[(1000,(g,.row [.int .u64 x.2.2]))]++ordS x.1 x.2.1) ([],0,_) ⟨Nat.zero_le _,⟨rfl,List.nodup_nil,fun x hx=>by cases hx⟩⟩ ⟨rfl,rfl,trivial⟩ (by exact⟨rfl,trivial⟩) ?_
 rintro⟨xs,g5,w⟩ ⟨hl,hp⟩ e σ
 dsimp only at hl hp ⊢
 by_cases hlt:xs.length<n
 case neg=>
  cases xs with
  | nil=>exfalso;simp at hlt;omega
  | cons x0 xs=>
    repeat' (first
     | with_reducible (first | refine Rd.p ?_ | refine w_alt ?_ ?_ | refine zE ?_ | refine zE0 ?_)
     | with_reducible (first | refine zI fun y hy=>?_ | refine zL ?_ | refine zS ?_ | refine zA fun _=>?_ | refine zV ?_ | refine zC ?_ | refine zG ?_ | refine zU ?_ | refine zG0 ?_ | refine zU0 ?_ | refine zF ?_)
     | (refine w_frzI rfl rfl rfl ?_)
     | with_reducible (first | refine zX ?_ | refine zD fun _=>?_ | refine zD0 ?_ | refine zN ?_ | refine zF0 ?_ | refine zX0 ?_ | refine z1 ?_ | refine z2 ?_ | refine z3 ?_ | refine z4 ?_ | refine z5 ?_ | refine z6 ?_ | refine z7 ?_ | refine z8 ?_ | refine y1 ?_ | refine y2 ?_ | refine y3 ?_ | refine y4 ?_ | refine y5 ?_ | refine y6 ?_ | refine y7 ?_ | refine y8 ?_ | refine Rt.p (fun _=>?_) fun _=>?_)
     | ((with_reducible apply w_ixM);(focus exact rfl);(focus exact rfl);case' hk=>intro y hy) | ((with_reducible (first | apply w_val | apply q_ends));(focus exact rfl)))
    refine⟨_,⟨x0::xs,rfl,?_⟩,rfl⟩
    have:(x0::xs).length=n:=by omega
    rw[←this];exact hp
 have hps:=hp.snoc
 have hsl:(xs++[(xs.length:Int)]).length=xs.length+1:=by simp
 cases xs with
 | nil=>
   have hz:([]:List Int).length=0:=rfl
   repeat' (first
    | with_reducible (first | refine Rd.p ?_ | refine w_alt ?_ ?_ | refine zE ?_ | refine zE0 ?_)
    | (first | (refine w_apmN rfl rfl ?_;intro _) | refine w_ldI rfl rfl (by exact Nat.le_of_ble_eq_true rfl) ?_ | refine w_stI rfl rfl rfl (by exact Nat.le_of_ble_eq_true rfl) ?_)
    | with_reducible (first | refine zI fun y hy=>?_ | refine zL ?_ | refine zS ?_ | refine zA fun _=>?_ | refine zV ?_ | refine zC ?_ | refine zG ?_ | refine zU ?_ | refine zG0 ?_ | refine zU0 ?_ | refine zF ?_)
    | ((with_reducible refine acall_id ?_);refine ACall.box (up_c _ _ _ (by omega)) rfl rfl rfl ?_;rintro _ _ ⟨k,rfl,hk1,hk2⟩)
    | (have hk0:k=0:=(by omega);subst hk0;clear hk1 hk2)
    | with_reducible (first | refine zX ?_ | refine zD fun _=>?_ | refine zD0 ?_ | refine zN ?_ | refine zF0 ?_ | refine zX0 ?_ | refine z1 ?_ | refine z2 ?_ | refine z3 ?_ | refine z4 ?_ | refine z5 ?_ | refine z6 ?_ | refine z7 ?_ | refine z8 ?_ | refine y1 ?_ | refine y2 ?_ | refine y3 ?_ | refine y4 ?_ | refine y5 ?_ | refine y6 ?_ | refine y7 ?_ | refine y8 ?_ | refine Rt.p (fun _=>?_) fun _=>?_)
    | ((with_reducible apply w_ixM);(focus exact rfl);(focus exact rfl);case' hk=>intro y hy) | ((with_reducible (first | apply w_val | apply q_ends));(focus exact rfl)))
   refine q_loop ([0],_,_) ?_ ?_ (by repeat' (first | exact slots_nil | apply slots_cons | rfl | (rw[map_snoc];rfl) | (rw[len_snoc];rfl) | (rw[hS];rfl) | (rw[hS,map_snoc];rfl) | (refine int_eq ?_;(try dsimp only);omega) | (refine congrArg AV.bool ?_;simp_all;done))) (by exact⟨rfl,rfl,trivial⟩) (by repeat' (first | exact kept_nil | apply kept_cons | rfl)) (by repeat' (first | exact kept_nil | apply kept_cons | rfl))
   · exact⟨by simp;omega,hps⟩
   · simp;omega
 | cons x0 xs=>
   have hlx:(x0::xs).length=xs.length+1:=rfl
   have hq:∀k:Nat,k<xs.length+2→isPerm (xs.length+2) (((x0::xs++[((x0::xs).length:Int)]).set ((((x0::xs).length:Nat):Int).toNat*1) ((x0::xs++[((x0::xs).length:Int)]).getD (k*1) 0)).set (k*1) ((x0::xs++[((x0::xs).length:Int)]).getD ((((x0::xs).length:Nat):Int).toNat*1) 0)):=by
    intro k hk
    have e1:(((x0::xs).length:Nat):Int).toNat*1=xs.length+1:=by simp
    rw[e1,Nat.mul_one]
    exact hps.of_perm (swap_perm (by simp) (by simp;omega))
   repeat' (first
    | with_reducible (first | refine Rd.p ?_ | refine w_alt ?_ ?_ | refine zE ?_ | refine zE0 ?_)
    | (first | (refine w_apmI rfl rfl rfl (by omega) rfl ?_;intro g') | refine w_ldI rfl rfl (by first | omega | (simp;omega)) ?_ | refine w_stI rfl rfl rfl (by first | omega | (simp;omega)) ?_)
    | with_reducible (first | refine zI fun y hy=>?_ | refine zL ?_ | refine zS ?_ | refine zA fun _=>?_ | refine zV ?_ | refine zC ?_ | refine zG ?_ | refine zU ?_ | refine zG0 ?_ | refine zU0 ?_ | refine zF ?_)
    | ((with_reducible refine acall_id ?_);refine ACall.box (up_c _ _ _ (by omega)) rfl rfl rfl ?_;rintro _ _ ⟨k,rfl,hk1,hk2⟩)
    | with_reducible (first | refine zX ?_ | refine zD fun _=>?_ | refine zD0 ?_ | refine zN ?_ | refine zF0 ?_ | refine zX0 ?_ | refine z1 ?_ | refine z2 ?_ | refine z3 ?_ | refine z4 ?_ | refine z5 ?_ | refine z6 ?_ | refine z7 ?_ | refine z8 ?_ | refine y1 ?_ | refine y2 ?_ | refine y3 ?_ | refine y4 ?_ | refine y5 ?_ | refine y6 ?_ | refine y7 ?_ | refine y8 ?_ | refine Rt.p (fun _=>?_) fun _=>?_)
    | ((with_reducible apply w_ixM);(focus exact rfl);(focus exact rfl);case' hk=>intro y hy) | ((with_reducible (first | apply w_val | apply q_ends));(focus exact rfl)))
   have hq2:=hq k.toNat (by omega)
   generalize hnl:((x0::xs++[((x0::xs).length:Int)]).set ((((x0::xs).length:Nat):Int).toNat*1) ((x0::xs++[((x0::xs).length:Int)]).getD (k.toNat*1) 0)).set (k.toNat*1) ((x0::xs++[((x0::xs).length:Int)]).getD ((((x0::xs).length:Nat):Int).toNat*1) 0)=nl at hq2
   cases nl with
   | nil=>have:=hq2.len;simp at this
   | cons y0 ys=>
     have hyl:(y0::ys).length=(x0::xs).length+1:=by rw[hq2.len];rfl
     refine q_loop (y0::ys,g',_) ?_ ?_ (by exact⟨int_eq (by dsimp only;rw[hyl];rfl),(congrArg (fun n=>AV.msl 5 g' n 1) hyl.symm),trivial⟩) (by exact⟨rfl,rfl,trivial⟩) (by repeat' (first | exact kept_nil | apply kept_cons | rfl)) (by repeat' (first | exact kept_nil | apply kept_cons | rfl))
     · refine⟨by dsimp only;omega,?_⟩
       dsimp only
       rw[hyl,hlx];exact hq2
     · dsimp only;omega
section
variable {n:Nat} {o:List Int} (ho:isPerm n o)
include ho
theorem po_bd {w:Int} (hw:0≤w∧w<n):0≤getI o w∧getI o w<n:=by
 have hl:=ho.len
 unfold getI
 rw[List.getElem?_eq_getElem (by omega)]
 exact ho.bd _ (List.getElem_mem _)
theorem po_inj {v w:Int} (hv:0≤v∧v<n) (hw:0≤w∧w<n) (h:getI o v=getI o w):v=w:=by
 have hl:=ho.len
 unfold getI at h
 rw[List.getElem?_eq_getElem (by omega),List.getElem?_eq_getElem (by omega)] at h
 have hp:=List.pairwise_iff_getElem.1 ho.nd
 by_cases e:v.toNat=w.toNat
 · omega
 rcases Nat.lt_or_gt_of_ne e with h5 | h5
 · exact absurd h (hp v.toNat w.toNat (by omega) (by omega) h5)
 · exact absurd h.symm (hp w.toNat v.toNat (by omega) (by omega) h5)
theorem po_sur {w:Int} (hw:0≤w∧w<n):∃v:Int,(0≤v∧v<n)∧getI o v=w:=by
 obtain⟨i,h1,h2⟩:=mem_seat ho (g:=w.toNat) (by omega)
 exact⟨i,by omega,by rw[h2];omega⟩
theorem nSum_perm (f:Int→Int):nSum n (fun w=>f (getI o w))=nSum n f:=by
 have key:∀(m:Nat) (g:Int→Int),nSum m g=((List.range m).map fun (k:Nat)=>g (k:Int)).sum:=by
  intro m g
  induction m with
  | zero=>rfl
  | succ m ih=>rw[List.range_succ,List.map_append,List.sum_append,←ih];show nSum m g+g m=_+(g m+0);omega
 rw[key,key]
 have e:∀g:Int→Int,(List.range n).map (fun (k:Nat)=>g (k:Int))=((List.range n).map fun (k:Nat)=>(k:Int)).map g:=fun g=>by rw[List.map_map];rfl
 rw[e f,show ((List.range n).map fun (k:Nat)=>f (getI o (k:Int)))=((List.range n).map fun (k:Nat)=>getI o (k:Int)).map f by rw[List.map_map];rfl]
 have hp:List.Perm ((List.range n).map fun (k:Nat)=>getI o (k:Int)) ((List.range n).map fun (k:Nat)=>(k:Int)):=by
  rw[List.perm_ext_iff_of_nodup]
  · intro a
    simp only[List.mem_map,List.mem_range]
    constructor
    · rintro⟨k,hk,rfl⟩
      have:=po_bd ho (w:=(k:Int)) (by omega)
      exact⟨(getI o k).toNat,by omega,by omega⟩
    · rintro⟨k,hk,rfl⟩
      obtain⟨v,hv,e⟩:=po_sur ho (w:=(k:Int)) (by omega)
      exact⟨v.toNat,by omega,by rw[show ((v.toNat:Nat):Int)=v by omega];exact e⟩
  · unfold List.Nodup
    rw[List.pairwise_map]
    refine List.Pairwise.imp_of_mem ?_ List.nodup_range
    intro a b ha hb hab e
    have:=po_inj ho (by have:=List.mem_range.1 ha;omega) (by have:=List.mem_range.1 hb;omega) e
    omega
  · unfold List.Nodup
    rw[List.pairwise_map]
    exact List.nodup_range.imp fun h e=>h (by omega)
 have sumP:∀{a b:List Int},List.Perm a b→a.sum=b.sum:=by
  intro a b h
  induction h with
  | nil=>rfl
  | cons x _ ih=>rw[List.sum_cons,List.sum_cons,ih]
  | swap x y l=>rw[List.sum_cons,List.sum_cons,List.sum_cons,List.sum_cons];omega
  | trans _ _ h1 h2=>rw[h1,h2]
 exact sumP (hp.map f)
end
def renD (o:List Int) (d:Dl):Dl:=if d.kind=1∨d.kind=2∨d.kind=6 then {d with wood:=getI o d.wood } else d
theorem renD_same (o:List Int) (d:Dl):(renD o d).kind=d.kind∧(renD o d).bag=d.bag∧(renD o d).other=d.other∧(renD o d).count=d.count:=by
 unfold renD;split<;>exact⟨rfl,rfl,rfl,rfl⟩
theorem renD_wood {o:List Int} {d:Dl} (h:d.kind=1∨d.kind=2∨d.kind=6):(renD o d).wood=getI o d.wood:=by
 unfold renD;rw[if_pos h]
theorem renD_wood2 {o:List Int} {d:Dl} (h:¬(d.kind=1∨d.kind=2∨d.kind=6)):(renD o d).wood=d.wood:=by
 unfold renD;rw[if_neg h]
def renS (o:List Int) (x:Sp):Sp:=(renD o x.1,x.2)
theorem steps_ren (o:List Int):∀l:List Dl,stepsG (l.map (renD o))=(stepsG l).map (renS o)
 | []=>rfl
 | d::r=>by
   obtain⟨h1,h2,h3,h4⟩:=renD_same o d
   show stp1 (renD o d)++stepsG (r.map (renD o))=(stp1 d++stepsG r).map (renS o)
   rw[List.map_append,steps_ren o r]
   congr 1
   unfold stp1 drawsB
   rw[h1,h4]
   split
   · rw[List.map_replicate];rfl
   · rfl
theorem cens_ren (o:List Int) (l:List Sp):censG (l.map (renS o))=censG l:=by
 unfold censG
 rw[List.filter_map,List.length_map];rfl
structure relB (n:Nat) (o B C:List Int):Prop where
 bl:B.length=24
 cl:C.length=24
 at':∀i w:Int,0≤i∧i≤3→0≤w∧w<n→bgAt C i (getI o w)=bgAt B i w
section
variable {n:Nat} {o:List Int} (ho:isPerm n o) (hn:n≤6)
include ho hn
theorem relB.add {B C:List Int} (h:relB n o B C) {i w x:Int} (hi:0≤i∧i≤3) (hw:0≤w∧w<n):relB n o (bgAdd B i w x) (bgAdd C i (getI o w) x):=by
 have hb:=po_bd ho hw
 refine⟨by unfold bgAdd;rw[List.length_set];exact h.bl,by unfold bgAdd;rw[List.length_set];exact h.cl,fun k v hk hv=>?_⟩
 have hbv:=po_bd ho hv
 rw[bgAt_add h.bl hi (by omega) hk (by omega),bgAt_add h.cl hi (by omega) hk (by omega)]
 by_cases e:k=i∧v=w
 · rw[if_pos e,if_pos ⟨e.1,by rw[e.2]⟩,h.at' i w hi hw]
 · rw[if_neg e,if_neg (fun h2=>e ⟨h2.1,po_inj ho hv hw h2.2⟩),h.at' k v hk hv]
theorem relB.pour {B C:List Int} (h:relB n o B C) {i j:Int} (hi:0≤i∧i≤3) (hj:0≤j∧j≤3):relB n o (bgPour B i j) (bgPour C i j):=by
 refine⟨by unfold bgPour;simp,by unfold bgPour;simp,fun k v hk hv=>?_⟩
 have hbv:=po_bd ho hv
 rw[bgAt_pour hi hj hk (by omega),bgAt_pour hi hj hk (by omega),h.at' k v hk hv,h.at' i v hi hv]
theorem relB.mixed {B C:List Int} (h:relB n o B C) {b:List Int} {m:Int} {x:Sp} (hx:spOK n b m x) (hd:x.2.1=false):relB n o (mixedB x.1 B) (mixedB (renD o x.1) C):=by
 obtain⟨h1,h2,h3,h4⟩:=renD_same o x.1
 unfold mixedB
 rw[h1,h2,h3,h4]
 by_cases k2:x.1.kind=2
 · obtain⟨hb,hw,_⟩:=hx.h2 hd k2
   rw[if_pos k2,if_pos k2,renD_wood (.inr (.inl k2))]
   exact relB.add ho hn h hb hw
 · rw[if_neg k2,if_neg k2]
   by_cases k3:x.1.kind=3
   · obtain⟨hb,ho',_⟩:=hx.h3 hd k3
     rw[if_pos k3,if_pos k3]
     exact relB.pour ho hn h hb ho'
   · rw[if_neg k3,if_neg k3];exact h
theorem cnt_ren:∀{l:List Sp} {b:List Int} {m:Int} {s B C:List Int},runOK n l b m→wdOK n l→(∀x∈l,x.2.2=true→x.2.1=false→x.1.kind=6)→relB n o B C→(∀w∈s,0≤w∧w<n)→cntG n (l.map (renS o)) (s.map (getI o)) C=cntG n l s B
 | [],_,_,s,B,C,_,_,_,_,_=>by
   rw[List.map_nil,cntG_0,cntG_0]
   cases s with
   | nil=>rfl
   | cons a s=>rw[if_neg (by simp),if_neg (by simp)]
 | x::r,b,m,s,B,C,hr,hw,h6,hB,hs=>by
   have hx:=hr.1
   have hwr:wdOK n r:=fun y hy=>hw y (by simp[hy])
   have h6r:∀y∈r,y.2.2=true→y.2.1=false→y.1.kind=6:=fun y hy=>h6 y (by simp[hy])
   obtain⟨k1,k2,k3,k4⟩:=renD_same o x.1
   rw[List.map_cons]
   have dr:x.2.1=true→ ∀(w:Int) (s:List Int),(0≤w∧w<n)→(∀w∈s,0≤w∧w<n)→bgAt C (renD o x.1).bag (getI o w)*cntG n (r.map (renS o)) (s.map (getI o)) (drawB C (renD o x.1).bag (getI o w))=bgAt B x.1.bag w*cntG n r s (drawB B x.1.bag w):=fun hd w s hw0 hs0=>by
    obtain⟨hb,_⟩:=hx.d hd
    have e:cntG n (r.map (renS o)) (s.map (getI o)) (drawB C x.1.bag (getI o w))=cntG n r s (drawB B x.1.bag w):=cnt_ren hr.2 hwr h6r (relB.add ho hn hB hb hw0) hs0
    rw[k2,hB.at' x.1.bag w hb hw0,e]
   by_cases hc:x.2.2=true
   · cases s with
     | nil=>rw[List.map_nil,cntG_n (x:=renS o x) hc,cntG_n hc]
     | cons w s=>
       have hw0:=hs w (by simp)
       have hs0:∀w∈s,0≤w∧w<n:=fun v hv=>hs v (by simp[hv])
       rw[List.map_cons,cntG_t (x:=renS o x) hc,cntG_t hc]
       unfold nextV
       by_cases hd:x.2.1=true
       · rw[if_pos (show (renS o x).2.1=true from hd),if_pos (show (renS o x).2.2=true from hc),if_pos hd,if_pos hc]
         exact dr hd w s hw0 hs0
       · have hdf:x.2.1=false:=by simpa using hd
         have hk6:=h6 x (by simp) hc hdf
         have hww:=hw x (by simp) hc hdf
         rw[if_neg (show ¬(renS o x).2.1=true from hd),if_neg hd]
         have hwd:(renS o x).1.wood=getI o x.1.wood:=renD_wood (.inr (.inr hk6))
         rw[hwd]
         by_cases e:x.1.wood=w
         · rw[if_neg (fun h=>h.2 (by rw[e])),if_neg (fun h=>h.2 e)]
           exact cnt_ren hr.2 hwr h6r (relB.mixed ho hn hB hx hdf) hs0
         · rw[if_pos ⟨hc,fun h=>e (po_inj ho hww hw0 h)⟩,if_pos ⟨hc,e⟩]
   · rw[cntG_f (x:=renS o x) hc,cntG_f hc]
     unfold nextV
     by_cases hd:x.2.1=true
     · rw[if_pos (show (renS o x).2.1=true from hd),if_neg (show ¬(renS o x).2.2=true from hc),if_pos hd,if_neg hc]
       rw[←nSum_perm ho fun w=>bgAt C (renS o x).1.bag w*cntG n (r.map (renS o)) (s.map (getI o)) (drawB C (renS o x).1.bag w)]
       refine nSum_congr fun w hw'=>?_
       exact dr hd w s (by omega) hs
     · have hdf:x.2.1=false:=by simpa using hd
       rw[if_neg (show ¬(renS o x).2.1=true from hd),if_neg hd,if_neg (fun h=>hc h.1),if_neg (fun h=>hc h.1)]
       exact cnt_ren hr.2 hwr h6r (relB.mixed ho hn hB hx hdf) hs
theorem allL_ren (k:Nat):List.Perm ((allL n k).map fun s=>s.map (getI o)) (allL n k):=by
 have _:=hn
 have inj:∀{a b:List Int},(∀w∈a,0≤w∧w<n)→(∀w∈b,0≤w∧w<n)→a.map (getI o)=b.map (getI o)→a=b:=by
  intro a
  induction a with
  | nil=>intro b _ _ h;cases b with
    | nil=>rfl
    | cons y b=>simp at h
  | cons x a ih=>
    intro b ha hb h
    cases b with
    | nil=>simp at h
    | cons y b=>
      rw[List.map_cons,List.map_cons] at h
      obtain⟨h1,h2⟩:=List.cons.inj h
      rw[po_inj ho (ha x (by simp)) (hb y (by simp)) h1,ih (fun w hw=>ha w (by simp[hw])) (fun w hw=>hb w (by simp[hw])) h2]
 rw[List.perm_ext_iff_of_nodup _ (allL_nodup n k)]
 · intro a
   rw[List.mem_map]
   constructor
   · rintro⟨s,hs,rfl⟩
     obtain⟨h1,h2⟩:=allL_mem.1 hs
     refine allL_mem.2 ⟨by rw[List.length_map,h1],fun w hw=>?_⟩
     obtain⟨v,hv,rfl⟩:=List.mem_map.1 hw
     exact po_bd ho (h2 v hv)
   · intro ha
     obtain⟨h1,h2⟩:=allL_mem.1 ha
     have key:∀a:List Int,(∀w∈a,0≤w∧w<n)→ ∃s:List Int,(∀w∈s,0≤w∧w<n)∧s.map (getI o)=a:=by
      intro a
      induction a with
      | nil=>intro _;exact⟨[],(fun w hw=>by cases hw),rfl⟩
      | cons x a ih=>
        intro ha
        obtain⟨v,hv,e⟩:=po_sur ho (ha x (by simp))
        obtain⟨s,hs,e2⟩:=ih fun w hw=>ha w (by simp[hw])
        refine⟨v::s,fun w hw=>?_,by rw[List.map_cons,e,e2]⟩
        rcases List.mem_cons.1 hw with rfl | hw
        · exact hv
        · exact hs w hw
     obtain⟨s,hs,e⟩:=key a h2
     exact⟨s,allL_mem.2 ⟨by rw[←h1,←e,List.length_map],hs⟩,e⟩
 · unfold List.Nodup
   rw[List.pairwise_map]
   refine List.Pairwise.imp_of_mem ?_ (allL_nodup n k)
   intro a b ha hb hab e
   exact hab (inj (allL_mem.1 ha).2 (allL_mem.1 hb).2 e)
end
structure relT (n:Nat) (o:List Int) (t u:Tb):Prop where
 b:u.bags=t.bags
 m:u.mixed=t.mixed
 c:u.cens=t.cens
 tl:t.tried.length=6
 ul:u.tried.length=6
 t':∀w:Int,0≤w∧w<n→u.tried.getD (getI o w).toNat false=t.tried.getD w.toNat false
section
variable {n:Nat} {o:List Int} (ho:isPerm n o) (hn:n≤6)
include ho hn
theorem relT.deal {t u:Tb} (h:relT n o t u) {d:Dl} (h0:dlErr n d t=0):dlErr n (renD o d) u=0∧relT n o (dealT d t) (dealT (renD o d) u):=by
 obtain⟨k1,k2,k3⟩:=dl_of h0
 obtain⟨r1,r2,r3,r4⟩:=renD_same o d
 have hk6:=inB_t.1 k1
 have hform:formD (renD o d)=true:=by
  unfold formD at k2 ⊢
  rw[r1,r2,r3,r4]
  by_cases e1:d.kind=1∨d.kind=6
  · rw[if_pos e1] at k2 ⊢;exact k2
  · rw[if_neg e1] at k2 ⊢
    by_cases e2:d.kind=2
    · rw[if_pos e2] at k2 ⊢;exact k2
    · rw[if_neg e2] at k2 ⊢
      rw[renD_wood2 (by omega)];exact k2
 have hE:dealE n (renD o d) u=0∧relT n o (dealT d t) (dealT (renD o d) u):=by
  unfold dealE at k3 ⊢
  unfold dealT
  rw[r1]
  rcases (by omega:d.kind=1∨d.kind=2∨d.kind=3∨d.kind=4∨d.kind=5∨d.kind=6) with k | k | k | k | k | k
  · rw[if_pos k] at k3 ⊢
    rw[if_pos k,if_pos k]
    have hw:=renD_wood (o:=o) (d:=d) (.inl k)
    unfold trialE at k3 ⊢
    by_cases e1:inB d.wood 0 (n-1)=true
    · rw[if_pos e1] at k3
      have hwb:=inB_t.1 e1
      have hb:=po_bd ho (w:=d.wood) (by omega)
      by_cases e2:t.tried.getD d.wood.toNat false=true
      · rw[if_pos e2] at k3;exact absurd k3 (by decide)
      · rw[hw,if_pos (inB_t.2 (by omega)),h.t' d.wood (by omega),if_neg e2]
        refine⟨rfl,h.b,h.m,h.c,by dsimp only;rw[List.length_set];exact h.tl,by dsimp only;rw[List.length_set];exact h.ul,fun w hw2=>?_⟩
        have hb2:=po_bd ho hw2
        have hul:=h.ul
        have htl:=h.tl
        dsimp only
        rw[List.getD_eq_getElem?_getD,List.getD_eq_getElem?_getD,List.getElem?_set,List.getElem?_set]
        by_cases e3:d.wood.toNat=w.toNat
        · have e4:d.wood=w:=by omega
          rw[if_pos e3,e4,if_pos rfl,if_pos (by omega),if_pos (by omega)]
        · rw[if_neg e3,if_neg (fun e4=>e3 (by have e5:=po_inj ho (v:=d.wood) (w:=w) (by omega) hw2 (by omega);rw[e5])),←List.getD_eq_getElem?_getD,←List.getD_eq_getElem?_getD]
          exact h.t' w hw2
    · rw[if_neg e1] at k3;exact absurd k3 (by decide)
  · have e:∀{α:Type} {a b:α},(if d.kind=1 then a else b)=b:=fun {α a b}=>if_neg (by omega)
    simp only[e,if_pos k] at k3 ⊢
    obtain⟨h1,h2,h3,h4⟩:=mix_0 k3
    have hwb:=inB_t.1 h2
    have hb:=po_bd ho (w:=d.wood) (by omega)
    refine⟨?_,by dsimp only;rw[r2,r4,h.b],by dsimp only;rw[r4,h.m],h.c,h.tl,h.ul,h.t'⟩
    unfold mixE
    rw[r2,r4,h.m,renD_wood (.inr (.inl k)),if_pos h1,if_pos (inB_t.2 (by omega)),if_pos h3,if_neg h4]
  · have e:∀{α:Type} {a b:α},(if d.kind=1 then a else b)=b:=fun {α a b}=>if_neg (by omega)
    have e2:∀{α:Type} {a b:α},(if d.kind=2 then a else b)=b:=fun {α a b}=>if_neg (by omega)
    simp only[e,e2,if_pos k] at k3 ⊢
    exact⟨by rw[←k3];unfold pourE;rw[r2,r3],by dsimp only;rw[r2,r3,h.b],h.m,h.c,h.tl,h.ul,h.t'⟩
  · have e:∀{α:Type} {a b:α},(if d.kind=1 then a else b)=b:=fun {α a b}=>if_neg (by omega)
    have e2:∀{α:Type} {a b:α},(if d.kind=2 then a else b)=b:=fun {α a b}=>if_neg (by omega)
    have e3:∀{α:Type} {a b:α},(if d.kind=3 then a else b)=b:=fun {α a b}=>if_neg (by omega)
    simp only[e,e2,e3,if_pos k] at k3 ⊢
    exact⟨by rw[←k3];unfold asideE;rw[r2,r4,h.b],by dsimp only;rw[r2,r4,h.b],h.m,h.c,h.tl,h.ul,h.t'⟩
  · have e:∀{α:Type} {a b:α},(if d.kind=1 then a else b)=b:=fun {α a b}=>if_neg (by omega)
    have e2:∀{α:Type} {a b:α},(if d.kind=2 then a else b)=b:=fun {α a b}=>if_neg (by omega)
    have e3:∀{α:Type} {a b:α},(if d.kind=3 then a else b)=b:=fun {α a b}=>if_neg (by omega)
    have e4:∀{α:Type} {a b:α},(if d.kind=4 then a else b)=b:=fun {α a b}=>if_neg (by omega)
    simp only[e,e2,e3,e4,if_pos k] at k3 ⊢
    exact⟨by rw[←k3];unfold passE asideE;rw[r2,r4,h.b,h.c],by dsimp only;rw[r2,r4,h.b],h.m,by dsimp only;rw[r4,h.c],h.tl,h.ul,h.t'⟩
  · have e:∀{α:Type} {a b:α},(if d.kind=1 then a else b)=b:=fun {α a b}=>if_neg (by omega)
    have e2:∀{α:Type} {a b:α},(if d.kind=2 then a else b)=b:=fun {α a b}=>if_neg (by omega)
    have e3:∀{α:Type} {a b:α},(if d.kind=3 then a else b)=b:=fun {α a b}=>if_neg (by omega)
    have e4:∀{α:Type} {a b:α},(if d.kind=4 then a else b)=b:=fun {α a b}=>if_neg (by omega)
    have e5:∀{α:Type} {a b:α},(if d.kind=5 then a else b)=b:=fun {α a b}=>if_neg (by omega)
    simp only[e,e2,e3,e4,e5] at k3 ⊢
    have h1:=inB_t.1 (place_0 k3)
    have hb:=po_bd ho (w:=d.wood) (by omega)
    refine⟨?_,h.b,h.m,by dsimp only;rw[h.c],h.tl,h.ul,h.t'⟩
    rw[←k3]
    unfold placeE
    rw[renD_wood (.inr (.inr k)),if_pos (place_0 k3),if_pos (inB_t.2 (by omega)),h.c]
 refine⟨?_,hE.2⟩
 unfold dlErr
 rw[r1,if_pos k1,if_pos hform,hE.1]
theorem relT.deals:∀{l:List Dl} {t u:Tb},relT n o t u→dsErr n t l=0→dsErr n u (l.map (renD o))=0∧relT n o (dsTab t l) (dsTab u (l.map (renD o)))
 | [],_,_,h,_=>⟨rfl,h⟩
 | d::r,t,u,h,h0=>by
   obtain⟨h1,h2⟩:=ds_cons h0
   obtain⟨q1,q2⟩:=relT.deal ho hn h h1
   obtain⟨q3,q4⟩:=relT.deals q2 h2
   rw[List.map_cons,dsErr,if_pos q1]
   exact⟨q3,q4⟩
theorem named_all {G:Gm} {ws':List Wd} (hG0:gmErr G=0) (hGn:G.ws.length=n) (hw:ws'.length=n) (hat:∀j:Nat,j<n→ws'[(getI o j).toNat]?=G.ws[j]?) (hmw:madeW G.ws):
  gmErr ⟨ws',G.ds.map (renD o)⟩=0∧censG (stepsG (G.ds.map (renD o)))=censG (stepsG G.ds)∧(∀s,(∀w∈s,0≤w∧w<(n:Int))→cwG ⟨ws',G.ds.map (renD o)⟩ (s.map (getI o))=cwG G s)∧ ∀w∈ws',w∈G.ws:=by
 have hG:=gm_ok hG0
 have hn1:=hG.n1
 have hmem:∀w∈ws',w∈G.ws:=fun w hw'=>by
  obtain⟨i,hi,rfl⟩:=List.getElem_of_mem hw'
  obtain⟨v,hv,e⟩:=po_sur ho (w:=(i:Int)) (by omega)
  have:=hat v.toNat (by omega)
  rw[show ((v.toNat:Nat):Int)=v by omega,e,Int.toNat_natCast,List.getElem?_eq_getElem hi] at this
  exact List.mem_of_getElem? this.symm
 have hwok:∀w∈G.ws,namedB w.name=true∧inB w.fam 0 9=true:=fun w hw'=>by
  refine⟨?_,hmw.2 w hw'⟩
  have:w.name∈woodNs:=List.mem_of_mem_take (hmw.1▸List.mem_map.2 ⟨w,hw',rfl⟩)
  exact (woodNs_ok.2 _ this).1
 have hnd:(ws'.map (·.name)).Nodup:=by
  have h1:(G.ws.map (·.name)).Nodup:=by rw[hmw.1];exact (List.take_sublist _ _).nodup woodNs_ok.1
  have hp:=List.pairwise_iff_getElem.1 h1
  refine List.pairwise_iff_getElem.2 fun i j hi hj hij e=>?_
  rw[List.length_map] at hi hj
  obtain⟨v,hv,ev⟩:=po_sur ho (w:=(i:Int)) (by omega)
  obtain⟨w,hw2,ew⟩:=po_sur ho (w:=(j:Int)) (by omega)
  have a1:=hat v.toNat (by omega)
  have a2:=hat w.toNat (by omega)
  rw[show ((v.toNat:Nat):Int)=v by omega,ev,Int.toNat_natCast,List.getElem?_eq_getElem hi,List.getElem?_eq_getElem (by omega)] at a1
  rw[show ((w.toNat:Nat):Int)=w by omega,ew,Int.toNat_natCast,List.getElem?_eq_getElem hj,List.getElem?_eq_getElem (by omega)] at a2
  rw[List.getElem_map,List.getElem_map,Option.some.inj a1,Option.some.inj a2] at e
  have hne:v.toNat≠w.toNat:=fun h=>by
   have:v=w:=by omega
   rw[this,ew] at ev;omega
  have e2:(G.ws.map (·.name))[v.toNat]'(by rw[List.length_map];omega)=(G.ws.map (·.name))[w.toNat]'(by rw[List.length_map];omega):=by rw[List.getElem_map,List.getElem_map];exact e
  rcases Nat.lt_or_gt_of_ne hne with h5 | h5
  · exact hp v.toNat w.toNat (by rw[List.length_map];omega) (by rw[List.length_map];omega) h5 e2
  · exact hp w.toNat v.toNat (by rw[List.length_map];omega) (by rw[List.length_map];omega) h5 e2.symm
 have hws0:wsErr [] ws'=0:=wsErr_zero (fun w hw'=>hwok w (hmem w hw')) (by rw[List.nil_append];exact hnd)
 have hrel:relT n o tb0 tb0:=⟨rfl,rfl,rfl,rfl,rfl,fun w hw'=>by
  have e:∀k:Nat,tb0.tried.getD k false=false:=fun k=>by
   show ([false,false,false,false,false,false]:List Bool).getD k false=false
   rcases k with _ | _ | _ | _ | _ | _ | k<;>rfl
  rw[e,e]⟩
 have hdse:=hG.ds
 rw[hGn] at hdse
 obtain⟨d1,d2⟩:=relT.deals ho hn hrel hdse
 have hcr:=(deals_run G.ds tb0 tb0_ok hG.ds).2.2
 have hcen:=hG.cen
 have e0:tb0.cens=0:=rfl
 have hz:G.ds.length≤24:=hG.d24
 refine⟨?_,by rw[steps_ren,cens_ren],fun s hs=>?_,hmem⟩
 · unfold gmErr
   rw[if_neg (by intro e;have e:ws'=[]:=e;rw[e] at hw;simp at hw;omega),if_neg (by show ¬6<ws'.length;omega),if_pos hws0,if_neg (by show ¬24<(G.ds.map (renD o)).length;rw[List.length_map];omega)]
   show (if dsErr ws'.length tb0 (G.ds.map (renD o))=0 then _ else _)=_
   rw[hw,if_pos d1,if_neg (by show ¬(dsTab tb0 (G.ds.map (renD o))).cens=0;rw[d2.c];omega)]
 · show cntG ws'.length (stepsG (G.ds.map (renD o))) (s.map (getI o)) bg0=cntG G.ws.length (stepsG G.ds) s bg0
   rw[hw,hGn,steps_ren]
   have hex:=hG.ex
   have hwd:=hG.wd
   rw[hGn] at hex hwd
   refine cnt_ren ho hn hex hwd (fun x hx h1 h2=>?_) ⟨rfl,rfl,fun i w _ _=>by rw[bg0_at,bg0_at]⟩ hs
   obtain⟨d,hd,hxd⟩:=List.mem_flatMap.1 hx
   unfold stp1 at hxd
   split at hxd
   · rw[(List.mem_replicate.1 hxd).2] at h2;cases h2
   · rw[List.mem_singleton.1 hxd] at h1 ⊢;simpa using h1
end
theorem named_len {G H:Gm} {o:List Int} (ho:isPerm G.ws.length o) (hG0:gmErr G=0) (hH0:gmErr H=0) (hl:H.ws.length=G.ws.length) (hc:censG (stepsG H.ds)=censG (stepsG G.ds)) (h:∀s,(∀w∈s,0≤w∧w<(G.ws.length:Int))→cwG H (s.map (getI o))=cwG G s):(crsG H).length=(crsG G).length:=by
 have hG:=gm_ok hG0
 rw[crsG_list hG,crsG_list (gm_ok hH0),List.length_map,List.length_map,hl,hc]
 have hp:=(allL_ren ho hG.n6 (censG (stepsG G.ds))).filter fun s=>decide (0<cwG H s)
 rw[←hp.length_eq,List.filter_map,List.length_map]
 congr 1
 refine List.filter_congr fun s hs=>?_
 show decide (0<cwG H (s.map (getI o)))=_
 rw[h s (allL_mem.1 hs).2]
theorem deals_wood {n:Nat}:∀{l:List Dl} {t:Tb},dsErr n t l=0→ ∀d∈l,d.kind=1∨d.kind=2∨d.kind=6→0≤d.wood∧d.wood<n
 | [],_,_,d,hd,_=>by cases hd
 | a::r,t,h,d,hd,hk=>by
   obtain⟨h1,h2⟩:=ds_cons h
   rcases List.mem_cons.1 hd with rfl | hd
   · obtain⟨k1,k2,k3⟩:=dl_of h1
     unfold dealE at k3
     rcases hk with k | k | k
     · rw[if_pos k] at k3
       unfold trialE at k3
       by_cases e:inB d.wood 0 (n-1)=true
       · have:=inB_t.1 e;omega
       · rw[if_neg e] at k3;exact absurd k3 (by decide)
     · rw[if_neg (by omega),if_pos k] at k3
       have:=inB_t.1 (mix_0 k3).2.1
       omega
     · rw[if_neg (by omega),if_neg (by omega),if_neg (by omega),if_neg (by omega),if_neg (by omega)] at k3
       have:=inB_t.1 (place_0 k3)
       omega
   · exact deals_wood h2 d hd hk
theorem numF_map {f:Int→Int}:∀(l met:List Int),(∀a b,a∈met++l→b∈met++l→f a=f b→a=b)→numF (met.map f) (l.map f)=numF met l
 | [],_,_=>rfl
 | x::r,met,h=>by
   have hm:f x∈met.map f↔x∈met:=by
    constructor
    · intro hx
      obtain⟨y,hy,e⟩:=List.mem_map.1 hx
      rw[←h y x (by simp[hy]) (by simp) e];exact hy
    · exact fun hx=>List.mem_map.2 ⟨x,hx,rfl⟩
   have hi:x∈met→(met.map f).idxOf (f x)=met.idxOf x:=by
    have key:∀m:List Int,(∀y∈m,f y=f x→y=x)→x∈m→(m.map f).idxOf (f x)=m.idxOf x:=by
     intro m
     induction m with
     | nil=>intro _ hx;cases hx
     | cons a m ih=>
       intro hy hx
       rw[List.map_cons,List.idxOf_cons,List.idxOf_cons]
       by_cases e:a=x
       · subst e;simp
       · have e2:f a≠f x:=fun e2=>e (hy a (by simp) e2)
         rw[show (f a == f x)=false by simpa using e2,show (a == x)=false by simpa using e]
         have:=ih (fun y hy'=>hy y (by simp[hy'])) ((List.mem_cons.1 hx).resolve_left fun h=>e h.symm)
         rw[this]
    exact key met fun y hy e=>h y x (by simp[hy]) (by simp) e
   rw[List.map_cons,numF,numF]
   by_cases hx:x∈met
   · rw[if_pos hx,if_pos (hm.2 hx),hi hx,numF_map r met fun a b ha hb=>h a b (by rcases List.mem_append.1 ha with q | q<;>simp[q]) (by rcases List.mem_append.1 hb with q | q<;>simp[q])]
   · rw[if_neg hx,if_neg (fun e=>hx (hm.1 e)),List.length_map]
     have:=numF_map r (met++[x]) fun a b ha hb=>h a b (by simpa using ha) (by simpa using hb)
     rw[List.map_append] at this
     show _::numF (met.map f++[f x]) (r.map f)=_
     rw[←this];rfl
def ir17v:IFn:=
 ⟨12,[(2,some (2,true))],(.seq (.ops [oo 1 (.box 2 0),
 oo 2 (.new [.nsl,.nsl])])
 (.seq (.ops [oo 3 (.bsl 2 [] []),
 oo 4 (.flA 0 1),
 oo 5 (.ld 1 false 4),
 oo 7 (.bsl 5 [] []),
 oo 8 (.flA 1 1),
 oo 9 (.ld 1 false 8),
 oo 6 (.apm 2 24 3 5 6),
 ⟨none,none,(.chk 1 false 8 9)⟩,
 oo 10 (.apm 5 40 7 9 10),
 oo 11 (.bld [.nsl,.nsl] [(0,1,6),(1,1,10)]),
 ⟨none,none,(.st 2 2 11)⟩])
 .ret))⟩
def hint17v (P:Program):Hint:={site:=[],nils:=[],frz:=[],mve:=[],wr:=[6,10] }
def ir34:IFn:=
 ⟨61,[(4,some (2,true))],(.seq (.ops [oo 2 (.box 2 0),
 oo 4 (.new [.nsl,.nsl])])
 (.seq (.ops [oo 8 (.ld 2 true 2),
 oo 9 (.callF 17 [8]),
 oo 5 (.new [.nsl,.nsl]),
 ⟨none,none,(.st 2 5 9)⟩])
 (.seq (.seq (.ops [oo 6 (.mov (kI 0))])
 (.blk 0 (.loop (.seq (.seq (.ops [oo 10 (.mov 6),
 oo 11 (.flA 0 2),
 oo 12 (.ld 1 false 11),
 oo 13 (.len false 12),
 oo 14 (.bin .lss 10 13)])
 (.cnd 14
 .skip
 (.exit 0)))
 (.seq (.blk 1 (.ops [oo 17 (.flA 0 5),
 oo 18 (.ld 1 false 17),
 oo 19 (.mov 1),
 oo 20 (.mov 6),
 oo 21 (.ixA 1 19 20),
 oo 22 (.ld 1 false 21),
 oo 23 (.flA 0 2),
 oo 24 (.ld 1 false 23),
 oo 25 (.mov 6),
 oo 26 (.ixA 2 24 25),
 oo 27 (.ld 2 true 26),
 oo 28 (.ixA 2 18 22),
 ⟨none,none,(.st 2 28 27)⟩]))
 (.ops [oo 15 (.mov 6),
 oo 16 (.bin .add 15 (kI 1)),
 oo 6 (.mov 16)]))))))
 (.seq (.seq (.ops [oo 7 (.mov (kI 0))])
 (.blk 2 (.loop (.seq (.seq (.ops [oo 29 (.mov 7),
 oo 30 (.flA 1 5),
 oo 31 (.ld 1 false 30),
 oo 32 (.len false 31),
 oo 33 (.bin .lss 29 32)])
 (.cnd 33
 .skip
 (.exit 2)))
 (.seq (.blk 3 (.seq (.ops [oo 36 (.flA 1 5),
 oo 37 (.ld 1 false 36),
 oo 38 (.mov 7),
 oo 39 (.ixA 5 37 38),
 oo 40 (.flA 0 39),
 oo 41 (.ld 1 false 40)])
 (.blk 4 (.seq (.seq (.ops [oo 43 (.bin .eql 41 (kI 1)),
 oo 42 (.mov 43)])
 (.cnd 42
 .skip
 (.seq (.ops [oo 44 (.bin .eql 41 (kI 2)),
 oo 42 (.mov 44)])
 (.cnd 42
 .skip
 (.ops [oo 45 (.bin .eql 41 (kI 6)),
 oo 42 (.mov 45)])))))
 (.cnd 42
 (.ops [oo 46 (.flA 1 5),
 oo 47 (.ld 1 false 46),
 oo 48 (.mov 7),
 oo 49 (.mov 1),
 oo 50 (.flA 1 5),
 oo 51 (.ld 1 false 50),
 oo 52 (.mov 7),
 oo 53 (.ixA 5 51 52),
 oo 54 (.flA 3 53),
 oo 55 (.ld 1 false 54),
 oo 56 (.ixA 1 49 55),
 oo 57 (.ld 1 false 56),
 oo 58 (.ixA 5 47 48),
 oo 59 (.flA 3 58),
 ⟨none,none,(.st 1 59 57)⟩])
 .skip)))))
 (.ops [oo 34 (.mov 7),
 oo 35 (.bin .add 34 (kI 1)),
 oo 7 (.mov 35)]))))))
 (.seq (.seq (.frz 18)
 (.seq (.frz 31)
 (.ops [oo 60 (.ld 2 true 5),
 ⟨none,none,(.st 2 4 60)⟩])))
 .ret)))))⟩
def hint34 (P:Program):Hint:={site:=[],nils:=[],frz:=[(60,18),(60,31)],mve:=[],wr:=[] }
theorem wdFl:FlatR Wd.row 2:=⟨fun _=>rfl,fun _=>rfl,fun _=>rfl,fun _ _ _ _=>rfl,fun _ _=>rfl⟩
theorem ownGameW_c (w0:Wd) (ws:List Wd) (d0:Dl) (ds:List Dl) (hg:ws.length≤1000000) (hr:ds.length≤1000000):RawC Try.prog 17 [gmA ⟨w0::ws,d0::ds⟩] (sg []) (SR (fun (x:Nat×Nat) v=>v= .agg [.msl 6 x.1 (w0::ws).length 2,.msl 10 x.2 (d0::ds).length 5]) (fun x=>[(6,(x.1,.row ((w0::ws).map Wd.row).flatten)),(10,(x.2,.row ((d0::ds).map Dl.row).flatten))])):=by
 refine RawC.walk (H:=hint17v Try.prog) ir17v Try.func17 rfl rfl rfl ?_
 unfold ir17v
 repeat' (first
  | with_reducible (first | refine Rd.p ?_ | refine w_alt ?_ ?_ | refine zO ?_ | refine zE0 ?_)
  | (first | (refine w_apmR (row:=Wd.row) rfl rfl (by simp;omega) ?_;intro _) | (refine w_apmR (row:=Dl.row) rfl rfl (by simp;omega) ?_;intro _))
  | with_reducible (first | refine zI fun y hy=>?_ | refine zL ?_ | refine zS ?_ | refine zA fun _=>?_ | refine zV ?_ | refine zC ?_ | refine zG ?_ | refine zU ?_ | refine zG0 ?_ | refine zU0 ?_ | refine zF ?_)
  | with_reducible (first | refine zX ?_ | refine zD fun _=>?_ | refine zD0 ?_ | refine zN ?_ | refine zF0 ?_ | refine zX0 ?_ | refine z1 ?_ | refine z2 ?_ | refine z3 ?_ | refine z4 ?_ | refine z5 ?_ | refine z6 ?_ | refine z7 ?_ | refine z8 ?_ | refine y1 ?_ | refine y2 ?_ | refine y3 ?_ | refine y4 ?_ | refine y5 ?_ | refine y6 ?_ | refine y7 ?_ | refine y8 ?_ | refine Rt.p (fun _=>?_) fun _=>?_)
  | ((with_reducible apply w_ixM);(focus exact rfl);(focus exact rfl);case' hk=>intro y hy) | ((with_reducible (first | apply w_val | apply q_ends));(focus exact rfl)))
 exact⟨(_,_),rfl,rfl,rfl,trivial⟩
theorem nmW_step {o:List Int} {gs:List Wd} {pre post cur:List Wd} {y:Wd} (ho:isPerm gs.length o) (hp:gs=pre++y::post) (hl:cur.length=gs.length) (h:∀j:Nat,j<pre.length→cur[(getI o j).toNat]?=gs[j]?):
  ∀j:Nat,j<(pre++[y]).length→(cur.set (getI o pre.length).toNat y)[(getI o j).toNat]?=gs[j]?:=by
 intro j hj
 have hn:=congrArg List.length hp
 simp only[List.length_append,List.length_cons,List.length_nil] at hj hn
 have hb:=po_bd ho (w:=(pre.length:Int)) (by omega)
 by_cases e:j=pre.length
 · subst e
   rw[List.getElem?_set_self (by omega),hp];simp
 · have hb2:=po_bd ho (w:=(j:Int)) (by omega)
   rw[List.getElem?_set_ne]
   · exact h j (by omega)
   · intro e2
     have:=po_inj ho (v:=(pre.length:Int)) (w:=(j:Int)) (by omega) (by omega) (by omega)
     omega
end Go.Abs
