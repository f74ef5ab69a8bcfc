/- A part of the proofs of the laws of this seat: contracts of the functions that they reach, each proved of the program's form in Lean. No condition beyond those that each contract names. -/
import Derived.Test.YtecogfpnfhkibaaProg
import Derived.Test.YtecogfpnfhkibaaSnd3
import Derived.Test.YtecogfpnfhkibaaA0
import Derived.Test.YtecogfpnfhkibaaN1a
import Derived.Test.YtecogfpnfhkibaaN1b
import Derived.Test.YtecogfpnfhkibaaN1c
import Derived.Test.YtecogfpnfhkibaaN1d
import Derived.Test.YtecogfpnfhkibaaN1e
import Derived.Test.YtecogfpnfhkibaaN1f
import Derived.Test.YtecogfpnfhkibaaN1g
import Derived.Test.YtecogfpnfhkibaaN1h
import Derived.Test.YtecogfpnfhkibaaN2a
set_option linter.unusedVariables false
set_option linter.unusedSimpArgs false
set_option maxRecDepth 20000
set_option maxHeartbeats 4000000
namespace Go.Abs
open Go.Proofs
theorem rcount_c (n:Nat) (hn:n≤6):∀(A:List Dl) (b:List Int) (m:Int) (B c:List Int) (a:AV),CV a c→tbIn b m→runOK n (A.map spOf) b m→bgT n b B→A.length<1000→c.length<1000→Fn0 Try.prog 92 [.slc 5 (dlR A) .non,bgV B,a] (fun v=>v= .int .i64 (cntP (A.map spOf) c B))
 | [],b,m,B,c,a,hc,ht,hr,hB,hA,hcl=>by
   have hz:([]:List Dl).length=0:=rfl
   have hl:=hB.l
   rcases hc with⟨rfl,rfl⟩ | rfl
   all_goals
    refine RawC.walk (H:=hint92 Try.prog) ir92 Try.func92 rfl rfl rfl ?_
    unfold ir92
    repeat' (first
     | with_reducible (first | refine Rd.p ?_ | refine w_alt ?_ ?_ | refine zE ?_ | refine zE0 ?_)
     | (first | (refine w_boxN rfl hl ?_;intro g2))
     | with_reducible (first | refine zI fun y hy=>?_ | refine zL ?_ | refine zS ?_ | refine zA fun _=>?_ | refine zV ?_ | refine zC ?_ | refine zG ?_ | refine zU ?_ | refine zG0 ?_ | refine zU0 ?_ | refine zF ?_)
     | with_reducible (first | refine zX ?_ | refine zD fun _=>?_ | refine zD0 ?_ | refine zN ?_ | refine zF0 ?_ | refine zX0 ?_ | refine z1 ?_ | refine z2 ?_ | refine z3 ?_ | refine z4 ?_ | refine z5 ?_ | refine z6 ?_ | refine z7 ?_ | refine z8 ?_ | refine y1 ?_ | refine y2 ?_ | refine y3 ?_ | refine y4 ?_ | refine y5 ?_ | refine y6 ?_ | refine y7 ?_ | refine y8 ?_ | refine Rt.p (fun _=>?_) fun _=>?_)
     | ((with_reducible apply w_ixM);(focus exact rfl);(focus exact rfl);case' hk=>intro y hy) | ((with_reducible (first | apply w_val | apply q_ends));(focus exact rfl)))
    all_goals first
     | (exfalso;omega)
     | rfl
 | d::A,b,m,B,c,a,hc,ht,hr,hB,hA,hcl=>by
   have hl:=hB.l
   have hin:=hB.bgin ht
   have hx:=hr.1
   have ht2:=(ht.step hx).1
   have hds:=rdraws_c d
   have hm:=ht.m
   have hbd:=cntP_bd hn c ht hr hB
   have hsb:=szP_bd ht hr
   have hsb2:=szP_bd ht2 hr.2
   have hcls:(d::A).length=A.length+1:=rfl
   have hmap:(d::A).map spOf=spOf d::A.map spOf:=rfl
   rw[hmap] at hbd hsb ⊢
   have hs1:(spOf d).2.1=drawsB d:=rfl
   have hs2:(spOf d).2.2=(decide (d.kind=5) || decide (d.kind=6)):=rfl
   cases hdb:drawsB d with
   | false=>
     have hk:¬(d.kind=4∨d.kind=5):=by simpa[drawsB] using hdb
     have hnd:¬(spOf d).2.1=true:=by rw[hs1,hdb];decide
     rw[hdb] at hds
     have hB2:=hB.mix ht.l hn hx (by rw[hs1,hdb])
     by_cases h6:d.kind=6
     · have hce:(spOf d).2.2=true:=by rw[hs2];simp[h6]
       have hmx:mixedB (spOf d).1 B=B:=by show mixedB d B=B;unfold mixedB;rw[if_neg (by omega),if_neg (by omega)]
       rw[hmx] at hB2
       cases c with
       | nil=>
         rw[cntP_pn hnd hce,hmx]
         have ih:=rcount_c n hn A _ _ B [] .nsl (.inl ⟨rfl,rfl⟩) ht2 hr.2 hB2 (by omega) hcl
         have hz:([]:List Int).length=0:=rfl
         rcases hc with⟨rfl,-⟩ | rfl
         all_goals
          refine RawC.walk (H:=hint92 Try.prog) ir92 Try.func92 rfl rfl rfl ?_
          unfold ir92
          repeat' (first
           | with_reducible (first | refine Rd.p ?_ | refine w_alt ?_ ?_ | refine zE ?_ | refine zE0 ?_)
           | (first | (refine w_boxN rfl hl ?_;intro g2) | refine w_ixP (f:=fun d:Dl=>[AV.int .i64 d.kind,.int .i64 d.bag,.int .i64 d.other,.int .i64 d.wood,.int .i64 d.count]) (l:=d::A) (pre:=[]) (y:=d) (post:=A) rfl rfl rfl ?_ | refine w_ldN rfl rfl hl ?_ | refine w_slT (f:=fun d:Dl=>[AV.int .i64 d.kind,.int .i64 d.bag,.int .i64 d.other,.int .i64 d.wood,.int .i64 d.count]) rfl ?_)
           | with_reducible (first | refine zI fun y hy=>?_ | refine zL ?_ | refine zS ?_ | refine zA fun _=>?_ | refine zV ?_ | refine zC ?_ | refine zG ?_ | refine zU ?_ | refine zG0 ?_ | refine zU0 ?_ | refine zF ?_)
           | ((with_reducible refine acall_id ?_);refine ACall.val hds rfl rfl ?_)
           | ((with_reducible refine acall_id ?_);refine ACall.cnt ih rfl rfl ?_)
           | with_reducible (first | refine zX ?_ | refine zD fun _=>?_ | refine zD0 ?_ | refine zN ?_ | refine zF0 ?_ | refine zX0 ?_ | refine z1 ?_ | refine z2 ?_ | refine z3 ?_ | refine z4 ?_ | refine z5 ?_ | refine z6 ?_ | refine z7 ?_ | refine z8 ?_ | refine y1 ?_ | refine y2 ?_ | refine y3 ?_ | refine y4 ?_ | refine y5 ?_ | refine y6 ?_ | refine y7 ?_ | refine y8 ?_ | refine Rt.p (fun _=>?_) fun _=>?_)
           | ((with_reducible apply w_ixM);(focus exact rfl);(focus exact rfl);case' hk=>intro y hy) | ((with_reducible (first | apply w_val | apply q_ends));(focus exact rfl)))
          all_goals first
           | (exfalso;omega)
           | rfl
       | cons w c=>
         rw[cntP_pc hnd hce,hmx]
         have ih:=rcount_c n hn A _ _ B c _ (.inr rfl) ht2 hr.2 hB2 (by omega) (by rw[List.length_cons] at hcl;omega)
         rcases hc with⟨-,h⟩ | rfl
         · cases h
         have hz:(iR (w::c)).length=c.length+1:=by rw[List.length_map];rfl
         have hz2:(w::c).length=c.length+1:=rfl
         by_cases hw:w=(spOf d).1.wood
         · rw[if_pos hw]
           change w=d.wood at hw
           refine RawC.walk (H:=hint92 Try.prog) ir92 Try.func92 rfl rfl rfl ?_
           unfold ir92
           repeat' (first
            | with_reducible (first | refine Rd.p ?_ | refine w_alt ?_ ?_ | refine zE ?_ | refine zE0 ?_)
            | (first | (refine w_boxN rfl hl ?_;intro g2) | refine w_ixP (f:=fun d:Dl=>[AV.int .i64 d.kind,.int .i64 d.bag,.int .i64 d.other,.int .i64 d.wood,.int .i64 d.count]) (l:=d::A) (pre:=[]) (y:=d) (post:=A) rfl rfl rfl ?_ | refine w_ixP (f:=fun x:Int=>[AV.int .i64 x]) (l:=w::c) (pre:=[]) (y:=w) (post:=c) rfl rfl rfl ?_ | refine w_ldN rfl rfl hl ?_ | refine w_slT (f:=fun d:Dl=>[AV.int .i64 d.kind,.int .i64 d.bag,.int .i64 d.other,.int .i64 d.wood,.int .i64 d.count]) rfl ?_ | refine w_sl1 rfl ?_)
            | with_reducible (first | refine zI fun y hy=>?_ | refine zL ?_ | refine zS ?_ | refine zA fun _=>?_ | refine zV ?_ | refine zC ?_ | refine zG ?_ | refine zU ?_ | refine zG0 ?_ | refine zU0 ?_ | refine zF ?_)
            | ((with_reducible refine acall_id ?_);refine ACall.val hds rfl rfl ?_)
            | ((with_reducible refine acall_id ?_);refine ACall.cnt ih rfl rfl ?_)
            | with_reducible (first | refine zX ?_ | refine zD fun _=>?_ | refine zD0 ?_ | refine zN ?_ | refine zF0 ?_ | refine zX0 ?_ | refine z1 ?_ | refine z2 ?_ | refine z3 ?_ | refine z4 ?_ | refine z5 ?_ | refine z6 ?_ | refine z7 ?_ | refine z8 ?_ | refine y1 ?_ | refine y2 ?_ | refine y3 ?_ | refine y4 ?_ | refine y5 ?_ | refine y6 ?_ | refine y7 ?_ | refine y8 ?_ | refine Rt.p (fun _=>?_) fun _=>?_)
            | ((with_reducible apply w_ixM);(focus exact rfl);(focus exact rfl);case' hk=>intro y hy) | ((with_reducible (first | apply w_val | apply q_ends));(focus exact rfl)))
           all_goals first
            | (exfalso;omega)
            | rfl
         · rw[if_neg hw]
           change ¬w=d.wood at hw
           refine RawC.walk (H:=hint92 Try.prog) ir92 Try.func92 rfl rfl rfl ?_
           unfold ir92
           repeat' (first
            | with_reducible (first | refine Rd.p ?_ | refine w_alt ?_ ?_ | refine zE ?_ | refine zE0 ?_)
            | (first | (refine w_boxN rfl hl ?_;intro g2) | refine w_ixP (f:=fun d:Dl=>[AV.int .i64 d.kind,.int .i64 d.bag,.int .i64 d.other,.int .i64 d.wood,.int .i64 d.count]) (l:=d::A) (pre:=[]) (y:=d) (post:=A) rfl rfl rfl ?_ | refine w_ixP (f:=fun x:Int=>[AV.int .i64 x]) (l:=w::c) (pre:=[]) (y:=w) (post:=c) rfl rfl rfl ?_ | refine w_ldN rfl rfl hl ?_)
            | with_reducible (first | refine zI fun y hy=>?_ | refine zL ?_ | refine zS ?_ | refine zA fun _=>?_ | refine zV ?_ | refine zC ?_ | refine zG ?_ | refine zU ?_ | refine zG0 ?_ | refine zU0 ?_ | refine zF ?_)
            | ((with_reducible refine acall_id ?_);refine ACall.val hds rfl rfl ?_)
            | with_reducible (first | refine zX ?_ | refine zD fun _=>?_ | refine zD0 ?_ | refine zN ?_ | refine zF0 ?_ | refine zX0 ?_ | refine z1 ?_ | refine z2 ?_ | refine z3 ?_ | refine z4 ?_ | refine z5 ?_ | refine z6 ?_ | refine z7 ?_ | refine z8 ?_ | refine y1 ?_ | refine y2 ?_ | refine y3 ?_ | refine y4 ?_ | refine y5 ?_ | refine y6 ?_ | refine y7 ?_ | refine y8 ?_ | refine Rt.p (fun _=>?_) fun _=>?_)
            | ((with_reducible apply w_ixM);(focus exact rfl);(focus exact rfl);case' hk=>intro y hy) | ((with_reducible (first | apply w_val | apply q_ends));(focus exact rfl)))
           all_goals first
            | (exfalso;omega)
            | rfl
     · have hce:¬(spOf d).2.2=true:=by rw[hs2];simp;omega
       rw[cntP_m hnd hce]
       have hrd:=rready_c d B hin (fun h2=>by obtain⟨q1,q2,q3,q4⟩:=hx.h2 (by rw[hs1,hdb]) h2;change 0≤d.wood∧d.wood<_ at q2;change 1≤d.count at q3;change m+d.count≤12 at q4;exact⟨q1,by omega,by omega⟩) (fun h3=>hx.h3 (by rw[hs1,hdb]) h3)
       have ih:=rcount_c n hn A _ _ (mixedB d B) c _ hc ht2 hr.2 hB2 (by omega) hcl
       have hml:=hB2.l
       change Fn0 Try.prog _ _ (fun v=>v= .int .i64 (cntP (A.map spOf) c (mixedB d B))) at ih
       rcases hc with⟨rfl,-⟩ | rfl
       all_goals
        refine RawC.walk (H:=hint92 Try.prog) ir92 Try.func92 rfl rfl rfl ?_
        unfold ir92
        repeat' (first
         | with_reducible (first | refine Rd.p ?_ | refine w_alt ?_ ?_ | refine zE ?_ | refine zE0 ?_)
         | (first | (refine w_boxN rfl hl ?_;intro g2) | refine w_ixP (f:=fun d:Dl=>[AV.int .i64 d.kind,.int .i64 d.bag,.int .i64 d.other,.int .i64 d.wood,.int .i64 d.count]) (l:=d::A) (pre:=[]) (y:=d) (post:=A) rfl rfl rfl ?_ | refine w_ldN rfl rfl hl ?_ | refine w_slT (f:=fun d:Dl=>[AV.int .i64 d.kind,.int .i64 d.bag,.int .i64 d.other,.int .i64 d.wood,.int .i64 d.count]) rfl ?_)
         | with_reducible (first | refine zI fun y hy=>?_ | refine zL ?_ | refine zS ?_ | refine zA fun _=>?_ | refine zV ?_ | refine zC ?_ | refine zG ?_ | refine zU ?_ | refine zG0 ?_ | refine zU0 ?_ | refine zF ?_)
         | ((with_reducible refine acall_id ?_);refine ACall.val hds rfl rfl ?_)
         | ((with_reducible refine acall_id ?_);refine ACall.bgbg hrd rfl ?_)
         | ((with_reducible refine acall_id ?_);refine ACall.cnt ih rfl rfl ?_)
         | with_reducible (first | refine zX ?_ | refine zD fun _=>?_ | refine zD0 ?_ | refine zN ?_ | refine zF0 ?_ | refine zX0 ?_ | refine z1 ?_ | refine z2 ?_ | refine z3 ?_ | refine z4 ?_ | refine z5 ?_ | refine z6 ?_ | refine z7 ?_ | refine z8 ?_ | refine y1 ?_ | refine y2 ?_ | refine y3 ?_ | refine y4 ?_ | refine y5 ?_ | refine y6 ?_ | refine y7 ?_ | refine y8 ?_ | refine Rt.p (fun _=>?_) fun _=>?_)
         | ((with_reducible apply w_ixM);(focus exact rfl);(focus exact rfl);case' hk=>intro y hy) | ((with_reducible (first | apply w_val | apply q_ends));(focus exact rfl)))
        all_goals first
         | (exfalso;omega)
         | rfl
   | true=>
     rw[hdb] at hds
     have hd:(spOf d).2.1=true:=by rw[hs1,hdb]
     have hk:d.kind=4∨d.kind=5:=by simpa[drawsB] using hdb
     obtain⟨hb,ha⟩:=hx.d hd
     have hsz1:=hB.size hb
     have hle:=ht.le hb
     have hsm:=ht.sm
     change 0≤d.bag∧d.bag≤3 at hb
     change 1≤atI b d.bag at ha
     change bgSize B d.bag=atI b d.bag at hsz1
     change atI b d.bag≤sumB b at hle
     have hbe:spB (spOf d) b=setI b d.bag (atI b d.bag+ -1):=by unfold spB;rw[if_pos hd];rfl
     cases c with
     | nil=>
       have hr1:=rsize_c B hin d.bag hb
       have hp0:0≤(0:Int)∧(0:Int)<bgSize B d.bag:=by omega
       obtain⟨hq,hq2⟩:=pickW_ok hp0.1 hp0.2
       have hr2:=rwood_c B hin d.bag 0 hb hp0 (by decide)
       have hr3:=rwithout_c B hin d.bag (pickW B d.bag 0) hb hq
       have hB2:=hB.draw ht.l hn hb hq hq2
       rw[←hbe] at hB2
       have ih:=rcount_c n hn A _ _ _ [] .nsl (.inl ⟨rfl,rfl⟩) ht2 hr.2 hB2 (by omega) hcl
       rw[cntP_dn hd] at hbd ⊢
       change 0≤bgSize B d.bag*cntP (A.map spOf) [] (drawB B d.bag (pickW B d.bag 0))∧bgSize B d.bag*cntP (A.map spOf) [] (drawB B d.bag (pickW B d.bag 0))≤_ at hbd
       have hz:([]:List Int).length=0:=rfl
       rcases hc with⟨rfl,-⟩ | rfl
       all_goals
        refine RawC.walk (H:=hint92 Try.prog) ir92 Try.func92 rfl rfl rfl ?_
        unfold ir92
        repeat' (first
         | with_reducible (first | refine Rd.p ?_ | refine w_alt ?_ ?_ | refine zE ?_ | refine zE0 ?_)
         | (first | (refine w_boxN rfl hl ?_;intro g2) | refine w_ixP (f:=fun d:Dl=>[AV.int .i64 d.kind,.int .i64 d.bag,.int .i64 d.other,.int .i64 d.wood,.int .i64 d.count]) (l:=d::A) (pre:=[]) (y:=d) (post:=A) rfl rfl rfl ?_ | refine w_ldN rfl rfl hl ?_ | refine w_chkN rfl rfl hl rfl ?_ | refine w_slT (f:=fun d:Dl=>[AV.int .i64 d.kind,.int .i64 d.bag,.int .i64 d.other,.int .i64 d.wood,.int .i64 d.count]) rfl ?_)
         | with_reducible (first | refine zI fun y hy=>?_ | refine zL ?_ | refine zS ?_ | refine zA fun _=>?_ | refine zV ?_ | refine zC ?_ | refine zG ?_ | refine zU ?_ | refine zG0 ?_ | refine zU0 ?_ | refine zF ?_)
         | ((with_reducible refine acall_id ?_);refine ACall.val hds rfl rfl ?_)
         | ((with_reducible refine acall_id ?_);refine ACall.bg2i hr1 rfl ?_)
         | ((with_reducible refine acall_id ?_);refine ACall.bg2i hr2 rfl ?_)
         | ((with_reducible refine acall_id ?_);refine ACall.bg2b hr3 rfl ?_)
         | ((with_reducible refine acall_id ?_);refine ACall.cnt ih rfl rfl ?_)
         | with_reducible (first | refine zX ?_ | refine zD fun _=>?_ | refine zD0 ?_ | refine zN ?_ | refine zF0 ?_ | refine zX0 ?_ | refine z1 ?_ | refine z2 ?_ | refine z3 ?_ | refine z4 ?_ | refine z5 ?_ | refine z6 ?_ | refine z7 ?_ | refine z8 ?_ | refine y1 ?_ | refine y2 ?_ | refine y3 ?_ | refine y4 ?_ | refine y5 ?_ | refine y6 ?_ | refine y7 ?_ | refine y8 ?_ | refine Rt.p (fun _=>?_) fun _=>?_)
         | ((with_reducible apply w_ixM);(focus exact rfl);(focus exact rfl);case' hk=>intro y hy) | ((with_reducible (first | apply w_val | apply q_ends));(focus exact rfl)))
        all_goals first
         | (exfalso;omega)
         | rfl
     | cons w c=>
       rcases hc with⟨-,h⟩ | rfl
       · cases h
       have hz2:(w::c).length=c.length+1:=rfl
       rw[cntP_dc hd]
       obtain⟨hF0,hFb⟩:=cntW_bd hn ht hr hB hd w c
       obtain⟨F,hF⟩:∃F,cntW (spOf d) (A.map spOf) B w c=F:=⟨_,rfl⟩
       rw[hF] at hF0 hFb ⊢
       have hFv:∀v:Nat,F v=if d.kind=5 then (if (v:Int)=w then bgAt B d.bag v*cntP (A.map spOf) c (drawB B d.bag v) else 0) else bgAt B d.bag v*cntP (A.map spOf) (w::c) (drawB B d.bag v):=fun v=>by
        rw[←hF]
        unfold cntW
        rw[hs2]
        by_cases h5:d.kind=5
        · rw[if_pos h5,if_pos (by simp[h5])];rfl
        · rw[if_neg h5,if_neg (by simp;omega)];rfl
       refine RawC.walk (H:=hint92 Try.prog) ir92 Try.func92 rfl rfl rfl ?_
       unfold ir92
       repeat' (first
        | with_reducible (first | refine Rd.p ?_ | refine w_alt ?_ ?_ | refine zE ?_ | refine zE0 ?_)
        | (first | (refine w_boxN rfl hl ?_;intro g2) | refine w_ixP (f:=fun d:Dl=>[AV.int .i64 d.kind,.int .i64 d.bag,.int .i64 d.other,.int .i64 d.wood,.int .i64 d.count]) (l:=d::A) (pre:=[]) (y:=d) (post:=A) rfl rfl rfl ?_ | refine w_ixP (f:=fun x:Int=>[AV.int .i64 x]) (l:=w::c) (pre:=[]) (y:=w) (post:=c) rfl rfl rfl ?_ | refine w_ldN rfl rfl hl ?_ | refine w_chkN rfl rfl hl rfl ?_ | refine w_slT (f:=fun d:Dl=>[AV.int .i64 d.kind,.int .i64 d.bag,.int .i64 d.other,.int .i64 d.wood,.int .i64 d.count]) rfl ?_ | refine w_sl1 rfl ?_)
        | with_reducible (first | refine zI fun y hy=>?_ | refine zL ?_ | refine zS ?_ | refine zA fun _=>?_ | refine zV ?_ | refine zC ?_ | refine zG ?_ | refine zU ?_ | refine zG0 ?_ | refine zU0 ?_ | refine zF ?_)
        | ((with_reducible refine acall_id ?_);refine ACall.val hds rfl rfl ?_)
        | with_reducible (first | refine zX ?_ | refine zD fun _=>?_ | refine zD0 ?_ | refine zN ?_ | refine zF0 ?_ | refine zX0 ?_ | refine z1 ?_ | refine z2 ?_ | refine z3 ?_ | refine z4 ?_ | refine z5 ?_ | refine z6 ?_ | refine z7 ?_ | refine z8 ?_ | refine y1 ?_ | refine y2 ?_ | refine y3 ?_ | refine y4 ?_ | refine y5 ?_ | refine y6 ?_ | refine y7 ?_ | refine y8 ?_ | refine Rt.p (fun _=>?_) fun _=>?_)
        | ((with_reducible apply w_ixM);(focus exact rfl);(focus exact rfl);case' hk=>intro y hy) | ((with_reducible (first | apply w_val | apply q_ends));(focus exact rfl)))
       all_goals try (exfalso;omega)
       refine w_loopK [0,2,4,7] [4,7] (fun v:Nat=>v≤6) (fun v=>6-v) (fun v=>[(9,.int .i64 (v:Int)),(8,.int .i64 (nSum v F))]) (fun _=>[]) 0 (Nat.zero_le _) ⟨rfl,rfl,trivial⟩ trivial ?_
       rintro v hv e σ
       try dsimp only at hv ⊢
       by_cases hv6:v=6
       · subst hv6
         repeat' (first
          | with_reducible (first | refine Rd.p ?_ | refine w_alt ?_ ?_ | refine zE ?_ | refine zE0 ?_)
          | with_reducible (first | refine zI fun y hy=>?_ | refine zL ?_ | refine zS ?_ | refine zA fun _=>?_ | refine zV ?_ | refine zC ?_ | refine zG ?_ | refine zU ?_ | refine zG0 ?_ | refine zU0 ?_ | refine zF ?_)
          | with_reducible (first | refine zX ?_ | refine zD fun _=>?_ | refine zD0 ?_ | refine zN ?_ | refine zF0 ?_ | refine zX0 ?_ | refine z1 ?_ | refine z2 ?_ | refine z3 ?_ | refine z4 ?_ | refine z5 ?_ | refine z6 ?_ | refine z7 ?_ | refine z8 ?_ | refine y1 ?_ | refine y2 ?_ | refine y3 ?_ | refine y4 ?_ | refine y5 ?_ | refine y6 ?_ | refine y7 ?_ | refine y8 ?_ | refine Rt.p (fun _=>?_) fun _=>?_)
          | ((with_reducible apply w_ixM);(focus exact rfl);(focus exact rfl);case' hk=>intro y hy) | ((with_reducible (first | apply w_val | apply q_ends));(focus exact rfl)))
         all_goals first
          | (exfalso;omega)
          | rfl
       have hfv:=hFv v
       have hb1:=hFb v (by omega)
       have hb2:=hFb (v+1) (by omega)
       have hb3:=hF0 v (by omega)
       have hsuc:nSum (v+1) F=nSum v F+F v:=rfl
       have hat:=hin.at (d.bag.toNat*6+v)
       have ho:0+d.bag.toNat*6+v*1=d.bag.toNat*6+v:=by omega
       have hpl2:d.bag.toNat*6+v<B.length:=by omega
       have hbv:bgAt B d.bag v=B.getD (d.bag.toNat*6+v) 0:=rfl
       rw[hbv] at hfv
       by_cases h0:B.getD (d.bag.toNat*6+v) 0=0
       · have hz0:F v=0:=by
          rw[hfv,h0]
          simp only[Int.zero_mul]
          split
          · split<;>rfl
          · rfl
         repeat' (first
          | with_reducible (first | refine Rd.p ?_ | refine w_alt ?_ ?_ | refine zE ?_ | refine zE0 ?_)
          | (first | (refine w_boxN rfl hl ?_;intro g2) | refine w_ixP (f:=fun d:Dl=>[AV.int .i64 d.kind,.int .i64 d.bag,.int .i64 d.other,.int .i64 d.wood,.int .i64 d.count]) (l:=d::A) (pre:=[]) (y:=d) (post:=A) rfl rfl rfl ?_ | refine w_ixP (f:=fun x:Int=>[AV.int .i64 x]) (l:=w::c) (pre:=[]) (y:=w) (post:=c) rfl rfl rfl ?_ | refine w_ldN rfl rfl hl ?_ | refine w_chkN rfl rfl hl rfl ?_ | refine w_slT (f:=fun d:Dl=>[AV.int .i64 d.kind,.int .i64 d.bag,.int .i64 d.other,.int .i64 d.wood,.int .i64 d.count]) rfl ?_ | refine w_sl1 rfl ?_ | refine w_ldEl rfl ho rfl hpl2 ?_ | refine w_chkEl rfl ho rfl hpl2 rfl ?_)
          | with_reducible (first | refine zI fun y hy=>?_ | refine zL ?_ | refine zS ?_ | refine zA fun _=>?_ | refine zV ?_ | refine zC ?_ | refine zG ?_ | refine zU ?_ | refine zG0 ?_ | refine zU0 ?_ | refine zF ?_)
          | with_reducible (first | refine zX ?_ | refine zD fun _=>?_ | refine zD0 ?_ | refine zN ?_ | refine zF0 ?_ | refine zX0 ?_ | refine z1 ?_ | refine z2 ?_ | refine z3 ?_ | refine z4 ?_ | refine z5 ?_ | refine z6 ?_ | refine z7 ?_ | refine z8 ?_ | refine y1 ?_ | refine y2 ?_ | refine y3 ?_ | refine y4 ?_ | refine y5 ?_ | refine y6 ?_ | refine y7 ?_ | refine y8 ?_ | refine Rt.p (fun _=>?_) fun _=>?_)
          | ((with_reducible apply w_ixM);(focus exact rfl);(focus exact rfl);case' hk=>intro y hy) | ((with_reducible (first | apply w_val | apply q_ends));(focus exact rfl)))
         all_goals first
          | (exfalso;omega)
          | exact q_loop (v+1) (by show v+1≤6;omega) (by show 6-(v+1)<6-v;omega) ⟨int_eq (by simp),by show AV.int .i64 _=AV.int .i64 _;exact int_eq (by rw[hsuc,hz0];omega),trivial⟩ (by repeat' (first | exact slots_nil | apply slots_cons | rfl | (rw[map_snoc];rfl) | (rw[len_snoc];rfl) | (rw[hS];rfl) | (rw[hS,map_snoc];rfl) | (refine int_eq ?_;(try dsimp only);omega) | (refine congrArg AV.bool ?_;simp_all;done))) (by repeat' (first | exact kept_nil | apply kept_cons | rfl)) (by repeat' (first | exact kept_nil | apply kept_cons | rfl))
       have hB2:=hB.draw ht.l hn hb (w:=(v:Int)) (by omega) (by omega)
       rw[←hbe] at hB2
       have hr3:=rwithout_c B hin d.bag v hb (by omega)
       by_cases h5:d.kind=5
       · rw[if_pos h5] at hfv
         by_cases hvw:(v:Int)=w
         · rw[if_pos hvw] at hfv
           have ih:=rcount_c n hn A _ _ _ c _ (.inr rfl) ht2 hr.2 hB2 (by omega) (by omega)
           rw[hfv] at hb3 hsuc
           repeat' (first
            | with_reducible (first | refine Rd.p ?_ | refine w_alt ?_ ?_ | refine zE ?_ | refine zE0 ?_)
            | (first | (refine w_boxN rfl hl ?_;intro g2) | refine w_ixP (f:=fun d:Dl=>[AV.int .i64 d.kind,.int .i64 d.bag,.int .i64 d.other,.int .i64 d.wood,.int .i64 d.count]) (l:=d::A) (pre:=[]) (y:=d) (post:=A) rfl rfl rfl ?_ | refine w_ixP (f:=fun x:Int=>[AV.int .i64 x]) (l:=w::c) (pre:=[]) (y:=w) (post:=c) rfl rfl rfl ?_ | refine w_ldN rfl rfl hl ?_ | refine w_chkN rfl rfl hl rfl ?_ | refine w_slT (f:=fun d:Dl=>[AV.int .i64 d.kind,.int .i64 d.bag,.int .i64 d.other,.int .i64 d.wood,.int .i64 d.count]) rfl ?_ | refine w_sl1 rfl ?_ | refine w_ldEl rfl ho rfl hpl2 ?_ | refine w_chkEl rfl ho rfl hpl2 rfl ?_)
            | with_reducible (first | refine zI fun y hy=>?_ | refine zL ?_ | refine zS ?_ | refine zA fun _=>?_ | refine zV ?_ | refine zC ?_ | refine zG ?_ | refine zU ?_ | refine zG0 ?_ | refine zU0 ?_ | refine zF ?_)
            | ((with_reducible refine acall_id ?_);refine ACall.bg2b hr3 rfl ?_)
            | ((with_reducible refine acall_id ?_);refine ACall.cnt ih rfl rfl ?_)
            | with_reducible (first | refine zX ?_ | refine zD fun _=>?_ | refine zD0 ?_ | refine zN ?_ | refine zF0 ?_ | refine zX0 ?_ | refine z1 ?_ | refine z2 ?_ | refine z3 ?_ | refine z4 ?_ | refine z5 ?_ | refine z6 ?_ | refine z7 ?_ | refine z8 ?_ | refine y1 ?_ | refine y2 ?_ | refine y3 ?_ | refine y4 ?_ | refine y5 ?_ | refine y6 ?_ | refine y7 ?_ | refine y8 ?_ | refine Rt.p (fun _=>?_) fun _=>?_)
            | ((with_reducible apply w_ixM);(focus exact rfl);(focus exact rfl);case' hk=>intro y hy) | ((with_reducible (first | apply w_val | apply q_ends));(focus exact rfl)))
           all_goals first
            | (exfalso;omega)
            | exact q_loop (v+1) (by show v+1≤6;omega) (by show 6-(v+1)<6-v;omega) ⟨int_eq (by simp),by show AV.int .i64 _=AV.int .i64 _;exact int_eq hsuc.symm,trivial⟩ (by repeat' (first | exact slots_nil | apply slots_cons | rfl | (rw[map_snoc];rfl) | (rw[len_snoc];rfl) | (rw[hS];rfl) | (rw[hS,map_snoc];rfl) | (refine int_eq ?_;(try dsimp only);omega) | (refine congrArg AV.bool ?_;simp_all;done))) (by repeat' (first | exact kept_nil | apply kept_cons | rfl)) (by repeat' (first | exact kept_nil | apply kept_cons | rfl))
         · rw[if_neg hvw] at hfv
           repeat' (first
            | with_reducible (first | refine Rd.p ?_ | refine w_alt ?_ ?_ | refine zE ?_ | refine zE0 ?_)
            | (first | (refine w_boxN rfl hl ?_;intro g2) | refine w_ixP (f:=fun d:Dl=>[AV.int .i64 d.kind,.int .i64 d.bag,.int .i64 d.other,.int .i64 d.wood,.int .i64 d.count]) (l:=d::A) (pre:=[]) (y:=d) (post:=A) rfl rfl rfl ?_ | refine w_ixP (f:=fun x:Int=>[AV.int .i64 x]) (l:=w::c) (pre:=[]) (y:=w) (post:=c) rfl rfl rfl ?_ | refine w_ldN rfl rfl hl ?_ | refine w_chkN rfl rfl hl rfl ?_ | refine w_slT (f:=fun d:Dl=>[AV.int .i64 d.kind,.int .i64 d.bag,.int .i64 d.other,.int .i64 d.wood,.int .i64 d.count]) rfl ?_ | refine w_sl1 rfl ?_ | refine w_ldEl rfl ho rfl hpl2 ?_ | refine w_chkEl rfl ho rfl hpl2 rfl ?_)
            | with_reducible (first | refine zI fun y hy=>?_ | refine zL ?_ | refine zS ?_ | refine zA fun _=>?_ | refine zV ?_ | refine zC ?_ | refine zG ?_ | refine zU ?_ | refine zG0 ?_ | refine zU0 ?_ | refine zF ?_)
            | with_reducible (first | refine zX ?_ | refine zD fun _=>?_ | refine zD0 ?_ | refine zN ?_ | refine zF0 ?_ | refine zX0 ?_ | refine z1 ?_ | refine z2 ?_ | refine z3 ?_ | refine z4 ?_ | refine z5 ?_ | refine z6 ?_ | refine z7 ?_ | refine z8 ?_ | refine y1 ?_ | refine y2 ?_ | refine y3 ?_ | refine y4 ?_ | refine y5 ?_ | refine y6 ?_ | refine y7 ?_ | refine y8 ?_ | refine Rt.p (fun _=>?_) fun _=>?_)
            | ((with_reducible apply w_ixM);(focus exact rfl);(focus exact rfl);case' hk=>intro y hy) | ((with_reducible (first | apply w_val | apply q_ends));(focus exact rfl)))
           all_goals first
            | (exfalso;omega)
            | exact q_loop (v+1) (by show v+1≤6;omega) (by show 6-(v+1)<6-v;omega) ⟨int_eq (by simp),by show AV.int .i64 _=AV.int .i64 _;exact int_eq (by rw[hsuc,hfv];omega),trivial⟩ (by repeat' (first | exact slots_nil | apply slots_cons | rfl | (rw[map_snoc];rfl) | (rw[len_snoc];rfl) | (rw[hS];rfl) | (rw[hS,map_snoc];rfl) | (refine int_eq ?_;(try dsimp only);omega) | (refine congrArg AV.bool ?_;simp_all;done))) (by repeat' (first | exact kept_nil | apply kept_cons | rfl)) (by repeat' (first | exact kept_nil | apply kept_cons | rfl))
       · rw[if_neg h5] at hfv
         have ih:=rcount_c n hn A _ _ _ (w::c) _ (.inr rfl) ht2 hr.2 hB2 (by omega) (by omega)
         rw[hfv] at hb3 hsuc
         repeat' (first
          | with_reducible (first | refine Rd.p ?_ | refine w_alt ?_ ?_ | refine zE ?_ | refine zE0 ?_)
          | (first | (refine w_boxN rfl hl ?_;intro g2) | refine w_ixP (f:=fun d:Dl=>[AV.int .i64 d.kind,.int .i64 d.bag,.int .i64 d.other,.int .i64 d.wood,.int .i64 d.count]) (l:=d::A) (pre:=[]) (y:=d) (post:=A) rfl rfl rfl ?_ | refine w_ixP (f:=fun x:Int=>[AV.int .i64 x]) (l:=w::c) (pre:=[]) (y:=w) (post:=c) rfl rfl rfl ?_ | refine w_ldN rfl rfl hl ?_ | refine w_chkN rfl rfl hl rfl ?_ | refine w_slT (f:=fun d:Dl=>[AV.int .i64 d.kind,.int .i64 d.bag,.int .i64 d.other,.int .i64 d.wood,.int .i64 d.count]) rfl ?_ | refine w_sl1 rfl ?_ | refine w_ldEl rfl ho rfl hpl2 ?_ | refine w_chkEl rfl ho rfl hpl2 rfl ?_)
          | with_reducible (first | refine zI fun y hy=>?_ | refine zL ?_ | refine zS ?_ | refine zA fun _=>?_ | refine zV ?_ | refine zC ?_ | refine zG ?_ | refine zU ?_ | refine zG0 ?_ | refine zU0 ?_ | refine zF ?_)
          | ((with_reducible refine acall_id ?_);refine ACall.bg2b hr3 rfl ?_)
          | ((with_reducible refine acall_id ?_);refine ACall.cnt ih rfl rfl ?_)
          | with_reducible (first | refine zX ?_ | refine zD fun _=>?_ | refine zD0 ?_ | refine zN ?_ | refine zF0 ?_ | refine zX0 ?_ | refine z1 ?_ | refine z2 ?_ | refine z3 ?_ | refine z4 ?_ | refine z5 ?_ | refine z6 ?_ | refine z7 ?_ | refine z8 ?_ | refine y1 ?_ | refine y2 ?_ | refine y3 ?_ | refine y4 ?_ | refine y5 ?_ | refine y6 ?_ | refine y7 ?_ | refine y8 ?_ | refine Rt.p (fun _=>?_) fun _=>?_)
          | ((with_reducible apply w_ixM);(focus exact rfl);(focus exact rfl);case' hk=>intro y hy) | ((with_reducible (first | apply w_val | apply q_ends));(focus exact rfl)))
         all_goals first
          | (exfalso;omega)
          | exact q_loop (v+1) (by show v+1≤6;omega) (by show 6-(v+1)<6-v;omega) ⟨int_eq (by simp),by show AV.int .i64 _=AV.int .i64 _;exact int_eq hsuc.symm,trivial⟩ (by repeat' (first | exact slots_nil | apply slots_cons | rfl | (rw[map_snoc];rfl) | (rw[len_snoc];rfl) | (rw[hS];rfl) | (rw[hS,map_snoc];rfl) | (refine int_eq ?_;(try dsimp only);omega) | (refine congrArg AV.bool ?_;simp_all;done))) (by repeat' (first | exact kept_nil | apply kept_cons | rfl)) (by repeat' (first | exact kept_nil | apply kept_cons | rfl))
theorem upd_comm {σ:Sig} {p q:Nat} {x y:Nat×Res} (h:p≠q):upd (upd σ p x) q y=upd (upd σ q y) p x:=by
 funext j
 simp only[upd_eq]
 by_cases h1:j=q
 · subst h1;rw[if_pos rfl,if_neg (fun e=>h e.symm),if_pos rfl]
 · rw[if_neg h1,if_neg h1]
def pkV (g n k:Nat):AV:=match k with
 | 0=> .msl 1000 g n 1
 | k+1=> .sub 1000 g (k+1) (n-(k+1)) 1
theorem suf_get {p:Int} {qs ps:List Int} (h:p::qs<:+ps):ps.getD (ps.length-(p::qs).length) 0=p:=by
 obtain⟨pr,rfl⟩:=h
 rw[List.length_append,Nat.add_sub_cancel,List.getD_eq_getElem?_getD,List.getElem?_append_right (Nat.le_refl _),Nat.sub_self];rfl
section
variable {P:Program} {K:(Nat→AV)→Sig→Prop} {e:Nat→AV} {σ:Sig} {x:IOpd} {r:List IStep}
theorem w_movPk {g n k d:Nat} (hx:x.ev e=pkV g n k) (hc:stepsW P r K (upd e d (pkV g n k)) σ):stepsW P (⟨some d,none,.mov x⟩::r) K e σ:=by
 refine w_val (p:=True) (v:=pkV g n k) ?_ trivial hc
 show liftV (forceA (x.ev e))=_
 rw[hx]
 cases k<;>rfl
theorem w_ixPk {g n k d:Nat} (hx:x.ev e=pkV g n k) (hk:k<n) (hc:stepsW P r K (upd e d (.ref 1000 g k)) σ):stepsW P (⟨some d,none,.ixA 1 x (.k (.int .i64 0))⟩::r) K e σ:=by
 cases k with
 | zero=>
   refine w_val (p:=(1=1∧(0:Int)≤0∧(0:Int)<n)) (v:= .ref 1000 g 0) ?_ ⟨rfl,Int.le_refl _,by omega⟩ hc
   show ixAO 1 (x.ev e) (.int .i64 0)=_
   rw[hx];rfl
 | succ k=>
   refine w_val (p:=(1=1∧(0:Int)≤0∧(0:Int)<(n-(k+1):Nat))) (v:= .ref 1000 g (k+1)) ?_ ⟨rfl,Int.le_refl _,by omega⟩ hc
   show ixAO 1 (x.ev e) (.int .i64 0)=_
   rw[hx];rfl
theorem w_ldPk {g k d:Nat} {ps:List Int} {p:Int} (hx:x.ev e= .ref 1000 g k) (hσ:σ 1000=(g,.row (nI ps))) (hk:k<ps.length) (hp:ps.getD k 0=p) (hc:stepsW P r K (upd e d (.int .i64 p)) σ):stepsW P (⟨some d,none,.ld 1 false x⟩::r) K e σ:=
 w_ldEl hx rfl hσ hk (by rw[hp];exact hc)
theorem w_chkPk {g k d:Nat} {ps:List Int} {p:Int} (hx:x.ev e= .ref 1000 g k) (hσ:σ 1000=(g,.row (nI ps))) (hk:k<ps.length) (hp:ps.getD k 0=p) (he:e d= .int .i64 p) (hc:stepsW P r K e σ):stepsW P (⟨none,none,.chk 1 false x d⟩::r) K e σ:=
 w_chkEl hx rfl hσ hk (by rw[hp];exact he) hc
theorem w_slPk {g n k k2 d:Nat} (hx:x.ev e=pkV g n k) (hk:k<n) (h2:k+1=k2) (hc:stepsW P r K (upd e d (pkV g n k2)) σ):stepsW P (⟨some d,none,.slS 1 x (some (.k (.int .i64 1))) none none⟩::r) K e σ:=by
 subst h2
 cases k with
 | zero=>
   refine w_val (p:=(1=1∧(0:Int)≤1∧(1:Int)≤n∧(n:Int)≤n)) (v:=pkV g n 1) ?_ ⟨rfl,by decide,by omega,Int.le_refl _⟩ hc
   show slSO 1 e (x.ev e) (some (.k (.int .i64 1))) none none=_
   rw[hx]
   show some _=some _
   have:((n:Int)-1).toNat=n-1:=by omega
   show some ((1=1∧(0:Int)≤1∧(1:Int)≤n∧(n:Int)≤n),AV.sub 1000 g ((1:Int).toNat*1) ((n:Int)-1).toNat 1)=_
   rw[this];rfl
 | succ k=>
   refine w_val (p:=(1=1∧(0:Int)≤1∧(1:Int)≤(n-(k+1):Nat)∧((n-(k+1):Nat):Int)≤(n-(k+1):Nat))) (v:=pkV g n (k+1+1)) ?_ ⟨rfl,by decide,by omega,Int.le_refl _⟩ hc
   show slSO 1 e (x.ev e) (some (.k (.int .i64 1))) none none=_
   rw[hx]
   show some ((1=1∧(0:Int)≤1∧(1:Int)≤(n-(k+1):Nat)∧((n-(k+1):Nat):Int)≤(n-(k+1):Nat)),AV.sub 1000 g (k+1+(1:Int).toNat*1) (((n-(k+1):Nat):Int)-1).toNat 1)=_
   have:(((n-(k+1):Nat):Int)-1).toNat=n-(k+1+1):=by omega
   rw[this];rfl
end
theorem PlayM_c (g0:Nat) (G:Gm) (ps:List Int) (hw:G.ws.length<1000) (hd:G.ds.length<1000) (hs:∀w∈G.ws,w.name.size≤1000) (hps:ps.length<1000000):RawC Try.prog 28 [gmA G,.msl 1000 g0 ps.length 1] (sg [(1000,(g0,.row (nI ps)))]) (SR (fun (_:Unit) v=>v=plA (playO G ps)) (fun _=>[(1000,(g0,.row (nI ps)))])):=by
 have hck:=gCheck_c G hw hd hs
 obtain⟨R,hR⟩:∃R,playO G ps=R:=⟨_,rfl⟩
 rw[hR]
 unfold playO at hR
 by_cases h0:gmErr G=0
 rotate_left
 · rw[if_neg h0] at hR
   subst hR
   unfold plA
   rw[if_neg h0]
   refine RawC.walk (H:=hint28 Try.prog) ir28 Try.func28 rfl rfl rfl ?_
   unfold ir28
   repeat' (first
    | with_reducible (first | refine Rd.p ?_ | refine w_alt ?_ ?_ | refine zE ?_ | refine zE0 ?_)
    | with_reducible (first | refine zI fun y hy=>?_ | refine zL ?_ | refine zS ?_ | refine zA fun _=>?_ | refine zV ?_ | refine zC ?_ | refine zG ?_ | refine zU ?_ | refine zG0 ?_ | refine zU0 ?_ | refine zF ?_)
    | ((with_reducible refine acall_id ?_);refine ACall.val hck rfl rfl ?_)
    | with_reducible (first | refine zX ?_ | refine zD fun _=>?_ | refine zD0 ?_ | refine zN ?_ | refine zF0 ?_ | refine zX0 ?_ | refine z1 ?_ | refine z2 ?_ | refine z3 ?_ | refine z4 ?_ | refine z5 ?_ | refine z6 ?_ | refine z7 ?_ | refine z8 ?_ | refine y1 ?_ | refine y2 ?_ | refine y3 ?_ | refine y4 ?_ | refine y5 ?_ | refine y6 ?_ | refine y7 ?_ | refine y8 ?_ | refine Rt.p (fun _=>?_) fun _=>?_)
    | ((with_reducible apply w_ixM);(focus exact rfl);(focus exact rfl);case' hk=>intro y hy) | ((with_reducible (first | apply w_val | apply q_ends));(focus exact rfl)))
   all_goals first
    | (exfalso;omega)
    | exact⟨(),rfl,rfl,trivial⟩
 rw[if_pos h0] at hR
 rw[h0] at hck
 have hG:=gm_ok h0
 have hd24:=hG.d24
 have hcnt:=hG.cnt
 have hdl:=drawN_le hcnt
 refine RawC.walk (H:=hint28 Try.prog) ir28 Try.func28 rfl rfl rfl ?_
 unfold ir28
 repeat' (first
  | with_reducible (first | refine Rd.p ?_ | refine w_alt ?_ ?_ | refine zE ?_ | refine zE0 ?_)
  | with_reducible (first | refine zI fun y hy=>?_ | refine zL ?_ | refine zS ?_ | refine zA fun _=>?_ | refine zV ?_ | refine zC ?_ | refine zG ?_ | refine zU ?_ | refine zG0 ?_ | refine zU0 ?_ | refine zF ?_)
  | ((with_reducible refine acall_id ?_);refine ACall.val hck rfl rfl ?_)
  | with_reducible (first | refine zX ?_ | refine zD fun _=>?_ | refine zD0 ?_ | refine zN ?_ | refine zF0 ?_ | refine zX0 ?_ | refine z1 ?_ | refine z2 ?_ | refine z3 ?_ | refine z4 ?_ | refine z5 ?_ | refine z6 ?_ | refine z7 ?_ | refine z8 ?_ | refine y1 ?_ | refine y2 ?_ | refine y3 ?_ | refine y4 ?_ | refine y5 ?_ | refine y6 ?_ | refine y7 ?_ | refine y8 ?_ | refine Rt.p (fun _=>?_) fun _=>?_)
  | ((with_reducible apply w_ixM);(focus exact rfl);(focus exact rfl);case' hk=>intro y hy) | ((with_reducible (first | apply w_val | apply q_ends));(focus exact rfl)))
 all_goals try (exfalso;omega)
 refine w_loopK [1,2,26,27] [2,1000] (fun x:List Dl×List Dl=>G.ds=x.1++x.2) (fun x=>x.2.length) (fun x=>[(7,.int .i64 (drawN (stepsG x.1):Nat)),(28,.int .i64 (x.1.length:Int))]) (fun _=>[]) ([],G.ds) rfl ⟨rfl,rfl,trivial⟩ trivial ?_
 rintro⟨pre,post⟩ hl e σ
 dsimp only at hl ⊢
 have hlen:=congrArg List.length hl
 rw[List.length_append] at hlen
 have hdp:=drawN_le (l:=pre) fun d hd=>hcnt d (by rw[hl];simp[hd])
 cases post with
 | cons d post=>
   simp only[List.length_cons] at hlen
   have hdc:=hcnt d (by rw[hl];simp)
   have hdr:=draws_c d
   have hsn:drawN (stepsG (pre++[d]))=drawN (stepsG pre)+(if drawsB d=true then d.count.toNat else 0):=by
    show drawN ((pre++[d]).flatMap stp1)=_
    rw[List.flatMap_append,drawN_app,List.flatMap_cons,List.flatMap_nil,List.append_nil,drawN_stp];rfl
   cases hdb:drawsB d with
   | true=>
     rw[hdb] at hdr hsn
     rw[if_pos rfl] at hdr hsn
     have:=hdc hdb
     repeat' (first
      | with_reducible (first | refine Rd.p ?_ | refine w_alt ?_ ?_ | refine zE ?_ | refine zE0 ?_)
      | (refine w_ixP (f:=fun d:Dl=>[AV.int .i64 d.kind,.int .i64 d.bag,.int .i64 d.other,.int .i64 d.wood,.int .i64 d.count]) hl rfl rfl ?_)
      | with_reducible (first | refine zI fun y hy=>?_ | refine zL ?_ | refine zS ?_ | refine zA fun _=>?_ | refine zV ?_ | refine zC ?_ | refine zG ?_ | refine zU ?_ | refine zG0 ?_ | refine zU0 ?_ | refine zF ?_)
      | ((with_reducible refine acall_id ?_);refine ACall.val hdr rfl rfl ?_)
      | with_reducible (first | refine zX ?_ | refine zD fun _=>?_ | refine zD0 ?_ | refine zN ?_ | refine zF0 ?_ | refine zX0 ?_ | refine z1 ?_ | refine z2 ?_ | refine z3 ?_ | refine z4 ?_ | refine z5 ?_ | refine z6 ?_ | refine z7 ?_ | refine z8 ?_ | refine y1 ?_ | refine y2 ?_ | refine y3 ?_ | refine y4 ?_ | refine y5 ?_ | refine y6 ?_ | refine y7 ?_ | refine y8 ?_ | refine Rt.p (fun _=>?_) fun _=>?_)
      | ((with_reducible apply w_ixM);(focus exact rfl);(focus exact rfl);case' hk=>intro y hy) | ((with_reducible (first | apply w_val | apply q_ends));(focus exact rfl)))
     all_goals first
      | (exfalso;omega)
      | exact q_loop (pre++[d],post) (by show G.ds=_;rw[hl];simp) (Nat.lt_succ_self _) ⟨by show AV.int .i64 _=AV.int .i64 _;rw[hsn];exact int_eq (by omega),by rw[len_snoc];rfl,trivial⟩ (by repeat' (first | exact slots_nil | apply slots_cons | rfl | (rw[map_snoc];rfl) | (rw[len_snoc];rfl) | (rw[hS];rfl) | (rw[hS,map_snoc];rfl) | (refine int_eq ?_;(try dsimp only);omega) | (refine congrArg AV.bool ?_;simp_all;done))) (by repeat' (first | exact kept_nil | apply kept_cons | rfl)) (by repeat' (first | exact kept_nil | apply kept_cons | rfl))
   | false=>
     rw[hdb] at hdr hsn
     rw[if_neg Bool.false_ne_true] at hdr hsn
     repeat' (first
      | with_reducible (first | refine Rd.p ?_ | refine w_alt ?_ ?_ | refine zE ?_ | refine zE0 ?_)
      | (refine w_ixP (f:=fun d:Dl=>[AV.int .i64 d.kind,.int .i64 d.bag,.int .i64 d.other,.int .i64 d.wood,.int .i64 d.count]) hl rfl rfl ?_)
      | with_reducible (first | refine zI fun y hy=>?_ | refine zL ?_ | refine zS ?_ | refine zA fun _=>?_ | refine zV ?_ | refine zC ?_ | refine zG ?_ | refine zU ?_ | refine zG0 ?_ | refine zU0 ?_ | refine zF ?_)
      | ((with_reducible refine acall_id ?_);refine ACall.val hdr rfl rfl ?_)
      | with_reducible (first | refine zX ?_ | refine zD fun _=>?_ | refine zD0 ?_ | refine zN ?_ | refine zF0 ?_ | refine zX0 ?_ | refine z1 ?_ | refine z2 ?_ | refine z3 ?_ | refine z4 ?_ | refine z5 ?_ | refine z6 ?_ | refine z7 ?_ | refine z8 ?_ | refine y1 ?_ | refine y2 ?_ | refine y3 ?_ | refine y4 ?_ | refine y5 ?_ | refine y6 ?_ | refine y7 ?_ | refine y8 ?_ | refine Rt.p (fun _=>?_) fun _=>?_)
      | ((with_reducible apply w_ixM);(focus exact rfl);(focus exact rfl);case' hk=>intro y hy) | ((with_reducible (first | apply w_val | apply q_ends));(focus exact rfl)))
     all_goals first
      | (exfalso;omega)
      | exact q_loop (pre++[d],post) (by show G.ds=_;rw[hl];simp) (Nat.lt_succ_self _) ⟨by show AV.int .i64 _=AV.int .i64 _;rw[hsn];exact int_eq (by omega),by rw[len_snoc];rfl,trivial⟩ (by repeat' (first | exact slots_nil | apply slots_cons | rfl | (rw[map_snoc];rfl) | (rw[len_snoc];rfl) | (rw[hS];rfl) | (rw[hS,map_snoc];rfl) | (refine int_eq ?_;(try dsimp only);omega) | (refine congrArg AV.bool ?_;simp_all;done))) (by repeat' (first | exact kept_nil | apply kept_cons | rfl)) (by repeat' (first | exact kept_nil | apply kept_cons | rfl))
 | nil=>
 simp only[List.length_nil] at hlen
 rw[List.append_nil] at hl
 subst hl
 by_cases hln:ps.length=drawN (stepsG G.ds)
 rotate_left
 · rw[if_neg hln] at hR
   subst hR
   repeat' (first
    | with_reducible (first | refine Rd.p ?_ | refine w_alt ?_ ?_ | refine zE ?_ | refine zE0 ?_)
    | with_reducible (first | refine zI fun y hy=>?_ | refine zL ?_ | refine zS ?_ | refine zA fun _=>?_ | refine zV ?_ | refine zC ?_ | refine zG ?_ | refine zU ?_ | refine zG0 ?_ | refine zU0 ?_ | refine zF ?_)
    | with_reducible (first | refine zX ?_ | refine zD fun _=>?_ | refine zD0 ?_ | refine zN ?_ | refine zF0 ?_ | refine zX0 ?_ | refine z1 ?_ | refine z2 ?_ | refine z3 ?_ | refine z4 ?_ | refine z5 ?_ | refine z6 ?_ | refine z7 ?_ | refine z8 ?_ | refine y1 ?_ | refine y2 ?_ | refine y3 ?_ | refine y4 ?_ | refine y5 ?_ | refine y6 ?_ | refine y7 ?_ | refine y8 ?_ | refine Rt.p (fun _=>?_) fun _=>?_)
    | ((with_reducible apply w_ixM);(focus exact rfl);(focus exact rfl);case' hk=>intro y hy) | ((with_reducible (first | apply w_val | apply q_ends));(focus exact rfl)))
   all_goals first
    | (exfalso;omega)
    | exact⟨(),rfl,rfl,trivial⟩
 rw[if_pos hln] at hR
 repeat' (first
  | with_reducible (first | refine Rd.p ?_ | refine w_alt ?_ ?_ | refine zE ?_ | refine zE0 ?_)
  | with_reducible (first | refine zI fun y hy=>?_ | refine zL ?_ | refine zS ?_ | refine zA fun _=>?_ | refine zV ?_ | refine zC ?_ | refine zG ?_ | refine zU ?_ | refine zG0 ?_ | refine zU0 ?_ | refine zF ?_)
  | with_reducible (first | refine zX ?_ | refine zD fun _=>?_ | refine zD0 ?_ | refine zN ?_ | refine zF0 ?_ | refine zX0 ?_ | refine z1 ?_ | refine z2 ?_ | refine z3 ?_ | refine z4 ?_ | refine z5 ?_ | refine z6 ?_ | refine z7 ?_ | refine z8 ?_ | refine y1 ?_ | refine y2 ?_ | refine y3 ?_ | refine y4 ?_ | refine y5 ?_ | refine y6 ?_ | refine y7 ?_ | refine y8 ?_ | refine Rt.p (fun _=>?_) fun _=>?_)
  | ((with_reducible apply w_ixM);(focus exact rfl);(focus exact rfl);case' hk=>intro y hy) | ((with_reducible (first | apply w_val | apply q_ends));(focus exact rfl)))
 all_goals try (exfalso;omega)
 rename_i g12 g13
 refine w_loopK [12,46,47] [1000] (fun x:List Dl×List Dl×List Int×List Int×List Int×Nat×List Int×Int=>x.2.2.2.1<:+ps∧G.ds=x.1++x.2.1∧playS (stepsG x.2.1) x.2.2.1 x.2.2.2.1 x.2.2.2.2.1=playS (stepsG G.ds) bg0 ps []∧x.2.2.2.1.length=drawN (stepsG x.2.1)∧x.2.2.2.2.1.length≤12*x.1.length∧tbIn x.2.2.2.2.2.2.1 x.2.2.2.2.2.2.2∧runOK G.ws.length (stepsG x.2.1) x.2.2.2.2.2.2.1 x.2.2.2.2.2.2.2∧bgT G.ws.length x.2.2.2.2.2.2.1 x.2.2.1) (fun x=>x.2.1.length)
  (fun x=>[(48,.int .i64 (x.1.length:Int)),(1,pkV g0 ps.length (ps.length-x.2.2.2.1.length)),(13,.slc 1 (iR x.2.2.2.2.1) (.own 13 x.2.2.2.2.2.1))]) (fun x=>[(12,(g12,.row (nI x.2.2.1))),(13,(x.2.2.2.2.2.1,.row []))]) ([],G.ds,bg0,ps,[],g13,tb0.bags,tb0.mixed) ⟨List.suffix_refl _,rfl,rfl,hln,Nat.le_refl _,tb0_in,hG.ex,bgT0 _⟩ ⟨rfl,by dsimp only;rw[Nat.sub_self];rfl,rfl,trivial⟩ ⟨rfl,rfl,trivial⟩ ?_
 rintro⟨pre,post,B,qs,c,gc,b,m⟩ ⟨hsf,hl,hpl,hq,hcl,ht,hr,hB⟩ e1 σ1
 dsimp only at hsf hl hpl hq hcl ht hr hB ⊢
 have hlen:=congrArg List.length hl
 rw[List.length_append] at hlen
 have hBl:=hB.l
 have hin:=hB.bgin ht
 have hcl2:(iR c).length=c.length:=List.length_map _
 cases post with
 | nil=>
   simp only[List.length_nil] at hlen
   rw[show playS (stepsG []) B qs c=some c from rfl] at hpl
   rw[←hpl] at hR
   subst hR
   repeat' (first
    | with_reducible (first | refine Rd.p ?_ | refine w_alt ?_ ?_ | refine zE ?_ | refine zE0 ?_)
    | with_reducible (first | refine zI fun y hy=>?_ | refine zL ?_ | refine zS ?_ | refine zA fun _=>?_ | refine zV ?_ | refine zC ?_ | refine zG ?_ | refine zU ?_ | refine zG0 ?_ | refine zU0 ?_ | refine zF ?_)
    | with_reducible (first | refine zX ?_ | refine zD fun _=>?_ | refine zD0 ?_ | refine zN ?_ | refine zF0 ?_ | refine zX0 ?_ | refine z1 ?_ | refine z2 ?_ | refine z3 ?_ | refine z4 ?_ | refine z5 ?_ | refine z6 ?_ | refine z7 ?_ | refine z8 ?_ | refine y1 ?_ | refine y2 ?_ | refine y3 ?_ | refine y4 ?_ | refine y5 ?_ | refine y6 ?_ | refine y7 ?_ | refine y8 ?_ | refine Rt.p (fun _=>?_) fun _=>?_)
    | ((with_reducible apply w_ixM);(focus exact rfl);(focus exact rfl);case' hk=>intro y hy) | ((with_reducible (first | apply w_val | apply q_ends));(focus exact rfl)))
   all_goals first
    | (exfalso;omega)
    | exact⟨(),rfl,rfl,trivial⟩
 | cons d post=>
   simp only[List.length_cons] at hlen
   have hdc:=hcnt d (by rw[hl];simp)
   have hdr:=draws_c d
   have hst:stepsG (d::post)=stp1 d++stepsG post:=rfl
   rw[hst] at hpl hq hr
   cases hdb:drawsB d with
   | false=>
     have e1:stp1 d=[(d,false,decide (d.kind=6))]:=by unfold stp1;rw[hdb];rfl
     rw[hdb] at hdr
     rw[if_neg Bool.false_ne_true,Bool.false_and] at hdr
     rw[e1] at hpl hq hr
     have hx:=hr.1
     have hmix:=mixed_c d B hin (fun h2=>by obtain⟨q1,q2,q3,q4⟩:=hx.h2 rfl h2;have hm2:=ht.m;have hn6:=hG.n6;dsimp only at q1 q2 q3 q4;exact⟨q1,by omega,by omega⟩) (fun h3=>hx.h3 rfl h3)
     have hml:(mixedB d B).length=24:=(hB.mix ht.l hG.n6 hx rfl).l
     have hgo:∀c':List Int,c'=(if d.kind=6 then c++[d.wood] else c)→(qs<:+ps∧G.ds=(pre++[d])++post∧playS (stepsG post) (mixedB d B) qs c'=playS (stepsG G.ds) bg0 ps []∧qs.length=drawN (stepsG post)∧c'.length≤12*(pre++[d]).length∧tbIn (spB (d,false,decide (d.kind=6)) b) (spM (d,false,decide (d.kind=6)) m)∧runOK G.ws.length (stepsG post) (spB (d,false,decide (d.kind=6)) b) (spM (d,false,decide (d.kind=6)) m)∧bgT G.ws.length (spB (d,false,decide (d.kind=6)) b) (mixedB d B)):=fun c' hc'=>by
      refine⟨hsf,by rw[hl];simp,?_,?_,?_,(ht.step hx).1,hr.2,hB.mix ht.l hG.n6 hx rfl⟩
      · rw[←hpl,hc']
        show _=playS ((d,false,decide (d.kind=6))::stepsG post) B qs c
        rw[playS_f Bool.false_ne_true]
        by_cases h6:d.kind=6
        · rw[if_pos h6,if_pos (decide_eq_true h6)]
        · rw[if_neg h6,if_neg (by simpa using h6)]
      · rw[hq];rfl
      · rw[len_snoc,hc']
        split
        · rw[len_snoc];omega
        · omega
     by_cases h6:d.kind=6
     · repeat' (first
        | with_reducible (first | refine Rd.p ?_ | refine w_alt ?_ ?_ | refine zE ?_ | refine zE0 ?_)
        | (first | refine w_ixP (f:=fun d:Dl=>[AV.int .i64 d.kind,.int .i64 d.bag,.int .i64 d.other,.int .i64 d.wood,.int .i64 d.count]) hl rfl rfl ?_ | refine w_ldN rfl rfl hBl ?_ | refine w_stN rfl rfl (by rw[List.length_map];exact hBl) rfl hml ?_)
        | with_reducible (first | refine zI fun y hy=>?_ | refine zL ?_ | refine zS ?_ | refine zA fun _=>?_ | refine zV ?_ | refine zC ?_ | refine zG ?_ | refine zU ?_ | refine zG0 ?_ | refine zU0 ?_ | refine zF ?_)
        | ((with_reducible refine acall_id ?_);refine ACall.bgbg hmix rfl ?_)
        | ((with_reducible refine acall_id ?_);refine ACall.val hdr rfl rfl ?_)
        | with_reducible (first | refine zX ?_ | refine zD fun _=>?_ | refine zD0 ?_ | refine zN ?_ | refine zF0 ?_ | refine zX0 ?_ | refine z1 ?_ | refine z2 ?_ | refine z3 ?_ | refine z4 ?_ | refine z5 ?_ | refine z6 ?_ | refine z7 ?_ | refine z8 ?_ | refine y1 ?_ | refine y2 ?_ | refine y3 ?_ | refine y4 ?_ | refine y5 ?_ | refine y6 ?_ | refine y7 ?_ | refine y8 ?_ | refine Rt.p (fun _=>?_) fun _=>?_)
        | ((with_reducible apply w_ixM);(focus exact rfl);(focus exact rfl);case' hk=>intro y hy) | ((with_reducible (first | apply w_val | apply q_ends));(focus exact rfl)))
       all_goals try (exfalso;omega)
       rename_i gc'
       refine w_loopK [1,12,13,15,17,46,47,48] [12,13,15,1000] (fun _:Unit=>True) (fun _=>0) (fun _=>[(16,.int .i64 0)]) (fun _=>[]) () trivial ⟨rfl,trivial⟩ trivial ?_
       rintro⟨⟩ _ e2 σ2
       repeat' (first
        | with_reducible (first | refine Rd.p ?_ | refine w_alt ?_ ?_ | refine zE ?_ | refine zE0 ?_)
        | with_reducible (first | refine zI fun y hy=>?_ | refine zL ?_ | refine zS ?_ | refine zA fun _=>?_ | refine zV ?_ | refine zC ?_ | refine zG ?_ | refine zU ?_ | refine zG0 ?_ | refine zU0 ?_ | refine zF ?_)
        | with_reducible (first | refine zX ?_ | refine zD fun _=>?_ | refine zD0 ?_ | refine zN ?_ | refine zF0 ?_ | refine zX0 ?_ | refine z1 ?_ | refine z2 ?_ | refine z3 ?_ | refine z4 ?_ | refine z5 ?_ | refine z6 ?_ | refine z7 ?_ | refine z8 ?_ | refine y1 ?_ | refine y2 ?_ | refine y3 ?_ | refine y4 ?_ | refine y5 ?_ | refine y6 ?_ | refine y7 ?_ | refine y8 ?_ | refine Rt.p (fun _=>?_) fun _=>?_)
        | ((with_reducible apply w_ixM);(focus exact rfl);(focus exact rfl);case' hk=>intro y hy) | ((with_reducible (first | apply w_val | apply q_ends));(focus exact rfl)))
       all_goals first
        | (exfalso;omega)
        | exact q_loop (pre++[d],post,mixedB d B,qs,c++[d.wood],gc',_,_) (hgo _ (by rw[if_pos h6])) (by show post.length<post.length+1;omega) ⟨by rw[len_snoc];rfl,rfl,rfl,trivial⟩ (by repeat' (first | exact slots_nil | apply slots_cons | rfl | (rw[map_snoc];rfl) | (rw[len_snoc];rfl) | (rw[hS];rfl) | (rw[hS,map_snoc];rfl) | (refine int_eq ?_;(try dsimp only);omega) | (refine congrArg AV.bool ?_;simp_all;done))) (by repeat' (first | exact kept_nil | apply kept_cons | rfl)) (by repeat' (first | exact kept_nil | apply kept_cons | rfl))
     · repeat' (first
        | with_reducible (first | refine Rd.p ?_ | refine w_alt ?_ ?_ | refine zE ?_ | refine zE0 ?_)
        | (first | refine w_ixP (f:=fun d:Dl=>[AV.int .i64 d.kind,.int .i64 d.bag,.int .i64 d.other,.int .i64 d.wood,.int .i64 d.count]) hl rfl rfl ?_ | refine w_ldN rfl rfl hBl ?_ | refine w_stN rfl rfl (by rw[List.length_map];exact hBl) rfl hml ?_)
        | with_reducible (first | refine zI fun y hy=>?_ | refine zL ?_ | refine zS ?_ | refine zA fun _=>?_ | refine zV ?_ | refine zC ?_ | refine zG ?_ | refine zU ?_ | refine zG0 ?_ | refine zU0 ?_ | refine zF ?_)
        | ((with_reducible refine acall_id ?_);refine ACall.bgbg hmix rfl ?_)
        | ((with_reducible refine acall_id ?_);refine ACall.val hdr rfl rfl ?_)
        | with_reducible (first | refine zX ?_ | refine zD fun _=>?_ | refine zD0 ?_ | refine zN ?_ | refine zF0 ?_ | refine zX0 ?_ | refine z1 ?_ | refine z2 ?_ | refine z3 ?_ | refine z4 ?_ | refine z5 ?_ | refine z6 ?_ | refine z7 ?_ | refine z8 ?_ | refine y1 ?_ | refine y2 ?_ | refine y3 ?_ | refine y4 ?_ | refine y5 ?_ | refine y6 ?_ | refine y7 ?_ | refine y8 ?_ | refine Rt.p (fun _=>?_) fun _=>?_)
        | ((with_reducible apply w_ixM);(focus exact rfl);(focus exact rfl);case' hk=>intro y hy) | ((with_reducible (first | apply w_val | apply q_ends));(focus exact rfl)))
       all_goals try (exfalso;omega)
       refine w_loopK [1,12,13,15,17,46,47,48] [12,13,15,1000] (fun _:Unit=>True) (fun _=>0) (fun _=>[(16,.int .i64 0)]) (fun _=>[]) () trivial ⟨rfl,trivial⟩ trivial ?_
       rintro⟨⟩ _ e2 σ2
       repeat' (first
        | with_reducible (first | refine Rd.p ?_ | refine w_alt ?_ ?_ | refine zE ?_ | refine zE0 ?_)
        | with_reducible (first | refine zI fun y hy=>?_ | refine zL ?_ | refine zS ?_ | refine zA fun _=>?_ | refine zV ?_ | refine zC ?_ | refine zG ?_ | refine zU ?_ | refine zG0 ?_ | refine zU0 ?_ | refine zF ?_)
        | with_reducible (first | refine zX ?_ | refine zD fun _=>?_ | refine zD0 ?_ | refine zN ?_ | refine zF0 ?_ | refine zX0 ?_ | refine z1 ?_ | refine z2 ?_ | refine z3 ?_ | refine z4 ?_ | refine z5 ?_ | refine z6 ?_ | refine z7 ?_ | refine z8 ?_ | refine y1 ?_ | refine y2 ?_ | refine y3 ?_ | refine y4 ?_ | refine y5 ?_ | refine y6 ?_ | refine y7 ?_ | refine y8 ?_ | refine Rt.p (fun _=>?_) fun _=>?_)
        | ((with_reducible apply w_ixM);(focus exact rfl);(focus exact rfl);case' hk=>intro y hy) | ((with_reducible (first | apply w_val | apply q_ends));(focus exact rfl)))
       all_goals first
        | (exfalso;omega)
        | exact q_loop (pre++[d],post,mixedB d B,qs,c,gc,_,_) (hgo _ (by rw[if_neg h6])) (by show post.length<post.length+1;omega) ⟨by rw[len_snoc];rfl,rfl,rfl,trivial⟩ (by repeat' (first | exact slots_nil | apply slots_cons | rfl | (rw[map_snoc];rfl) | (rw[len_snoc];rfl) | (rw[hS];rfl) | (rw[hS,map_snoc];rfl) | (refine int_eq ?_;(try dsimp only);omega) | (refine congrArg AV.bool ?_;simp_all;done))) (by repeat' (first | exact kept_nil | apply kept_cons | rfl)) (by repeat' (first | exact kept_nil | apply kept_cons | rfl))
   | true=>
     have hdn:=hdc hdb
     have e1:stp1 d=List.replicate d.count.toNat (d,true,decide (d.kind=5)):=by unfold stp1;rw[hdb];rfl
     rw[hdb] at hdr
     rw[if_pos rfl,Bool.true_and] at hdr
     rw[e1] at hpl hq hr
     have hk45:d.kind=4∨d.kind=5:=by simpa[drawsB] using hdb
     have hmb:mixedB d B=B:=by unfold mixedB;rw[if_neg (by omega),if_neg (by omega)]
     have hmix:=mixed_c d B hin (fun h2=>by omega) (fun h3=>by omega)
     rw[hmb] at hmix
     repeat' (first
      | with_reducible (first | refine Rd.p ?_ | refine w_alt ?_ ?_ | refine zE ?_ | refine zE0 ?_)
      | (first | refine w_ixP (f:=fun d:Dl=>[AV.int .i64 d.kind,.int .i64 d.bag,.int .i64 d.other,.int .i64 d.wood,.int .i64 d.count]) hl rfl rfl ?_ | refine w_ldN rfl rfl hBl ?_ | refine w_stN rfl rfl (by rw[List.length_map];exact hBl) rfl hBl ?_)
      | with_reducible (first | refine zI fun y hy=>?_ | refine zL ?_ | refine zS ?_ | refine zA fun _=>?_ | refine zV ?_ | refine zC ?_ | refine zG ?_ | refine zU ?_ | refine zG0 ?_ | refine zU0 ?_ | refine zF ?_)
      | ((with_reducible refine acall_id ?_);refine ACall.bgbg hmix rfl ?_)
      | ((with_reducible refine acall_id ?_);refine ACall.val hdr rfl rfl ?_)
      | with_reducible (first | refine zX ?_ | refine zD fun _=>?_ | refine zD0 ?_ | refine zN ?_ | refine zF0 ?_ | refine zX0 ?_ | refine z1 ?_ | refine z2 ?_ | refine z3 ?_ | refine z4 ?_ | refine z5 ?_ | refine z6 ?_ | refine z7 ?_ | refine z8 ?_ | refine y1 ?_ | refine y2 ?_ | refine y3 ?_ | refine y4 ?_ | refine y5 ?_ | refine y6 ?_ | refine y7 ?_ | refine y8 ?_ | refine Rt.p (fun _=>?_) fun _=>?_)
      | ((with_reducible apply w_ixM);(focus exact rfl);(focus exact rfl);case' hk=>intro y hy) | ((with_reducible (first | apply w_val | apply q_ends));(focus exact rfl)))
     all_goals try (exfalso;omega)
     refine w_loopK [12,15,17,46,47,48] [15,1000] (fun x:Nat×List Int×List Int×List Int×Nat×List Int×Int=>x.2.2.1<:+ps∧playS (List.replicate x.1 (d,true,decide (d.kind=5))++stepsG post) x.2.1 x.2.2.1 x.2.2.2.1=playS (stepsG G.ds) bg0 ps []∧x.2.2.1.length=x.1+drawN (stepsG post)∧x.2.2.2.1.length+x.1≤12*(pre.length+1)∧tbIn x.2.2.2.2.2.1 x.2.2.2.2.2.2∧runOK G.ws.length (List.replicate x.1 (d,true,decide (d.kind=5))++stepsG post) x.2.2.2.2.2.1 x.2.2.2.2.2.2∧bgT G.ws.length x.2.2.2.2.2.1 x.2.1) (fun x=>x.1)
      (fun x=>[(1,pkV g0 ps.length (ps.length-x.2.2.1.length)),(13,.slc 1 (iR x.2.2.2.1) (.own 13 x.2.2.2.2.1)),(16,.int .i64 (x.1:Int))]) (fun x=>[(12,(g12,.row (nI x.2.1))),(13,(x.2.2.2.2.1,.row []))]) (d.count.toNat,B,qs,c,gc,b,m) ⟨hsf,hpl,by rw[hq,drawN_app,drawN_rep],by show c.length+d.count.toNat≤_;omega,ht,hr,hB⟩ ⟨rfl,rfl,int_eq (by show d.count=((d.count.toNat:Nat):Int);omega),trivial⟩ ⟨rfl,rfl,trivial⟩ ?_
     rintro⟨j,B1,qs1,c1,gc1,b1,m1⟩ ⟨isf,ipl,iq,ic,it,ir,iB⟩ e2 σ2
     dsimp only at isf ipl iq ic it ir iB ⊢
     clear hB hin ht hr hmix hBl hpl hcl2
     have hBl:=iB.l
     have hin:=iB.bgin it
     have hcl2:(iR c1).length=c1.length:=List.length_map _
     cases j with
     | zero=>
       repeat' (first
        | with_reducible (first | refine Rd.p ?_ | refine w_alt ?_ ?_ | refine zE ?_ | refine zE0 ?_)
        | with_reducible (first | refine zI fun y hy=>?_ | refine zL ?_ | refine zS ?_ | refine zA fun _=>?_ | refine zV ?_ | refine zC ?_ | refine zG ?_ | refine zU ?_ | refine zG0 ?_ | refine zU0 ?_ | refine zF ?_)
        | with_reducible (first | refine zX ?_ | refine zD fun _=>?_ | refine zD0 ?_ | refine zN ?_ | refine zF0 ?_ | refine zX0 ?_ | refine z1 ?_ | refine z2 ?_ | refine z3 ?_ | refine z4 ?_ | refine z5 ?_ | refine z6 ?_ | refine z7 ?_ | refine z8 ?_ | refine y1 ?_ | refine y2 ?_ | refine y3 ?_ | refine y4 ?_ | refine y5 ?_ | refine y6 ?_ | refine y7 ?_ | refine y8 ?_ | refine Rt.p (fun _=>?_) fun _=>?_)
        | ((with_reducible apply w_ixM);(focus exact rfl);(focus exact rfl);case' hk=>intro y hy) | ((with_reducible (first | apply w_val | apply q_ends));(focus exact rfl)))
       all_goals try (exfalso;omega)
       all_goals
        exact q_loop (pre++[d],post,B1,qs1,c1,gc1,b1,m1) ⟨isf,by rw[hl];simp,ipl,by rw[Nat.zero_add] at iq;exact iq,by show c1.length≤_;rw[len_snoc];exact ic,it,ir,iB⟩ (by show post.length<post.length+1;omega) ⟨by rw[len_snoc];rfl,rfl,rfl,trivial⟩ (by repeat' (first | exact slots_nil | apply slots_cons | rfl | (rw[map_snoc];rfl) | (rw[len_snoc];rfl) | (rw[hS];rfl) | (rw[hS,map_snoc];rfl) | (refine int_eq ?_;(try dsimp only);omega) | (refine congrArg AV.bool ?_;simp_all;done))) (by repeat' (first | exact kept_nil | apply kept_cons | rfl)) (by repeat' (first | exact kept_nil | apply kept_cons | rfl))
     | succ j=>
       cases qs1 with
       | nil=>exfalso;rw[List.length_nil] at iq;omega
       | cons p qs1=>
       have hsf1:qs1<:+ps:=List.IsSuffix.trans (List.suffix_cons p qs1) isf
       have hlsf:=isf.length_le
       have hkp:ps.getD (ps.length-(p::qs1).length) 0=p:=suf_get isf
       have hkl:ps.length-(p::qs1).length<ps.length:=by rw[List.length_cons] at hlsf ⊢;omega
       have hkn:ps.length-(p::qs1).length+1=ps.length-qs1.length:=by rw[List.length_cons] at hlsf ⊢;omega
       have hx:=ir.1
       obtain⟨hb,ha⟩:=hx.d rfl
       have hsz:=iB.size hb
       have hbs:=bgsize_c B1 hin d.bag hb
       have h12:=it.le hb
       have hsm:=it.sm
       have htm:=it.m
       dsimp only at ha hb hsz h12
       rw[List.replicate_succ,List.cons_append,playS_t rfl] at ipl
       dsimp only at ipl
       have hgi:=gin_c p 0 (bgSize B1 d.bag-1)
       by_cases hp:0≤p∧p<bgSize B1 d.bag
       · rw[if_pos hp] at ipl
         rw[show inB p 0 (bgSize B1 d.bag-1)=true from inB_t.2 (by omega)] at hgi
         repeat' (first
          | with_reducible (first | refine Rd.p ?_ | refine w_alt ?_ ?_ | refine zE ?_ | refine zE0 ?_)
          | (first | refine w_movPk (g:=g0) (n:=ps.length) (k:=ps.length-(p::qs1).length) rfl ?_ | refine w_ldN rfl rfl hBl ?_ | refine w_ixPk rfl hkl ?_ | refine w_ldPk rfl rfl hkl hkp ?_ | refine w_chkPk rfl rfl hkl hkp rfl ?_)
          | with_reducible (first | refine zI fun y hy=>?_ | refine zL ?_ | refine zS ?_ | refine zA fun _=>?_ | refine zV ?_ | refine zC ?_ | refine zG ?_ | refine zU ?_ | refine zG0 ?_ | refine zU0 ?_ | refine zF ?_)
          | ((with_reducible refine acall_id ?_);refine ACall.bgint hbs rfl ?_)
          | ((with_reducible refine acall_id ?_);refine ACall.val hgi rfl rfl ?_)
          | with_reducible (first | refine zX ?_ | refine zD fun _=>?_ | refine zD0 ?_ | refine zN ?_ | refine zF0 ?_ | refine zX0 ?_ | refine z1 ?_ | refine z2 ?_ | refine z3 ?_ | refine z4 ?_ | refine z5 ?_ | refine z6 ?_ | refine z7 ?_ | refine z8 ?_ | refine y1 ?_ | refine y2 ?_ | refine y3 ?_ | refine y4 ?_ | refine y5 ?_ | refine y6 ?_ | refine y7 ?_ | refine y8 ?_ | refine Rt.p (fun _=>?_) fun _=>?_)
          | ((with_reducible apply w_ixM);(focus exact rfl);(focus exact rfl);case' hk=>intro y hy) | ((with_reducible (first | apply w_val | apply q_ends));(focus exact rfl)))
         all_goals try (exfalso;omega)
         all_goals
          obtain⟨R6,hR6⟩:∃R6,rowB B1 d.bag=R6:=⟨_,rfl⟩
          have hRl:R6.length=6:=by rw[←hR6];exact rowB_len _ _
          have hRn:∀v∈R6,0≤v:=by rw[←hR6];exact rowB_nn iB.nn d.bag
          have hRs:R6.sum=bgSize B1 d.bag:=by rw[←hR6];rfl
          have hpw:pickW B1 d.bag p=(pickF R6 p:Nat):=by unfold pickW;rw[hR6]
          have hRg:∀w,w<6→R6.getD w 0=B1.getD (d.bag.toNat*6+w) 0:=fun w hw=>by rw[←hR6,rowB_get _ _ hw];rfl
          refine w_loopK [1,12,13,15,16,17,46,47,48] [12,13,15,1000] (fun x:Nat×Int=>(0≤x.2∧x.2<(R6.drop x.1).sum)∧x.2≤12∧x.1+pickF (R6.drop x.1) x.2=pickF R6 p∧x.1≤6) (fun x=>6-x.1) (fun x=>[(18,.int .i64 (x.1:Int)),(19,.int .i64 x.2)]) (fun _=>[]) (0,p) ⟨⟨hp.1,by show p<R6.sum;omega⟩,by show p≤12;omega,Nat.zero_add _,Nat.zero_le 6⟩ ⟨rfl,rfl,trivial⟩ trivial ?_
          rintro⟨w,k⟩ ⟨hk,hk12,hpk,hw6⟩ e3 σ3
          dsimp only at hk hk12 hpk hw6 ⊢
          have hw5:w<6:=by
           apply Classical.byContradiction
           intro h
           have:R6.drop w=[]:=List.drop_of_length_le (by omega)
           rw[this] at hk;simp at hk;omega
          have hdw:R6.drop w=R6.getD w 0::R6.drop (w+1):=by
           rw[List.drop_eq_getElem_cons (by omega),List.getD_eq_getElem?_getD,List.getElem?_eq_getElem (by omega)];rfl
          have hRw:=hRg w hw5
          have hin2:=hin.at (d.bag.toNat*6+w)
          have ho:0+d.bag.toNat*6+w*1=d.bag.toNat*6+w:=by omega
          have hpl2:d.bag.toNat*6+w<B1.length:=by omega
          rw[hdw,pickF] at hpk
          rw[hdw,List.sum_cons] at hk
          rw[hRw] at hpk hk
          by_cases hkw:k<B1.getD (d.bag.toNat*6+w) 0
          · rw[if_pos hkw] at hpk
            have hpw2:pickW B1 d.bag p=(w:Int):=by rw[hpw,←hpk];rfl
            rw[hpw2] at ipl
            have hdb2:=drawB_set B1 d.bag w
            rw[Int.toNat_natCast] at hdb2
            have hdl2:(drawB B1 d.bag w).length=24:=drawB_len hBl _ _
            have hB2:=iB.draw it.l hG.n6 hb (w:=(w:Int)) (by omega) (by show 0<B1.getD (d.bag.toNat*6+w) 0;omega)
            have hiq:qs1.length=j+drawN (stepsG post):=by rw[List.length_cons] at iq;omega
            have hts:=(it.step hx).1
            have hrs:=ir.2
            have hbe:spB (d,true,decide (d.kind=5)) b1=setI b1 d.bag (atI b1 d.bag+ -1):=by unfold spB;rw[if_pos rfl]
            rw[←hbe] at hB2
            by_cases h5:d.kind=5
            · rw[if_pos (decide_eq_true h5)] at ipl
              repeat' (first
               | with_reducible (first | refine Rd.p ?_ | refine w_alt ?_ ?_ | refine zE ?_ | refine zE0 ?_)
               | (first | refine w_ldEl rfl ho rfl hpl2 ?_ | refine w_stElC rfl ho rfl hpl2 rfl hdb2 ?_ | refine w_movPk (g:=g0) (n:=ps.length) (k:=ps.length-(p::qs1).length) rfl ?_ | refine w_slPk rfl hkl hkn ?_ | refine w_movPk (g:=g0) (n:=ps.length) (k:=ps.length-qs1.length) rfl ?_)
               | with_reducible (first | refine zI fun y hy=>?_ | refine zL ?_ | refine zS ?_ | refine zA fun _=>?_ | refine zV ?_ | refine zC ?_ | refine zG ?_ | refine zU ?_ | refine zG0 ?_ | refine zU0 ?_ | refine zF ?_)
               | with_reducible (first | refine zX ?_ | refine zD fun _=>?_ | refine zD0 ?_ | refine zN ?_ | refine zF0 ?_ | refine zX0 ?_ | refine z1 ?_ | refine z2 ?_ | refine z3 ?_ | refine z4 ?_ | refine z5 ?_ | refine z6 ?_ | refine z7 ?_ | refine z8 ?_ | refine y1 ?_ | refine y2 ?_ | refine y3 ?_ | refine y4 ?_ | refine y5 ?_ | refine y6 ?_ | refine y7 ?_ | refine y8 ?_ | refine Rt.p (fun _=>?_) fun _=>?_)
               | ((with_reducible apply w_ixM);(focus exact rfl);(focus exact rfl);case' hk=>intro y hy) | ((with_reducible (first | apply w_val | apply q_ends));(focus exact rfl)))
              all_goals try (exfalso;omega)
              all_goals
               rename_i gc2
               exact q_loop (j,drawB B1 d.bag w,qs1,c1++[(w:Int)],gc2,_,_) ⟨hsf1,ipl,hiq,by show (c1++[(w:Int)]).length+j≤_;rw[len_snoc];omega,hts,hrs,hB2⟩ (Nat.lt_succ_self _) ⟨rfl,rfl,int_eq (by simp),trivial⟩ (by repeat' (first | exact slots_nil | apply slots_cons | rfl | (rw[map_snoc];rfl) | (rw[len_snoc];rfl) | (rw[hS];rfl) | (rw[hS,map_snoc];rfl) | (refine int_eq ?_;(try dsimp only);omega) | (refine congrArg AV.bool ?_;simp_all;done))) (by repeat' (first | exact kept_nil | apply kept_cons | rfl)) (by repeat' (first | exact kept_nil | apply kept_cons | rfl))
            · rw[if_neg (by simpa using h5)] at ipl
              repeat' (first
               | with_reducible (first | refine Rd.p ?_ | refine w_alt ?_ ?_ | refine zE ?_ | refine zE0 ?_)
               | (first | refine w_ldEl rfl ho rfl hpl2 ?_ | refine w_stElC rfl ho rfl hpl2 rfl hdb2 ?_ | refine w_movPk (g:=g0) (n:=ps.length) (k:=ps.length-(p::qs1).length) rfl ?_ | refine w_slPk rfl hkl hkn ?_ | refine w_movPk (g:=g0) (n:=ps.length) (k:=ps.length-qs1.length) rfl ?_)
               | with_reducible (first | refine zI fun y hy=>?_ | refine zL ?_ | refine zS ?_ | refine zA fun _=>?_ | refine zV ?_ | refine zC ?_ | refine zG ?_ | refine zU ?_ | refine zG0 ?_ | refine zU0 ?_ | refine zF ?_)
               | with_reducible (first | refine zX ?_ | refine zD fun _=>?_ | refine zD0 ?_ | refine zN ?_ | refine zF0 ?_ | refine zX0 ?_ | refine z1 ?_ | refine z2 ?_ | refine z3 ?_ | refine z4 ?_ | refine z5 ?_ | refine z6 ?_ | refine z7 ?_ | refine z8 ?_ | refine y1 ?_ | refine y2 ?_ | refine y3 ?_ | refine y4 ?_ | refine y5 ?_ | refine y6 ?_ | refine y7 ?_ | refine y8 ?_ | refine Rt.p (fun _=>?_) fun _=>?_)
               | ((with_reducible apply w_ixM);(focus exact rfl);(focus exact rfl);case' hk=>intro y hy) | ((with_reducible (first | apply w_val | apply q_ends));(focus exact rfl)))
              all_goals first
               | (exfalso;omega)
               | exact q_loop (j,drawB B1 d.bag w,qs1,c1,gc1,_,_) ⟨hsf1,ipl,hiq,by show c1.length+j≤_;omega,hts,hrs,hB2⟩ (Nat.lt_succ_self _) ⟨rfl,rfl,int_eq (by simp),trivial⟩ (by repeat' (first | exact slots_nil | apply slots_cons | rfl | (rw[map_snoc];rfl) | (rw[len_snoc];rfl) | (rw[hS];rfl) | (rw[hS,map_snoc];rfl) | (refine int_eq ?_;(try dsimp only);omega) | (refine congrArg AV.bool ?_;simp_all;done))) (by repeat' (first | exact kept_nil | apply kept_cons | rfl)) (by repeat' (first | exact kept_nil | apply kept_cons | rfl))
          · rw[if_neg hkw] at hpk
            repeat' (first
             | with_reducible (first | refine Rd.p ?_ | refine w_alt ?_ ?_ | refine zE ?_ | refine zE0 ?_)
             | (first | refine w_ldEl rfl ho rfl hpl2 ?_)
             | with_reducible (first | refine zI fun y hy=>?_ | refine zL ?_ | refine zS ?_ | refine zA fun _=>?_ | refine zV ?_ | refine zC ?_ | refine zG ?_ | refine zU ?_ | refine zG0 ?_ | refine zU0 ?_ | refine zF ?_)
             | with_reducible (first | refine zX ?_ | refine zD fun _=>?_ | refine zD0 ?_ | refine zN ?_ | refine zF0 ?_ | refine zX0 ?_ | refine z1 ?_ | refine z2 ?_ | refine z3 ?_ | refine z4 ?_ | refine z5 ?_ | refine z6 ?_ | refine z7 ?_ | refine z8 ?_ | refine y1 ?_ | refine y2 ?_ | refine y3 ?_ | refine y4 ?_ | refine y5 ?_ | refine y6 ?_ | refine y7 ?_ | refine y8 ?_ | refine Rt.p (fun _=>?_) fun _=>?_)
             | ((with_reducible apply w_ixM);(focus exact rfl);(focus exact rfl);case' hk=>intro y hy) | ((with_reducible (first | apply w_val | apply q_ends));(focus exact rfl)))
            all_goals first
             | (exfalso;omega)
             | exact q_loop (w+1,k-B1.getD (d.bag.toNat*6+w) 0) ⟨by dsimp only;omega,by dsimp only;omega,by dsimp only;omega,hw5⟩ (by show 6-(w+1)<6-w;omega) ⟨by show AV.int .i64 _=AV.int .i64 _;exact int_eq (by simp),rfl,trivial⟩ (by repeat' (first | exact slots_nil | apply slots_cons | rfl | (rw[map_snoc];rfl) | (rw[len_snoc];rfl) | (rw[hS];rfl) | (rw[hS,map_snoc];rfl) | (refine int_eq ?_;(try dsimp only);omega) | (refine congrArg AV.bool ?_;simp_all;done))) (by repeat' (first | exact kept_nil | apply kept_cons | rfl)) (by repeat' (first | exact kept_nil | apply kept_cons | rfl))
       · rw[if_neg hp] at ipl
         rw[←ipl] at hR
         subst hR
         rw[show inB p 0 (bgSize B1 d.bag-1)=false from inB_f.2 (by omega)] at hgi
         repeat' (first
          | with_reducible (first | refine Rd.p ?_ | refine w_alt ?_ ?_ | refine zE ?_ | refine zE0 ?_)
          | (first | refine w_movPk (g:=g0) (n:=ps.length) (k:=ps.length-(p::qs1).length) rfl ?_ | refine w_ldN rfl rfl hBl ?_ | refine w_ixPk rfl hkl ?_ | refine w_ldPk rfl rfl hkl hkp ?_ | refine w_chkPk rfl rfl hkl hkp rfl ?_)
          | with_reducible (first | refine zI fun y hy=>?_ | refine zL ?_ | refine zS ?_ | refine zA fun _=>?_ | refine zV ?_ | refine zC ?_ | refine zG ?_ | refine zU ?_ | refine zG0 ?_ | refine zU0 ?_ | refine zF ?_)
          | ((with_reducible refine acall_id ?_);refine ACall.bgint hbs rfl ?_)
          | ((with_reducible refine acall_id ?_);refine ACall.val hgi rfl rfl ?_)
          | with_reducible (first | refine zX ?_ | refine zD fun _=>?_ | refine zD0 ?_ | refine zN ?_ | refine zF0 ?_ | refine zX0 ?_ | refine z1 ?_ | refine z2 ?_ | refine z3 ?_ | refine z4 ?_ | refine z5 ?_ | refine z6 ?_ | refine z7 ?_ | refine z8 ?_ | refine y1 ?_ | refine y2 ?_ | refine y3 ?_ | refine y4 ?_ | refine y5 ?_ | refine y6 ?_ | refine y7 ?_ | refine y8 ?_ | refine Rt.p (fun _=>?_) fun _=>?_)
          | ((with_reducible apply w_ixM);(focus exact rfl);(focus exact rfl);case' hk=>intro y hy) | ((with_reducible (first | apply w_val | apply q_ends));(focus exact rfl)))
         all_goals first
          | (exfalso;omega)
          | exact⟨(),rfl,rfl,trivial⟩
def ir27:IFn:=
 ⟨31,[(4,none)],(.seq (.ops [oo 4 (.mov (kB false))])
 (.seq (.seq (.ops [oo 6 (.mov 0),
 oo 7 (.len false 6),
 oo 8 (.bin .sub 7 (kI 1)),
 oo 5 (.mov 8)])
 (.blk 0 (.loop (.seq (.seq (.ops [oo 9 (.mov 5),
 oo 10 (.bin .geq 9 (kI 0))])
 (.cnd 10
 .skip
 (.exit 0)))
 (.seq (.blk 1 (.seq (.ops [oo 13 (.mov 0),
 oo 14 (.mov 5),
 oo 15 (.ixA 1 13 14),
 oo 16 (.ld 1 false 15),
 oo 17 (.bin .add 16 (kI 1)),
 oo 18 (.ixA 1 13 14),
 ⟨none,none,(.st 1 18 17)⟩])
 (.seq (.seq (.ops [oo 19 (.mov 0),
 oo 20 (.mov 5),
 oo 21 (.ixA 1 19 20),
 oo 22 (.ld 1 false 21),
 oo 23 (.mov 1),
 oo 24 (.mov 5),
 oo 25 (.ixA 1 23 24),
 oo 26 (.ld 1 false 25),
 oo 27 (.bin .lss 22 26)])
 (.cnd 27
 (.seq (.ops [oo 4 (.mov (kB true))])
 .ret)
 .skip))
 (.ops [oo 28 (.mov 0),
 oo 29 (.mov 5),
 oo 30 (.ixA 1 28 29),
 ⟨none,none,(.st 1 30 (kI 0))⟩]))))
 (.ops [oo 11 (.mov 5),
 oo 12 (.bin .sub 11 (kI 1)),
 oo 5 (.mov 12)]))))))
 (.seq (.ops [oo 4 (.mov (kB false))])
 .ret)))⟩
def hint27 (P:Program):Hint:={}
def npF:List Int→List Int→Option (List Int)
 | s::r,p::ps=>match npF r ps with
   | some q=>some (p::q)
   | none=>if p+1<s then some ((p+1)::List.replicate r.length 0) else none
 | _,_=>none
theorem npF_cons (s p:Int) (r ps:List Int):npF (s::r) (p::ps)=match npF r ps with
 | some q=>some (p::q)
 | none=>if p+1<s then some ((p+1)::List.replicate r.length 0) else none:=by rw[npF]
theorem npF_app:∀(s0 p0:List Int) (s p:Int) (s1 p1:List Int),s0.length=p0.length→npF s1 p1=none→npF (s0++s::s1) (p0++p::p1)=if p+1<s then some (p0++(p+1)::List.replicate s1.length 0) else npF (s0++s::s1) (p0++p::p1)
 | [],[],s,p,s1,p1,_,h=>by
   show npF (s::s1) (p::p1)=if _ then _ else npF (s::s1) (p::p1)
   rw[npF_cons,h]
   show (if p+1<s then _ else none)=if p+1<s then _ else (if p+1<s then _ else none)
   by_cases hp:p+1<s
   · rw[if_pos hp,if_pos hp];rfl
   · rw[if_neg hp,if_neg hp]
 | a::s0,b::p0,s,p,s1,p1,hl,h=>by
   have ih:=npF_app s0 p0 s p s1 p1 (by simpa using hl) h
   by_cases hp:p+1<s
   · rw[if_pos hp] at ih ⊢
     show npF (a::(s0++s::s1)) (b::(p0++p::p1))=_
     rw[npF_cons,ih];rfl
   · rw[if_neg hp]
 | [],_::_,_,_,_,_,hl,_=>by simp at hl
 | _::_,[],_,_,_,_,hl,_=>by simp at hl
theorem npF_none {s p:Int} {r ps:List Int} (h:npF r ps=none) (hp:¬p+1<s):npF (s::r) (p::ps)=none:=by rw[npF_cons,h];exact if_neg hp
def npO (sz ps:List Int):List Int×Bool:=match npF sz ps with
 | some q=>(q,true)
 | none=>(List.replicate sz.length 0,false)
def flw {α:Type} (f:α→Option α):List α→Prop
 | []=>True
 | [_]=>True
 | a::b::r=>f a=some b∧flw f (b::r)
theorem flw_app {α:Type} {f:α→Option α} {b:α} {r:List α}:∀{l:List α},flw f l→(∀a,l.getLast?=some a→f a=some b)→flw f (b::r)→flw f (l++b::r)
 | [],_,_,h=>h
 | [a],_,h1,h=>⟨h1 a rfl,h⟩
 | a::c::l,h0,h1,h=>⟨h0.1,flw_app (l:=c::l) h0.2 (fun x hx=>h1 x (by rw[←hx];rfl)) h⟩
theorem flw_map {α β:Type} {f:α→Option α} {g:β→Option β} {m:α→β} (h:∀a b,f a=some b→g (m a)=some (m b)):∀{l:List α},flw f l→flw g (l.map m)
 | [],_=>trivial
 | [_],_=>trivial
 | a::b::r,h0=>⟨h a b h0.1,flw_map h h0.2⟩
theorem flw_mid {α:Type} {f:α→Option α} {a b:α} {post:List α}:∀{pre:List α},flw f (pre++a::b::post)→f a=some b
 | [],h=>h.1
 | [_],h=>h.2.1
 | _::c::pre,h=>flw_mid (pre:=c::pre) h.2
theorem allP_cons_ne {sz:List Int} (h:∀s∈sz,1≤s):∃r,allP sz=List.replicate sz.length 0::r:=by
 induction sz with
 | nil=>exact⟨[],rfl⟩
 | cons s sz ih=>
   obtain⟨r,hr⟩:=ih fun x hx=>h x (by simp[hx])
   have h1:=h s (by simp)
   obtain⟨n,hn⟩:∃n,s.toNat=n+1:=⟨s.toNat-1,by omega⟩
   rw[allP,hn,List.range_succ_eq_map,List.flatMap_cons,hr]
   exact⟨_,rfl⟩
theorem allP_flw:∀{sz:List Int},(∀s∈sz,1≤s)→flw (npF sz) (allP sz)∧ ∀a,(allP sz).getLast?=some a→npF sz a=none
 | [],_=>⟨trivial,fun a ha=>by cases ha;rfl⟩
 | s::r,h=>by
   obtain⟨i1,i2⟩:=allP_flw (sz:=r) fun x hx=>h x (by simp[hx])
   obtain⟨t,ht⟩:=allP_cons_ne (sz:=r) fun x hx=>h x (by simp[hx])
   have hs:=h s (by simp)
   have key:∀n:Nat,1≤n→(n:Int)≤s→flw (npF (s::r)) ((List.range n).flatMap fun (p:Nat)=>(allP r).map fun l=>(p:Int)::l)∧ ∃a,((List.range n).flatMap fun (p:Nat)=>(allP r).map fun l=>(p:Int)::l).getLast?=some (((n:Int)-1)::a)∧npF r a=none:=by
    intro n hn hns
    obtain⟨z,hz⟩:∃z,(allP r).getLast?=some z:=by rw[ht];exact⟨_,List.getLast?_eq_some_getLast (by simp)⟩
    have hblk:∀p:Int,flw (npF (s::r)) ((allP r).map fun l=>p::l):=fun p=>flw_map (fun a b hab=>by rw[npF_cons,hab]) i1
    induction n with
    | zero=>omega
    | succ n ih=>
      rw[List.range_succ,List.flatMap_append,List.flatMap_cons,List.flatMap_nil,List.append_nil]
      have hlast:((allP r).map fun l=>(n:Int)::l).getLast?=some ((n:Int)::z):=by rw[List.getLast?_map,hz];rfl
      have e1:(((n+1:Nat):Int)-1)=n:=by omega
      by_cases hn0:n=0
      · subst hn0
        refine⟨hblk 0,z,?_,i2 z hz⟩
        rw[e1];exact hlast
      · obtain⟨j1,a,j2,j3⟩:=ih (by omega) (by omega)
        constructor
        · have hb:=hblk (n:Int)
          have e:((allP r).map fun l=>(n:Int)::l)=((n:Int)::List.replicate r.length 0)::t.map fun l=>(n:Int)::l:=by rw[ht,List.map_cons]
          rw[e] at hb ⊢
          refine flw_app j1 (fun x hx=>?_) hb
          rw[j2] at hx;cases hx
          rw[npF_cons,j3]
          show (if (n:Int)-1+1<s then _ else none)=_
          rw[if_pos (by omega),show (n:Int)-1+1=n by omega]
        · refine⟨z,?_,i2 z hz⟩
          rw[e1,List.getLast?_append,hlast];rfl
   obtain⟨k1,a,k2,k3⟩:=key s.toNat (by omega) (by omega)
   refine⟨k1,fun x hx=>?_⟩
   rw[allP,k2] at hx
   cases hx
   exact npF_none k3 (by omega)
theorem w_ldGet {P:Program} {K:(Nat→AV)→Sig→Prop} {e:Nat→AV} {σ:Sig} {x:IOpd} {r:List IStep} {i g off p d:Nat} {B:List Int} {v:Int} (hx:x.ev e= .ref i g off) (ho:off=p) (hσ:σ i=(g,.row (nI B))) (hp:p<B.length) (hv:B.getD p 0=v) (hk:stepsW P r K (upd e d (.int .i64 v)) σ):stepsW P (⟨some d,none,.ld 1 false x⟩::r) K e σ:=
 w_ldEl hx ho hσ hp (by rw[hv];exact hk)
theorem mid_get (q0:List Int) (p:Int) (r:List Int):(q0++p::r).getD q0.length 0=p:=by
 rw[List.getD_eq_getElem?_getD,List.getElem?_append_right (Nat.le_refl _),Nat.sub_self];rfl
theorem mid_set (q0:List Int) (p v:Int) (r:List Int):(q0++p::r).set q0.length v=q0++v::r:=by
 rw[List.set_append_right _ _ (Nat.le_refl _),Nat.sub_self];rfl
theorem nextPicks_c (g:Nat) (sz ps:List Int) (hl:ps.length=sz.length) (hb:ps.length<1000000) (hp:∀p∈ps,0≤p∧p≤1000):RawC Try.prog 27 [.msl 1000 g ps.length 1,.slc 1 (iR sz) .non] (sg [(1000,(g,.row (nI ps)))]) (SR (fun (_:Unit) v=>v= .bool (npO sz ps).2) (fun _=>[(1000,(g,.row (nI (npO sz ps).1)))])):=by
 have hsl:(iR sz).length=sz.length:=List.length_map _
 refine RawC.walk (H:=hint27 Try.prog) ir27 Try.func27 rfl rfl rfl ?_
 unfold ir27
 repeat' (first
  | with_reducible (first | refine Rd.p ?_ | refine w_alt ?_ ?_ | refine zE ?_ | refine zE0 ?_)
  | with_reducible (first | refine zI fun y hy=>?_ | refine zL ?_ | refine zS ?_ | refine zA fun _=>?_ | refine zV ?_ | refine zC ?_ | refine zG ?_ | refine zU ?_ | refine zG0 ?_ | refine zU0 ?_ | refine zF ?_)
  | with_reducible (first | refine zX ?_ | refine zD fun _=>?_ | refine zD0 ?_ | refine zN ?_ | refine zF0 ?_ | refine zX0 ?_ | refine z1 ?_ | refine z2 ?_ | refine z3 ?_ | refine z4 ?_ | refine z5 ?_ | refine z6 ?_ | refine z7 ?_ | refine z8 ?_ | refine y1 ?_ | refine y2 ?_ | refine y3 ?_ | refine y4 ?_ | refine y5 ?_ | refine y6 ?_ | refine y7 ?_ | refine y8 ?_ | refine Rt.p (fun _=>?_) fun _=>?_)
  | ((with_reducible apply w_ixM);(focus exact rfl);(focus exact rfl);case' hk=>intro y hy) | ((with_reducible (first | apply w_val | apply q_ends));(focus exact rfl)))
 all_goals try (exfalso;omega)
 refine w_loopK [0,1] [] (fun x:List Int×List Int×List Int×List Int=>ps=x.1++x.2.1∧sz=x.2.2.1++x.2.2.2∧x.1.length=x.2.2.1.length∧npF x.2.2.2 x.2.1=none) (fun x=>x.1.length) (fun x=>[(5,.int .i64 ((x.1.length:Int)-1))]) (fun x=>[(1000,(g,.row (nI (x.1++List.replicate x.2.1.length 0))))]) (ps,[],sz,[]) ⟨(List.append_nil _).symm,(List.append_nil _).symm,hl,rfl⟩ ⟨rfl,trivial⟩ ⟨by show _=(g,Res.row (nI (ps++[])));rw[List.append_nil];rfl,trivial⟩ ?_
 rintro⟨p0,p1,s0,s1⟩ ⟨h1,h2,h3,h4⟩ e σ
 dsimp only at h1 h2 h3 h4 ⊢
 have hn1:=congrArg List.length h1
 have hn2:=congrArg List.length h2
 rw[List.length_append] at hn1 hn2
 rcases List.eq_nil_or_concat p0 with rfl | ⟨q0,p,rfl⟩
 · have hz:([]:List Int).length=0:=rfl
   have hs0:s0=[]:=List.eq_nil_of_length_eq_zero (by omega)
   subst hs0
   rw[List.nil_append] at h1 h2
   have hnp:npO sz ps=(List.replicate ps.length 0,false):=by unfold npO;rw[h1,h2,h4,←h2,←h1,hl]
   rw[hnp]
   repeat' (first
    | with_reducible (first | refine Rd.p ?_ | refine w_alt ?_ ?_ | refine zE ?_ | refine zE0 ?_)
    | with_reducible (first | refine zI fun y hy=>?_ | refine zL ?_ | refine zS ?_ | refine zA fun _=>?_ | refine zV ?_ | refine zC ?_ | refine zG ?_ | refine zU ?_ | refine zG0 ?_ | refine zU0 ?_ | refine zF ?_)
    | with_reducible (first | refine zX ?_ | refine zD fun _=>?_ | refine zD0 ?_ | refine zN ?_ | refine zF0 ?_ | refine zX0 ?_ | refine z1 ?_ | refine z2 ?_ | refine z3 ?_ | refine z4 ?_ | refine z5 ?_ | refine z6 ?_ | refine z7 ?_ | refine z8 ?_ | refine y1 ?_ | refine y2 ?_ | refine y3 ?_ | refine y4 ?_ | refine y5 ?_ | refine y6 ?_ | refine y7 ?_ | refine y8 ?_ | refine Rt.p (fun _=>?_) fun _=>?_)
    | ((with_reducible apply w_ixM);(focus exact rfl);(focus exact rfl);case' hk=>intro y hy) | ((with_reducible (first | apply w_val | apply q_ends));(focus exact rfl)))
   all_goals first
    | (exfalso;omega)
    | exact⟨(),rfl,by rw[h1];rfl,trivial⟩
 · rcases List.eq_nil_or_concat s0 with rfl | ⟨t0,s,rfl⟩
   · exfalso;simp at h3
   simp only[List.concat_eq_append] at h1 h2 h3 hn1 hn2 ⊢
   rw[len_snoc,len_snoc] at h3
   rw[len_snoc] at hn1 hn2 ⊢
   have hq:q0.length=t0.length:=by omega
   rw[List.append_assoc] at h1 h2
   have hpp:=hp p (by rw[h1];simp)
   have hB:(q0++[p])++List.replicate p1.length 0=q0++p::List.replicate p1.length 0:=by simp
   rw[hB]
   have hBl:q0.length<(q0++p::List.replicate p1.length 0).length:=by simp
   have hBl2:q0.length<(q0++(p+1)::List.replicate p1.length 0).length:=by simp
   have ho:(((q0.length+1:Nat):Int)-1).toNat*1=q0.length:=by omega
   have hnf:=npF_app t0 q0 s p s1 p1 hq.symm h4
   have hsz:s1.length=p1.length:=by omega
   by_cases hps:p+1<s
   · rw[if_pos hps] at hnf
     have hnp:npO sz ps=(q0++(p+1)::List.replicate p1.length 0,true):=by unfold npO;rw[h1,h2];show (match npF (t0++s::s1) (q0++p::p1) with | some q=>(q,true) | none=>_)=_;rw[hnf,hsz]
     rw[hnp]
     repeat' (first
      | with_reducible (first | refine Rd.p ?_ | refine w_alt ?_ ?_ | refine zE ?_ | refine zE0 ?_)
      | (first | refine w_ldGet rfl ho rfl hBl (mid_get q0 p _) ?_ | refine w_ldGet rfl ho rfl hBl2 (mid_get q0 (p+1) _) ?_ | refine w_stElC rfl ho rfl hBl rfl (mid_set q0 p (p+1) _) ?_ | refine w_ixP (l:=sz) (pre:=t0) (y:=s) (post:=s1) h2 rfl (by show AV.int .i64 _=AV.int .i64 _;exact int_eq (by omega)) ?_)
      | with_reducible (first | refine zI fun y hy=>?_ | refine zL ?_ | refine zS ?_ | refine zA fun _=>?_ | refine zV ?_ | refine zC ?_ | refine zG ?_ | refine zU ?_ | refine zG0 ?_ | refine zU0 ?_ | refine zF ?_)
      | with_reducible (first | refine zX ?_ | refine zD fun _=>?_ | refine zD0 ?_ | refine zN ?_ | refine zF0 ?_ | refine zX0 ?_ | refine z1 ?_ | refine z2 ?_ | refine z3 ?_ | refine z4 ?_ | refine z5 ?_ | refine z6 ?_ | refine z7 ?_ | refine z8 ?_ | refine y1 ?_ | refine y2 ?_ | refine y3 ?_ | refine y4 ?_ | refine y5 ?_ | refine y6 ?_ | refine y7 ?_ | refine y8 ?_ | refine Rt.p (fun _=>?_) fun _=>?_)
      | ((with_reducible apply w_ixM);(focus exact rfl);(focus exact rfl);case' hk=>intro y hy) | ((with_reducible (first | apply w_val | apply q_ends));(focus exact rfl)))
     all_goals first
      | (exfalso;omega)
      | exact⟨(),rfl,rfl,trivial⟩
   · rw[if_neg hps] at hnf
     repeat' (first
      | with_reducible (first | refine Rd.p ?_ | refine w_alt ?_ ?_ | refine zE ?_ | refine zE0 ?_)
      | (first | refine w_ldGet rfl ho rfl hBl (mid_get q0 p _) ?_ | refine w_ldGet rfl ho rfl hBl2 (mid_get q0 (p+1) _) ?_ | refine w_stElC rfl ho rfl hBl rfl (mid_set q0 p (p+1) _) ?_ | refine w_stElC rfl ho rfl hBl2 rfl (mid_set q0 (p+1) 0 _) ?_ | refine w_ixP (l:=sz) (pre:=t0) (y:=s) (post:=s1) h2 rfl (by show AV.int .i64 _=AV.int .i64 _;exact int_eq (by omega)) ?_)
      | with_reducible (first | refine zI fun y hy=>?_ | refine zL ?_ | refine zS ?_ | refine zA fun _=>?_ | refine zV ?_ | refine zC ?_ | refine zG ?_ | refine zU ?_ | refine zG0 ?_ | refine zU0 ?_ | refine zF ?_)
      | with_reducible (first | refine zX ?_ | refine zD fun _=>?_ | refine zD0 ?_ | refine zN ?_ | refine zF0 ?_ | refine zX0 ?_ | refine z1 ?_ | refine z2 ?_ | refine z3 ?_ | refine z4 ?_ | refine z5 ?_ | refine z6 ?_ | refine z7 ?_ | refine z8 ?_ | refine y1 ?_ | refine y2 ?_ | refine y3 ?_ | refine y4 ?_ | refine y5 ?_ | refine y6 ?_ | refine y7 ?_ | refine y8 ?_ | refine Rt.p (fun _=>?_) fun _=>?_)
      | ((with_reducible apply w_ixM);(focus exact rfl);(focus exact rfl);case' hk=>intro y hy) | ((with_reducible (first | apply w_val | apply q_ends));(focus exact rfl)))
     all_goals first
      | (exfalso;omega)
      | exact q_loop (q0,p::p1,t0,s::s1) ⟨h1,h2,hq,npF_none h4 hps⟩ (by first | exact Nat.lt_succ_self _ | (show q0.length<(q0++[p]).length;rw[len_snoc];omega)) ⟨int_eq (by first | omega | (simp;done) | (simp;omega)),trivial⟩ ⟨rfl,trivial⟩ (by repeat' (first | exact kept_nil | apply kept_cons | rfl)) (by repeat' (first | exact kept_nil | apply kept_cons | rfl))
      | (exact q_loop (q0,p::p1,t0,s::s1) ⟨h1,h2,hq,npF_none h4 hps⟩ (by first | exact Nat.lt_succ_self _ | (show q0.length<(q0++[p]).length;rw[len_snoc];omega)) ⟨int_eq (by simp;omega),trivial⟩ ⟨rfl,trivial⟩ (by repeat' (first | exact kept_nil | apply kept_cons | rfl)) (by repeat' (first | exact kept_nil | apply kept_cons | rfl)))
theorem szL_288 {G:Gm} (h:GOK G):(szL (stepsG G.ds) tb0.bags).length≤288:=by
 have h1:=acts_len G.ds h.cnt
 have h2:=h.d24
 rw[←szL_nrm,←acts_sp,szL_len]
 have h3:drawN ((actsF G.ds).map spOf)≤((actsF G.ds).map spOf).length:=List.length_filter_le _ _
 rw[List.length_map] at h3
 omega
def ir29:IFn:=
 ⟨19,[(4,none)],(.seq (.ops [oo 4 (.mov (kI 0))])
 (.seq (.seq (.ops [oo 5 (.mov (kI 0))])
 (.blk 0 (.loop (.seq (.seq (.ops [oo 6 (.mov 5),
 oo 7 (.mov 0),
 oo 8 (.len false 7),
 oo 9 (.bin .lss 6 8)])
 (.cnd 9
 .skip
 (.exit 0)))
 (.seq (.blk 1 (.seq (.ops [oo 12 (.mov 0),
 oo 13 (.mov 5),
 oo 14 (.ixA 1 12 13),
 oo 15 (.ld 1 false 14),
 oo 16 (.mov 1),
 oo 17 (.callF 24 [15,16])])
 (.cnd 17
 (.seq (.ops [oo 18 (.mov 5),
 oo 4 (.mov 18)])
 .ret)
 .skip)))
 (.ops [oo 10 (.mov 5),
 oo 11 (.bin .add 10 (kI 1)),
 oo 5 (.mov 11)]))))))
 (.seq (.ops [oo 4 (.mov (.k (.int .i64 (-1))))])
 .ret)))⟩
def hint29 (P:Program):Hint:={}
def timF (most:Int):Int→List Int→Int
 | n,[]=>n
 | n,s::r=>timF most (min most (n*s)) r
theorem timF_bd {most:Int} (hm:1≤most):∀(L:List Int) {n:Int},0≤n∧n≤most→(∀s∈L,0≤s)→0≤timF most n L∧timF most n L≤most
 | [],_,h,_=>h
 | s::r,n,h,hs=>by
   have h0:=hs s (by simp)
   have:=Int.mul_nonneg h.1 h0
   exact timF_bd hm r ⟨by omega,by omega⟩ fun x hx=>hs x (by simp[hx])
theorem times_c (L:List Int) (most:Int) (hl:L.length<1000000) (hm:1≤most∧most≤1125899906842624) (hs:∀s∈L,0≤s∧s≤1000):Fn0 Try.prog 26 [.slc 1 (iR L) .non,.int .i64 most] (fun v=>v= .int .i64 (timF most 1 L)):=by
 have hL:(iR L).length=L.length:=List.length_map _
 refine RawC.walk (H:=hint26 Try.prog) ir26 Try.func26 rfl rfl rfl ?_
 unfold ir26
 repeat' (first
  | with_reducible (first | refine Rd.p ?_ | refine w_alt ?_ ?_ | refine zE ?_ | refine zE0 ?_)
  | with_reducible (first | refine zI fun y hy=>?_ | refine zL ?_ | refine zS ?_ | refine zA fun _=>?_ | refine zV ?_ | refine zC ?_ | refine zG ?_ | refine zU ?_ | refine zG0 ?_ | refine zU0 ?_ | refine zF ?_)
  | with_reducible (first | refine zX ?_ | refine zD fun _=>?_ | refine zD0 ?_ | refine zN ?_ | refine zF0 ?_ | refine zX0 ?_ | refine z1 ?_ | refine z2 ?_ | refine z3 ?_ | refine z4 ?_ | refine z5 ?_ | refine z6 ?_ | refine z7 ?_ | refine z8 ?_ | refine y1 ?_ | refine y2 ?_ | refine y3 ?_ | refine y4 ?_ | refine y5 ?_ | refine y6 ?_ | refine y7 ?_ | refine y8 ?_ | refine Rt.p (fun _=>?_) fun _=>?_)
  | ((with_reducible apply w_ixM);(focus exact rfl);(focus exact rfl);case' hk=>intro y hy) | ((with_reducible (first | apply w_val | apply q_ends));(focus exact rfl)))
 all_goals try (exfalso;omega)
 refine w_loopK [0,1] [] (fun x:List Int×List Int×Int=>L=x.1++x.2.1∧(0≤x.2.2∧x.2.2≤most)∧timF most x.2.2 x.2.1=timF most 1 L) (fun x=>x.2.1.length) (fun x=>[(5,.int .i64 x.2.2),(6,.int .i64 (x.1.length:Int))]) (fun _=>[]) ([],L,1) ⟨rfl,by dsimp only;omega,rfl⟩ ⟨rfl,rfl,trivial⟩ trivial ?_
 rintro⟨pre,post,n⟩ ⟨hl2,hn,ht⟩ e σ
 dsimp only at hl2 hn ht ⊢
 have hlen:=congrArg List.length hl2
 rw[List.length_append] at hlen
 cases post with
 | nil=>
   simp only[List.length_nil] at hlen
   rw[←ht]
   repeat' (first
    | with_reducible (first | refine Rd.p ?_ | refine w_alt ?_ ?_ | refine zE ?_ | refine zE0 ?_)
    | with_reducible (first | refine zI fun y hy=>?_ | refine zL ?_ | refine zS ?_ | refine zA fun _=>?_ | refine zV ?_ | refine zC ?_ | refine zG ?_ | refine zU ?_ | refine zG0 ?_ | refine zU0 ?_ | refine zF ?_)
    | with_reducible (first | refine zX ?_ | refine zD fun _=>?_ | refine zD0 ?_ | refine zN ?_ | refine zF0 ?_ | refine zX0 ?_ | refine z1 ?_ | refine z2 ?_ | refine z3 ?_ | refine z4 ?_ | refine z5 ?_ | refine z6 ?_ | refine z7 ?_ | refine z8 ?_ | refine y1 ?_ | refine y2 ?_ | refine y3 ?_ | refine y4 ?_ | refine y5 ?_ | refine y6 ?_ | refine y7 ?_ | refine y8 ?_ | refine Rt.p (fun _=>?_) fun _=>?_)
    | ((with_reducible apply w_ixM);(focus exact rfl);(focus exact rfl);case' hk=>intro y hy) | ((with_reducible (first | apply w_val | apply q_ends));(focus exact rfl)))
   all_goals first
    | (exfalso;omega)
    | rfl
 | cons s post=>
   simp only[List.length_cons] at hlen
   have h0:=hs s (by rw[hl2];simp)
   have hm0:0≤n*s:=Int.mul_nonneg hn.1 h0.1
   have hm1:n*s≤1125899906842624*1000:=Int.mul_le_mul (by omega) h0.2 h0.1 (by decide)
   repeat' (first
    | with_reducible (first | refine Rd.p ?_ | refine w_alt ?_ ?_ | refine zE ?_ | refine zE0 ?_)
    | (first | refine w_ixP (f:=fun x:Int=>[AV.int .i64 x]) hl2 rfl rfl ?_)
    | with_reducible (first | refine zI fun y hy=>?_ | refine zL ?_ | refine zS ?_ | refine zA fun _=>?_ | refine zV ?_ | refine zC ?_ | refine zG ?_ | refine zU ?_ | refine zG0 ?_ | refine zU0 ?_ | refine zF ?_)
    | with_reducible (first | refine zX ?_ | refine zD fun _=>?_ | refine zD0 ?_ | refine zN ?_ | refine zF0 ?_ | refine zX0 ?_ | refine z1 ?_ | refine z2 ?_ | refine z3 ?_ | refine z4 ?_ | refine z5 ?_ | refine z6 ?_ | refine z7 ?_ | refine z8 ?_ | refine y1 ?_ | refine y2 ?_ | refine y3 ?_ | refine y4 ?_ | refine y5 ?_ | refine y6 ?_ | refine y7 ?_ | refine y8 ?_ | refine Rt.p (fun _=>?_) fun _=>?_)
    | ((with_reducible apply w_ixM);(focus exact rfl);(focus exact rfl);case' hk=>intro y hy) | ((with_reducible (first | apply w_val | apply q_ends));(focus exact rfl)))
   all_goals first
    | (exfalso;omega)
    | exact q_loop (pre++[s],post,min most (n*s)) ⟨by show L=_;rw[hl2];simp,by dsimp only;omega,by show timF most _ post=_;rw[←ht];rfl⟩ (Nat.lt_succ_self _) ⟨rfl,by rw[len_snoc];rfl,trivial⟩ (by repeat' (first | exact slots_nil | apply slots_cons | rfl | (rw[map_snoc];rfl) | (rw[len_snoc];rfl) | (rw[hS];rfl) | (rw[hS,map_snoc];rfl) | (refine int_eq ?_;(try dsimp only);omega) | (refine congrArg AV.bool ?_;simp_all;done))) (by repeat' (first | exact kept_nil | apply kept_cons | rfl)) (by repeat' (first | exact kept_nil | apply kept_cons | rfl))
def plcI (x:List Int):List (List Int)→Int→Int
 | [],_=> -1
 | y::r,k=>if y=x then k else plcI x r (k+1)
theorem plcI_mem {x:List Int}:∀{l:List (List Int)} {k:Int},x∈l→ ∃i:Nat,l[i]?=some x∧plcI x l k=k+i
 | y::r,k,h=>by
   rw[plcI]
   by_cases e:y=x
   · rw[if_pos e];exact⟨0,by rw[e];rfl,by omega⟩
   · rw[if_neg e]
     obtain⟨i,h1,h2⟩:=plcI_mem (k:=k+1) ((List.mem_cons.1 h).resolve_left fun h=>e h.symm)
     exact⟨i+1,by simpa using h1,by rw[h2];omega⟩
theorem place_c (l:List (List Int)) (x:List Int) (hl:l.length<1000000) (hx:∀y∈l,y.length<1000000):Fn0 Try.prog 29 [.slc 1 (llR l) .non,.slc 1 (iR x) .non] (fun v=>v= .int .i64 (plcI x l 0)):=by
 have hL:(llR l).length=l.length:=List.length_map _
 refine RawC.walk (H:=hint29 Try.prog) ir29 Try.func29 rfl rfl rfl ?_
 unfold ir29
 repeat' (first
  | with_reducible (first | refine Rd.p ?_ | refine w_alt ?_ ?_ | refine zE ?_ | refine zE0 ?_)
  | with_reducible (first | refine zI fun y hy=>?_ | refine zL ?_ | refine zS ?_ | refine zA fun _=>?_ | refine zV ?_ | refine zC ?_ | refine zG ?_ | refine zU ?_ | refine zG0 ?_ | refine zU0 ?_ | refine zF ?_)
  | with_reducible (first | refine zX ?_ | refine zD fun _=>?_ | refine zD0 ?_ | refine zN ?_ | refine zF0 ?_ | refine zX0 ?_ | refine z1 ?_ | refine z2 ?_ | refine z3 ?_ | refine z4 ?_ | refine z5 ?_ | refine z6 ?_ | refine z7 ?_ | refine z8 ?_ | refine y1 ?_ | refine y2 ?_ | refine y3 ?_ | refine y4 ?_ | refine y5 ?_ | refine y6 ?_ | refine y7 ?_ | refine y8 ?_ | refine Rt.p (fun _=>?_) fun _=>?_)
  | ((with_reducible apply w_ixM);(focus exact rfl);(focus exact rfl);case' hk=>intro y hy) | ((with_reducible (first | apply w_val | apply q_ends));(focus exact rfl)))
 all_goals try (exfalso;omega)
 refine w_loopK [0,1] [] (fun q:List (List Int)×List (List Int)=>l=q.1++q.2∧plcI x q.2 (q.1.length:Int)=plcI x l 0) (fun q=>q.2.length) (fun q=>[(5,.int .i64 (q.1.length:Int))]) (fun _=>[]) ([],l) ⟨rfl,rfl⟩ ⟨rfl,trivial⟩ trivial ?_
 rintro⟨pre,post⟩ ⟨hl2,hp⟩ e σ
 dsimp only at hl2 hp ⊢
 have hlen:=congrArg List.length hl2
 rw[List.length_append] at hlen
 cases post with
 | nil=>
   simp only[List.length_nil] at hlen
   rw[←hp]
   repeat' (first
    | with_reducible (first | refine Rd.p ?_ | refine w_alt ?_ ?_ | refine zE ?_ | refine zE0 ?_)
    | with_reducible (first | refine zI fun y hy=>?_ | refine zL ?_ | refine zS ?_ | refine zA fun _=>?_ | refine zV ?_ | refine zC ?_ | refine zG ?_ | refine zU ?_ | refine zG0 ?_ | refine zU0 ?_ | refine zF ?_)
    | with_reducible (first | refine zX ?_ | refine zD fun _=>?_ | refine zD0 ?_ | refine zN ?_ | refine zF0 ?_ | refine zX0 ?_ | refine z1 ?_ | refine z2 ?_ | refine z3 ?_ | refine z4 ?_ | refine z5 ?_ | refine z6 ?_ | refine z7 ?_ | refine z8 ?_ | refine y1 ?_ | refine y2 ?_ | refine y3 ?_ | refine y4 ?_ | refine y5 ?_ | refine y6 ?_ | refine y7 ?_ | refine y8 ?_ | refine Rt.p (fun _=>?_) fun _=>?_)
    | ((with_reducible apply w_ixM);(focus exact rfl);(focus exact rfl);case' hk=>intro y hy) | ((with_reducible (first | apply w_val | apply q_ends));(focus exact rfl)))
   all_goals first
    | (exfalso;omega)
    | rfl
 | cons y post=>
   simp only[List.length_cons] at hlen
   have hy:=hx y (by rw[hl2];simp)
   have hE:=eq_c y x (by omega)
   rw[plcI] at hp
   by_cases hyx:y=x
   · rw[if_pos hyx] at hp
     rw[decide_eq_true hyx] at hE
     rw[←hp]
     repeat' (first
      | with_reducible (first | refine Rd.p ?_ | refine w_alt ?_ ?_ | refine zE ?_ | refine zE0 ?_)
      | (first | refine w_ixP hl2 rfl rfl ?_)
      | with_reducible (first | refine zI fun y hy=>?_ | refine zL ?_ | refine zS ?_ | refine zA fun _=>?_ | refine zV ?_ | refine zC ?_ | refine zG ?_ | refine zU ?_ | refine zG0 ?_ | refine zU0 ?_ | refine zF ?_)
      | ((with_reducible refine acall_id ?_);refine ACall.val hE rfl rfl ?_)
      | with_reducible (first | refine zX ?_ | refine zD fun _=>?_ | refine zD0 ?_ | refine zN ?_ | refine zF0 ?_ | refine zX0 ?_ | refine z1 ?_ | refine z2 ?_ | refine z3 ?_ | refine z4 ?_ | refine z5 ?_ | refine z6 ?_ | refine z7 ?_ | refine z8 ?_ | refine y1 ?_ | refine y2 ?_ | refine y3 ?_ | refine y4 ?_ | refine y5 ?_ | refine y6 ?_ | refine y7 ?_ | refine y8 ?_ | refine Rt.p (fun _=>?_) fun _=>?_)
      | ((with_reducible apply w_ixM);(focus exact rfl);(focus exact rfl);case' hk=>intro y hy) | ((with_reducible (first | apply w_val | apply q_ends));(focus exact rfl)))
     all_goals first
      | (exfalso;omega)
      | rfl
   · rw[if_neg hyx] at hp
     rw[decide_eq_false hyx] at hE
     repeat' (first
      | with_reducible (first | refine Rd.p ?_ | refine w_alt ?_ ?_ | refine zE ?_ | refine zE0 ?_)
      | (first | refine w_ixP hl2 rfl rfl ?_)
      | with_reducible (first | refine zI fun y hy=>?_ | refine zL ?_ | refine zS ?_ | refine zA fun _=>?_ | refine zV ?_ | refine zC ?_ | refine zG ?_ | refine zU ?_ | refine zG0 ?_ | refine zU0 ?_ | refine zF ?_)
      | ((with_reducible refine acall_id ?_);refine ACall.val hE rfl rfl ?_)
      | with_reducible (first | refine zX ?_ | refine zD fun _=>?_ | refine zD0 ?_ | refine zN ?_ | refine zF0 ?_ | refine zX0 ?_ | refine z1 ?_ | refine z2 ?_ | refine z3 ?_ | refine z4 ?_ | refine z5 ?_ | refine z6 ?_ | refine z7 ?_ | refine z8 ?_ | refine y1 ?_ | refine y2 ?_ | refine y3 ?_ | refine y4 ?_ | refine y5 ?_ | refine y6 ?_ | refine y7 ?_ | refine y8 ?_ | refine Rt.p (fun _=>?_) fun _=>?_)
      | ((with_reducible apply w_ixM);(focus exact rfl);(focus exact rfl);case' hk=>intro y hy) | ((with_reducible (first | apply w_val | apply q_ends));(focus exact rfl)))
     all_goals first
      | (exfalso;omega)
      | exact q_loop (pre++[y],post) ⟨by show l=_;rw[hl2];simp,by dsimp only;rw[len_snoc,←hp];simp⟩ (Nat.lt_succ_self _) ⟨by rw[len_snoc];rfl,trivial⟩ (by repeat' (first | exact slots_nil | apply slots_cons | rfl | (rw[map_snoc];rfl) | (rw[len_snoc];rfl) | (rw[hS];rfl) | (rw[hS,map_snoc];rfl) | (refine int_eq ?_;(try dsimp only);omega) | (refine congrArg AV.bool ?_;simp_all;done))) (by repeat' (first | exact kept_nil | apply kept_cons | rfl)) (by repeat' (first | exact kept_nil | apply kept_cons | rfl))
section
variable {P:Program} {α:Type} {row:α→List AV} {sz:Nat}
theorem setL_get2 {β:Type}:∀(xs pre ys post:List β),xs.length=ys.length→setL (pre++ys++post) pre.length xs=pre++xs++post
 | [],pre,[],post,_=>rfl
 | [],pre,y::ys,post,h=>by simp at h
 | x::xs,pre,[],post,h=>by simp at h
 | x::xs,pre,y::ys,post,h=>by
   have e:(pre++(y::ys)++post).set pre.length x=(pre++[x])++ys++post:=by simp
   rw[setL,e,show pre.length+1=(pre++[x]).length by simp,setL_get2 xs (pre++[x]) ys post (by simpa using h)]
   simp
theorem FlatR.setRow (h:FlatR row sz) {pre post:List α} {y y':α}:setL ((pre++y::post).map row).flatten (pre.length*sz) (row y')=((pre++y'::post).map row).flatten:=by
 have e:∀z,((pre++z::post).map row).flatten=(pre.map row).flatten++row z++(post.map row).flatten:=fun z=>by simp
 rw[e,e,←h.flat_len pre];exact setL_get2 _ _ _ _ (by rw[h.len,h.len])
end
def goV (s:Nat) (l:List (List Int×Int)) (h:Nat):AV:=match l with
 | []=> .nsl
 | _::_=> .slc 1 (llR (l.map (·.1))) (.own s h)
def goW (s:Nat) (l:List (List Int×Int)) (h:Nat):AV:=match l with
 | []=> .nsl
 | _::_=> .slc 1 (iR (l.map (·.2))) (.own s h)
def goX (l:List (List Int×Int)) (h:Nat):Nat×Res:=match l with
 | []=>(0,.dead)
 | _::_=>(h,.row [])
abbrev soR (G:Gm) (A:List Dl) (m:Int) (x y:AV):List AV:=[.slc 2 (wR G.ws) .non,.slc 5 (dlR G.ds) .non,.slc 5 (dlR A) .non,.int .i64 m,x,y]
abbrev soS (s g:Nat) (G:Gm) (A:List Dl) (m:Int) (l:List (List Int×Int)) (h1 h2:Nat):List (Nat×(Nat×Res)):=[(1000,(g,.row (soR G A m (goV s l h1) (goW (s+1) l h2)))),(s,goX l h1),(s+1,goX l h2)]
theorem ren_goV {ρ:List (Nat×Nat)} {s q:Nat} (h:lk ρ s=some q) (l:List (List Int×Int)) (g:Nat):ren ρ (goV s l g)=goV q l g:=by
 cases l with
 | nil=>rfl
 | cons x r=>
   show AV.slc 1 (llR ((x::r).map (·.1))) (renT ρ (.own s g))=_
   simp only[renT,h];rfl
theorem ren_goW {ρ:List (Nat×Nat)} {s q:Nat} (h:lk ρ s=some q) (l:List (List Int×Int)) (g:Nat):ren ρ (goW s l g)=goW q l g:=by
 cases l with
 | nil=>rfl
 | cons x r=>
   show AV.slc 1 (iR ((x::r).map (·.2))) (renT ρ (.own s g))=_
   simp only[renT,h];rfl
theorem goX_ren {ρ:List (Nat×Nat)} (l:List (List Int×Int)) (h:Nat):((goX l h).1,renR ρ (goX l h).2)=goX l h:=by cases l<;>rfl
end Go.Abs
