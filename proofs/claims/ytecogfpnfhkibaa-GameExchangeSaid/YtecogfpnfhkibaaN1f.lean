/- A part of the proofs of the laws of this seat: contracts of the functions that they reach, each proved of the program's form in Lean. No condition beyond those that each contract names. -/
import Derived.Test.YtecogfpnfhkibaaProg
import Derived.Test.YtecogfpnfhkibaaSnd3
import Derived.Lib.Overlaps
import Derived.Lib.AppendZerosOnto
import Derived.Deep.RegionLaw
import Derived.Laws.Externs
import Derived.Test.YtecogfpnfhkibaaA0
import Derived.Test.YtecogfpnfhkibaaN1a
import Derived.Test.YtecogfpnfhkibaaN1b
import Derived.Test.YtecogfpnfhkibaaN1c
import Derived.Test.YtecogfpnfhkibaaN1d
import Derived.Test.YtecogfpnfhkibaaN1e
set_option linter.unusedVariables false
set_option linter.unusedSimpArgs false
set_option maxRecDepth 20000
set_option maxHeartbeats 4000000
namespace Go.Abs
open Go.Proofs
theorem due_c (G:Gm) (a:Aq) (c:List Int) (hn:G.ws.length≤6) (hd:G.ds.length≤24) (h1:1≤c.length) (h9:c.length≤9) (hc:∀x∈c,0≤x∧x<(G.ws.length:Int)):Fn0 Try.prog 71 [gmA G,aqA a,.slc 1 (iR c) .non] (fun v=>v= .slc 1 (iR (dueF G a c)) .non):=by
 obtain⟨B,hB⟩:∃B,dueF G a c=B:=⟨_,rfl⟩
 rw[hB]
 unfold dueF at hB
 have hne:c≠[]:=fun h=>by subst h;simp at h1
 by_cases e1:a.kind=1
 · rw[if_pos e1] at hB
   subst hB
   refine RawC.walk (H:=hint71 Try.prog) ir71 Try.func71 rfl rfl rfl ?_
   unfold ir71
   repeat' (first
    | with_reducible (first | refine Rd.p ?_ | refine w_alt ?_ ?_ | refine zE ?_ | refine zE0 ?_)
    | with_reducible (first | refine zI fun y hy=>?_ | refine zL ?_ | refine zS ?_ | refine zA fun _=>?_ | refine zV ?_ | refine zC ?_ | refine zG ?_ | refine zU ?_ | refine zG0 ?_ | refine zU0 ?_ | refine zF ?_)
    | ((with_reducible refine acall_id ?_);refine ACall.val (chartOf_c c h1 h9) rfl rfl ?_)
    | with_reducible (first | refine zX ?_ | refine zD fun _=>?_ | refine zD0 ?_ | refine zN ?_ | refine zF0 ?_ | refine zX0 ?_ | refine z1 ?_ | refine z2 ?_ | refine z3 ?_ | refine z4 ?_ | refine z5 ?_ | refine z6 ?_ | refine z7 ?_ | refine z8 ?_ | refine y1 ?_ | refine y2 ?_ | refine y3 ?_ | refine y4 ?_ | refine y5 ?_ | refine y6 ?_ | refine y7 ?_ | refine y8 ?_ | refine Rt.p (fun _=>?_) fun _=>?_)
    | ((with_reducible apply w_ixM);(focus exact rfl);(focus exact rfl);case' hk=>intro y hy) | ((with_reducible (first | apply w_val | apply q_ends));(focus exact rfl)))
   all_goals first
    | (exfalso;omega)
    | rfl
 rw[if_neg e1] at hB
 by_cases e2:a.kind=2
 · rw[if_pos e2] at hB
   subst hB
   have hw:=where_c 98 [.slc 2 (wR G.ws) .non,.slc 5 (dlR G.ds) .non] (fun x=>!triedB G.ds x) c (by omega) fun x _=>due1_c G x (by omega)
   refine RawC.walk (H:=hint71 Try.prog) ir71 Try.func71 rfl rfl rfl ?_
   unfold ir71
   repeat' (first
    | with_reducible (first | refine Rd.p ?_ | refine w_alt ?_ ?_ | refine zE ?_ | refine zE0 ?_)
    | with_reducible (first | refine zI fun y hy=>?_ | refine zL ?_ | refine zS ?_ | refine zA fun _=>?_ | refine zV ?_ | refine zC ?_ | refine zG ?_ | refine zU ?_ | refine zG0 ?_ | refine zU0 ?_ | refine zF ?_)
    | (refine w_frzR rfl rfl rfl ?_)
    | ((with_reducible refine acall_id ?_);refine ACall.val hw rfl rfl ?_)
    | with_reducible (first | refine zX ?_ | refine zD fun _=>?_ | refine zD0 ?_ | refine zN ?_ | refine zF0 ?_ | refine zX0 ?_ | refine z1 ?_ | refine z2 ?_ | refine z3 ?_ | refine z4 ?_ | refine z5 ?_ | refine z6 ?_ | refine z7 ?_ | refine z8 ?_ | refine y1 ?_ | refine y2 ?_ | refine y3 ?_ | refine y4 ?_ | refine y5 ?_ | refine y6 ?_ | refine y7 ?_ | refine y8 ?_ | refine Rt.p (fun _=>?_) fun _=>?_)
    | ((with_reducible apply w_ixM);(focus exact rfl);(focus exact rfl);case' hk=>intro y hy) | ((with_reducible (first | apply w_val | apply q_ends));(focus exact rfl)))
   all_goals first
    | (exfalso;omega)
    | rfl
 rw[if_neg e2] at hB
 by_cases e4:a.kind=4
 · rw[if_pos e4] at hB
   subst hB
   have hw:=where_c 101 [.int .i64 a.kind,.int .i64 a.wood] (fun x=>decide (x=a.wood)) c (by omega) fun x _=>due2_c a x
   refine RawC.walk (H:=hint71 Try.prog) ir71 Try.func71 rfl rfl rfl ?_
   unfold ir71
   repeat' (first
    | with_reducible (first | refine Rd.p ?_ | refine w_alt ?_ ?_ | refine zE ?_ | refine zE0 ?_)
    | with_reducible (first | refine zI fun y hy=>?_ | refine zL ?_ | refine zS ?_ | refine zA fun _=>?_ | refine zV ?_ | refine zC ?_ | refine zG ?_ | refine zU ?_ | refine zG0 ?_ | refine zU0 ?_ | refine zF ?_)
    | (refine w_frzR rfl rfl rfl ?_)
    | ((with_reducible refine acall_id ?_);refine ACall.val hw rfl rfl ?_)
    | with_reducible (first | refine zX ?_ | refine zD fun _=>?_ | refine zD0 ?_ | refine zN ?_ | refine zF0 ?_ | refine zX0 ?_ | refine z1 ?_ | refine z2 ?_ | refine z3 ?_ | refine z4 ?_ | refine z5 ?_ | refine z6 ?_ | refine z7 ?_ | refine z8 ?_ | refine y1 ?_ | refine y2 ?_ | refine y3 ?_ | refine y4 ?_ | refine y5 ?_ | refine y6 ?_ | refine y7 ?_ | refine y8 ?_ | refine Rt.p (fun _=>?_) fun _=>?_)
    | ((with_reducible apply w_ixM);(focus exact rfl);(focus exact rfl);case' hk=>intro y hy) | ((with_reducible (first | apply w_val | apply q_ends));(focus exact rfl)))
   all_goals first
    | (exfalso;omega)
    | rfl
 rw[if_neg e4] at hB
 by_cases e5:a.kind=5
 · rw[if_pos e5] at hB
   subst hB
   refine RawC.walk (H:=hint71 Try.prog) ir71 Try.func71 rfl rfl rfl ?_
   unfold ir71
   repeat' (first
    | with_reducible (first | refine Rd.p ?_ | refine w_alt ?_ ?_ | refine zE ?_ | refine zE0 ?_)
    | with_reducible (first | refine zI fun y hy=>?_ | refine zL ?_ | refine zS ?_ | refine zA fun _=>?_ | refine zV ?_ | refine zC ?_ | refine zG ?_ | refine zU ?_ | refine zG0 ?_ | refine zU0 ?_ | refine zF ?_)
    | with_reducible (first | refine zX ?_ | refine zD fun _=>?_ | refine zD0 ?_ | refine zN ?_ | refine zF0 ?_ | refine zX0 ?_ | refine z1 ?_ | refine z2 ?_ | refine z3 ?_ | refine z4 ?_ | refine z5 ?_ | refine z6 ?_ | refine z7 ?_ | refine z8 ?_ | refine y1 ?_ | refine y2 ?_ | refine y3 ?_ | refine y4 ?_ | refine y5 ?_ | refine y6 ?_ | refine y7 ?_ | refine y8 ?_ | refine Rt.p (fun _=>?_) fun _=>?_)
    | ((with_reducible apply w_ixM);(focus exact rfl);(focus exact rfl);case' hk=>intro y hy) | ((with_reducible (first | apply w_val | apply q_ends));(focus exact rfl)))
   all_goals try (exfalso;omega)
   rename_i g9
   refine w_loopK [37,38] [] (fun x:List Int×List Int×List Int×Nat=>c=x.1++x.2.1∧fstF x.2.2.1 x.2.1=fstF [] c∧x.2.2.1.length≤x.1.length) (fun x=>x.2.1.length) (fun x=>[(39,.int .i64 x.1.length),(9,.slc 1 (iR x.2.2.1) (.own 9 x.2.2.2))]) (fun x=>[(9,(x.2.2.2,.row []))]) ([],c,[],g9) ⟨rfl,rfl,Nat.le_refl _⟩ ⟨rfl,rfl,trivial⟩ ⟨rfl,trivial⟩ ?_
   rintro⟨pre,post,out,g⟩ ⟨hll,hb,ho⟩ e σ
   dsimp only at hll hb ho ⊢
   have hlen:=congrArg List.length hll
   have hol:(iR out).length=out.length:=List.length_map _
   cases post with
   | nil=>
     simp only[List.append_nil,List.length_append,List.length_nil] at hlen
     rw[show fstF out []=out from rfl] at hb
     rw[←hb]
     repeat' (first
      | with_reducible (first | refine Rd.p ?_ | refine w_alt ?_ ?_ | refine zE ?_ | refine zE0 ?_)
      | with_reducible (first | refine zI fun y hy=>?_ | refine zL ?_ | refine zS ?_ | refine zA fun _=>?_ | refine zV ?_ | refine zC ?_ | refine zG ?_ | refine zU ?_ | refine zG0 ?_ | refine zU0 ?_ | refine zF ?_)
      | with_reducible (first | refine zX ?_ | refine zD fun _=>?_ | refine zD0 ?_ | refine zN ?_ | refine zF0 ?_ | refine zX0 ?_ | refine z1 ?_ | refine z2 ?_ | refine z3 ?_ | refine z4 ?_ | refine z5 ?_ | refine z6 ?_ | refine z7 ?_ | refine z8 ?_ | refine y1 ?_ | refine y2 ?_ | refine y3 ?_ | refine y4 ?_ | refine y5 ?_ | refine y6 ?_ | refine y7 ?_ | refine y8 ?_ | refine Rt.p (fun _=>?_) fun _=>?_)
      | ((with_reducible apply w_ixM);(focus exact rfl);(focus exact rfl);case' hk=>intro y hy) | ((with_reducible (first | apply w_val | apply q_ends));(focus exact rfl)))
     all_goals first
      | (exfalso;omega)
      | rfl
   | cons x post=>
     simp only[List.length_append,List.length_cons] at hlen
     rw[fstF] at hb
     have hpl:(pre++[x]).length=pre.length+1:=len_snoc
     have hct:=contains_c out x (by omega)
     by_cases hx:0≤idxI out x
     · rw[if_pos hx] at hb
       rw[decide_eq_true hx] at hct
       repeat' (first
        | with_reducible (first | refine Rd.p ?_ | refine w_alt ?_ ?_ | refine zE ?_ | refine zE0 ?_)
        | (refine w_ixP hll rfl rfl ?_)
        | with_reducible (first | refine zI fun y hy=>?_ | refine zL ?_ | refine zS ?_ | refine zA fun _=>?_ | refine zV ?_ | refine zC ?_ | refine zG ?_ | refine zU ?_ | refine zG0 ?_ | refine zU0 ?_ | refine zF ?_)
        | ((with_reducible refine acall_id ?_);refine ACall.val hct rfl rfl ?_)
        | with_reducible (first | refine zX ?_ | refine zD fun _=>?_ | refine zD0 ?_ | refine zN ?_ | refine zF0 ?_ | refine zX0 ?_ | refine z1 ?_ | refine z2 ?_ | refine z3 ?_ | refine z4 ?_ | refine z5 ?_ | refine z6 ?_ | refine z7 ?_ | refine z8 ?_ | refine y1 ?_ | refine y2 ?_ | refine y3 ?_ | refine y4 ?_ | refine y5 ?_ | refine y6 ?_ | refine y7 ?_ | refine y8 ?_ | refine Rt.p (fun _=>?_) fun _=>?_)
        | ((with_reducible apply w_ixM);(focus exact rfl);(focus exact rfl);case' hk=>intro y hy) | ((with_reducible (first | apply w_val | apply q_ends));(focus exact rfl)))
       all_goals first
        | (exfalso;omega)
        | exact q_loop (pre++[x],post,out,g) ⟨by dsimp only;rw[hll];simp,hb,by dsimp only;omega⟩ (Nat.lt_succ_self _) ⟨by rw[len_snoc];rfl,rfl,trivial⟩ (by repeat' (first | exact slots_nil | apply slots_cons | rfl | (rw[map_snoc];rfl) | (rw[len_snoc];rfl) | (rw[hS];rfl) | (rw[hS,map_snoc];rfl) | (refine int_eq ?_;(try dsimp only);omega) | (refine congrArg AV.bool ?_;simp_all;done))) (by repeat' (first | exact kept_nil | apply kept_cons | rfl)) (by repeat' (first | exact kept_nil | apply kept_cons | rfl))
     · rw[if_neg hx] at hb
       rw[decide_eq_false hx] at hct
       repeat' (first
        | with_reducible (first | refine Rd.p ?_ | refine w_alt ?_ ?_ | refine zE ?_ | refine zE0 ?_)
        | (refine w_ixP hll rfl rfl ?_)
        | with_reducible (first | refine zI fun y hy=>?_ | refine zL ?_ | refine zS ?_ | refine zA fun _=>?_ | refine zV ?_ | refine zC ?_ | refine zG ?_ | refine zU ?_ | refine zG0 ?_ | refine zU0 ?_ | refine zF ?_)
        | ((with_reducible refine acall_id ?_);refine ACall.val hct rfl rfl ?_)
        | with_reducible (first | refine zX ?_ | refine zD fun _=>?_ | refine zD0 ?_ | refine zN ?_ | refine zF0 ?_ | refine zX0 ?_ | refine z1 ?_ | refine z2 ?_ | refine z3 ?_ | refine z4 ?_ | refine z5 ?_ | refine z6 ?_ | refine z7 ?_ | refine z8 ?_ | refine y1 ?_ | refine y2 ?_ | refine y3 ?_ | refine y4 ?_ | refine y5 ?_ | refine y6 ?_ | refine y7 ?_ | refine y8 ?_ | refine Rt.p (fun _=>?_) fun _=>?_)
        | ((with_reducible apply w_ixM);(focus exact rfl);(focus exact rfl);case' hk=>intro y hy) | ((with_reducible (first | apply w_val | apply q_ends));(focus exact rfl)))
       all_goals try (exfalso;omega)
       all_goals
        rename_i g5
        exact q_loop (pre++[x],post,out++[x],g5) ⟨by dsimp only;rw[hll];simp,hb,by dsimp only;rw[len_snoc];omega⟩ (Nat.lt_succ_self _) ⟨by rw[len_snoc];rfl,rfl,trivial⟩ (by repeat' (first | exact slots_nil | apply slots_cons | rfl | (rw[map_snoc];rfl) | (rw[len_snoc];rfl) | (rw[hS];rfl) | (rw[hS,map_snoc];rfl) | (refine int_eq ?_;(try dsimp only);omega) | (refine congrArg AV.bool ?_;simp_all;done))) (by repeat' (first | exact kept_nil | apply kept_cons | rfl)) (by repeat' (first | exact kept_nil | apply kept_cons | rfl))
 rw[if_neg e5] at hB
 by_cases e6:a.kind=6
 · rw[if_pos e6] at hB
   subst hB
   refine RawC.walk (H:=hint71 Try.prog) ir71 Try.func71 rfl rfl rfl ?_
   unfold ir71
   repeat' (first
    | with_reducible (first | refine Rd.p ?_ | refine w_alt ?_ ?_ | refine zE ?_ | refine zE0 ?_)
    | (refine w_mksI rfl (by omega) ?_;intro g58)
    | with_reducible (first | refine zI fun y hy=>?_ | refine zL ?_ | refine zS ?_ | refine zA fun _=>?_ | refine zV ?_ | refine zC ?_ | refine zG ?_ | refine zU ?_ | refine zG0 ?_ | refine zU0 ?_ | refine zF ?_)
    | with_reducible (first | refine zX ?_ | refine zD fun _=>?_ | refine zD0 ?_ | refine zN ?_ | refine zF0 ?_ | refine zX0 ?_ | refine z1 ?_ | refine z2 ?_ | refine z3 ?_ | refine z4 ?_ | refine z5 ?_ | refine z6 ?_ | refine z7 ?_ | refine z8 ?_ | refine y1 ?_ | refine y2 ?_ | refine y3 ?_ | refine y4 ?_ | refine y5 ?_ | refine y6 ?_ | refine y7 ?_ | refine y8 ?_ | refine Rt.p (fun _=>?_) fun _=>?_)
    | ((with_reducible apply w_ixM);(focus exact rfl);(focus exact rfl);case' hk=>intro y hy) | ((with_reducible (first | apply w_val | apply q_ends));(focus exact rfl)))
   all_goals try (exfalso;omega)
   refine w_loopK [12,59,60] [] (fun x:List Int×List Int×List Int=>c=x.1++x.2.1∧cntX x.2.2 x.2.1=cntX (List.replicate G.ws.length 0) c∧x.2.2.length=G.ws.length∧ ∀k,0≤x.2.2.getD k 0∧x.2.2.getD k 0≤x.1.length) (fun x=>x.2.1.length) (fun x=>[(61,.int .i64 x.1.length)]) (fun x=>[(58,(g58,.row (x.2.2.map (AV.int .i64))))]) ([],c,List.replicate G.ws.length 0) ⟨rfl,rfl,List.length_replicate,fun k=>by
    have:(List.replicate G.ws.length (0:Int)).getD k 0=0:=by
     rw[List.getD_eq_getElem?_getD,List.getElem?_replicate];split<;>rfl
    rw[this];exact⟨Int.le_refl _,Int.le_refl _⟩⟩ ⟨rfl,trivial⟩ ⟨rfl,trivial⟩ ?_
   rintro⟨pre,post,xs⟩ ⟨hll,hb,hx,hk⟩ e σ
   dsimp only at hll hb hx hk ⊢
   have hlen:=congrArg List.length hll
   cases post with
   | nil=>
     simp only[List.append_nil,List.length_append,List.length_nil] at hlen
     rw[show cntX xs []=xs from rfl] at hb
     rw[←hb]
     repeat' (first
      | with_reducible (first | refine Rd.p ?_ | refine w_alt ?_ ?_ | refine zE ?_ | refine zE0 ?_)
      | with_reducible (first | refine zI fun y hy=>?_ | refine zL ?_ | refine zS ?_ | refine zA fun _=>?_ | refine zV ?_ | refine zC ?_ | refine zG ?_ | refine zU ?_ | refine zG0 ?_ | refine zU0 ?_ | refine zF ?_)
      | with_reducible (first | refine zX ?_ | refine zD fun _=>?_ | refine zD0 ?_ | refine zN ?_ | refine zF0 ?_ | refine zX0 ?_ | refine z1 ?_ | refine z2 ?_ | refine z3 ?_ | refine z4 ?_ | refine z5 ?_ | refine z6 ?_ | refine z7 ?_ | refine z8 ?_ | refine y1 ?_ | refine y2 ?_ | refine y3 ?_ | refine y4 ?_ | refine y5 ?_ | refine y6 ?_ | refine y7 ?_ | refine y8 ?_ | refine Rt.p (fun _=>?_) fun _=>?_)
      | ((with_reducible apply w_ixM);(focus exact rfl);(focus exact rfl);case' hk=>intro y hy) | ((with_reducible (first | apply w_val | apply q_ends));(focus exact rfl)))
     all_goals try (exfalso;omega)
     have hfz:frzA 58 g58 (xs.map (AV.int .i64)) (.msl 58 g58 G.ws.length 1)= .slc 1 (iR xs) .non:=by rw[←hx];simp[frzA,chunk1]
     refine w_frzIG [(12,.slc 1 (iR xs) .non)] [] rfl rfl hx ⟨hfz,trivial⟩ trivial ?_
     intro e2 σ2
     repeat' (first
      | with_reducible (first | refine Rd.p ?_ | refine w_alt ?_ ?_ | refine zE ?_ | refine zE0 ?_)
      | with_reducible (first | refine zI fun y hy=>?_ | refine zL ?_ | refine zS ?_ | refine zA fun _=>?_ | refine zV ?_ | refine zC ?_ | refine zG ?_ | refine zU ?_ | refine zG0 ?_ | refine zU0 ?_ | refine zF ?_)
      | with_reducible (first | refine zX ?_ | refine zD fun _=>?_ | refine zD0 ?_ | refine zN ?_ | refine zF0 ?_ | refine zX0 ?_ | refine z1 ?_ | refine z2 ?_ | refine z3 ?_ | refine z4 ?_ | refine z5 ?_ | refine z6 ?_ | refine z7 ?_ | refine z8 ?_ | refine y1 ?_ | refine y2 ?_ | refine y3 ?_ | refine y4 ?_ | refine y5 ?_ | refine y6 ?_ | refine y7 ?_ | refine y8 ?_ | refine Rt.p (fun _=>?_) fun _=>?_)
      | ((with_reducible apply w_ixM);(focus exact rfl);(focus exact rfl);case' hk=>intro y hy) | ((with_reducible (first | apply w_val | apply q_ends));(focus exact rfl)))
     all_goals first
      | rfl
   | cons w post=>
     simp only[List.length_append,List.length_cons] at hlen
     rw[cntX] at hb
     have hw:=hc w (by rw[hll];simp)
     have hkw:=hk w.toNat
     have hwl:w.toNat*1<xs.length:=by omega
     have hw1:w.toNat*1=w.toNat:=Nat.mul_one _
     repeat' (first
      | with_reducible (first | refine Rd.p ?_ | refine w_alt ?_ ?_ | refine zE ?_ | refine zE0 ?_)
      | (first | refine w_ixP hll rfl rfl ?_ | (refine w_ldI rfl rfl hwl ?_;rw[hw1]) | (refine w_stI rfl rfl rfl hwl ?_;rw[hw1]))
      | with_reducible (first | refine zI fun y hy=>?_ | refine zL ?_ | refine zS ?_ | refine zA fun _=>?_ | refine zV ?_ | refine zC ?_ | refine zG ?_ | refine zU ?_ | refine zG0 ?_ | refine zU0 ?_ | refine zF ?_)
      | with_reducible (first | refine zX ?_ | refine zD fun _=>?_ | refine zD0 ?_ | refine zN ?_ | refine zF0 ?_ | refine zX0 ?_ | refine z1 ?_ | refine z2 ?_ | refine z3 ?_ | refine z4 ?_ | refine z5 ?_ | refine z6 ?_ | refine z7 ?_ | refine z8 ?_ | refine y1 ?_ | refine y2 ?_ | refine y3 ?_ | refine y4 ?_ | refine y5 ?_ | refine y6 ?_ | refine y7 ?_ | refine y8 ?_ | refine Rt.p (fun _=>?_) fun _=>?_)
      | ((with_reducible apply w_ixM);(focus exact rfl);(focus exact rfl);case' hk=>intro y hy) | ((with_reducible (first | apply w_val | apply q_ends));(focus exact rfl)))
     all_goals first
      | (exfalso;omega)
      | exact q_loop (pre++[w],post,xs.set w.toNat (xs.getD w.toNat 0+1)) ⟨by dsimp only;rw[hll];simp,hb,by dsimp only;rw[List.length_set];exact hx,fun k=>by
         dsimp only
         rw[set_getD (by omega),len_snoc]
         have:=hk k
         split<;>omega⟩   (Nat.lt_succ_self _) ⟨by rw[len_snoc];rfl,trivial⟩ (by repeat' (first | exact slots_nil | apply slots_cons | rfl | (rw[map_snoc];rfl) | (rw[len_snoc];rfl) | (rw[hS];rfl) | (rw[hS,map_snoc];rfl) | (refine int_eq ?_;(try dsimp only);omega) | (refine congrArg AV.bool ?_;simp_all;done))) (by repeat' (first | exact kept_nil | apply kept_cons | rfl)) (by repeat' (first | exact kept_nil | apply kept_cons | rfl))
 · rw[if_neg e6] at hB
   subst hB
   refine RawC.walk (H:=hint71 Try.prog) ir71 Try.func71 rfl rfl rfl ?_
   unfold ir71
   repeat' (first
    | with_reducible (first | refine Rd.p ?_ | refine w_alt ?_ ?_ | refine zE ?_ | refine zE0 ?_)
    | with_reducible (first | refine zI fun y hy=>?_ | refine zL ?_ | refine zS ?_ | refine zA fun _=>?_ | refine zV ?_ | refine zC ?_ | refine zG ?_ | refine zU ?_ | refine zG0 ?_ | refine zU0 ?_ | refine zF ?_)
    | ((with_reducible refine acall_id ?_);refine ACall.val (clone_c c _ (.inr ⟨rfl,hne⟩) (by omega)) rfl rfl ?_)
    | with_reducible (first | refine zX ?_ | refine zD fun _=>?_ | refine zD0 ?_ | refine zN ?_ | refine zF0 ?_ | refine zX0 ?_ | refine z1 ?_ | refine z2 ?_ | refine z3 ?_ | refine z4 ?_ | refine z5 ?_ | refine z6 ?_ | refine z7 ?_ | refine z8 ?_ | refine y1 ?_ | refine y2 ?_ | refine y3 ?_ | refine y4 ?_ | refine y5 ?_ | refine y6 ?_ | refine y7 ?_ | refine y8 ?_ | refine Rt.p (fun _=>?_) fun _=>?_)
    | ((with_reducible apply w_ixM);(focus exact rfl);(focus exact rfl);case' hk=>intro y hy) | ((with_reducible (first | apply w_val | apply q_ends));(focus exact rfl)))
   all_goals first
    | (exfalso;omega)
    | rfl
def cmpI (x y:Int):Int:=if x<y then-1 else if y<x then 1 else 0
theorem cmpI_eq {x y:Int}:cmpI x y=0↔x=y:=by unfold cmpI;split<;>(try split)<;>simp<;>omega
theorem cmpI_lt {x y:Int}:cmpI x y<0↔x<y:=by unfold cmpI;split<;>(try split)<;>simp<;>omega
theorem cmpI_anti (x y:Int):cmpI y x= -cmpI x y:=by
 unfold cmpI
 by_cases h1:x<y
 · rw[if_neg (by omega),if_pos h1,if_pos h1];omega
 · by_cases h2:y<x
   · rw[if_pos h2,if_neg h1,if_pos h2]
   · rw[if_neg h2,if_neg h1,if_neg h1,if_neg h2];omega
def lexI:List Int→List Int→Int
 | [],[]=>0
 | [],_::_=> -1
 | _::_,[]=>1
 | x::a,y::b=>if cmpI x y=0 then lexI a b else cmpI x y
theorem lexI_eq:∀{a b:List Int},lexI a b=0↔a=b
 | [],[]=>by simp[lexI]
 | [],_::_=>by simp[lexI]
 | _::_,[]=>by simp[lexI]
 | x::a,y::b=>by
   rw[lexI]
   split
   · rename_i h;rw[lexI_eq,cmpI_eq.1 h];simp
   · rename_i h
     refine⟨fun h2=>absurd h2 h,fun h2=>?_⟩
     cases h2
     exact absurd (cmpI_eq.2 rfl) h
theorem lexI_anti:∀(a b:List Int),lexI b a= -lexI a b
 | [],[]=>by simp[lexI]
 | [],_::_=>by simp[lexI]
 | _::_,[]=>by simp[lexI]
 | x::a,y::b=>by
   rw[lexI,lexI,lexI_anti a b,cmpI_anti x y]
   by_cases h:cmpI x y=0
   · rw[if_pos h,if_pos (by rw[h];rfl)]
   · rw[if_neg h,if_neg (by omega)]
theorem lexI_trans:∀{a b c:List Int},lexI a b<0→lexI b c<0→lexI a c<0
 | [],[],_,h,_=>by simp[lexI] at h
 | _::_,[],_,h,_=>by simp[lexI] at h
 | _,_::_,[],_,h=>by simp[lexI] at h
 | [],_::_,_::_,_,_=>by simp[lexI]
 | x::a,y::b,z::c,h1,h2=>by
   rw[lexI] at h1 h2 ⊢
   by_cases e1:cmpI x y=0
   · rw[if_pos e1] at h1
     obtain rfl:=cmpI_eq.1 e1
     by_cases e2:cmpI x z=0
     · rw[if_pos e2] at h2 ⊢;exact lexI_trans h1 h2
     · rw[if_neg e2] at h2 ⊢;exact h2
   · rw[if_neg e1] at h1
     have h1':=cmpI_lt.1 h1
     by_cases e2:cmpI y z=0
     · obtain rfl:=cmpI_eq.1 e2
       rw[if_neg e1];exact h1
     · rw[if_neg e2] at h2
       have h2':=cmpI_lt.1 h2
       have h3:cmpI x z<0:=cmpI_lt.2 (by omega)
       rw[if_neg (by omega)];exact h3
def lsI (a b:List Int):Int:=if cmpI a.length b.length=0 then lexI a b else cmpI a.length b.length
theorem lsI_eq {a b:List Int}:lsI a b=0↔a=b:=by
 unfold lsI
 split
 · exact lexI_eq
 · rename_i h
   exact⟨fun h2=>absurd h2 h,fun h2=>absurd (by rw[h2];exact cmpI_eq.2 rfl) h⟩
theorem lsI_anti (a b:List Int):lsI b a= -lsI a b:=by
 unfold lsI
 rw[cmpI_anti a.length b.length,lexI_anti a b]
 by_cases h:cmpI a.length b.length=0
 · rw[if_pos h,if_pos (by rw[h];rfl)]
 · rw[if_neg h,if_neg (by omega)]
theorem lsI_trans {a b c:List Int} (h1:lsI a b<0) (h2:lsI b c<0):lsI a c<0:=by
 unfold lsI at*
 by_cases e1:cmpI a.length b.length=0
 · rw[if_pos e1] at h1
   have q1:=cmpI_eq.1 e1
   rw[q1]
   by_cases e2:cmpI b.length c.length=0
   · rw[if_pos e2] at h2 ⊢;exact lexI_trans h1 h2
   · rw[if_neg e2] at h2 ⊢;exact h2
 · rw[if_neg e1] at h1
   have h1':=cmpI_lt.1 h1
   by_cases e2:cmpI b.length c.length=0
   · rw[←cmpI_eq.1 e2,if_neg e1];exact h1
   · rw[if_neg e2] at h2
     have h2':=cmpI_lt.1 h2
     have h3:cmpI a.length c.length<0:=cmpI_lt.2 (by omega)
     rw[if_neg (by omega)];exact h3
def ir118:IFn:=
 ⟨6,[(2,none)],(.seq (.ops [oo 2 (.mov (kB false))])
 (.seq (.ops [oo 3 (.mov 0),
 oo 4 (.mov 0),
 oo 5 (.bin .neq 3 4),
 oo 2 (.mov 5)])
 .ret))⟩
def hint118 (P:Program):Hint:={}
def ir106:IFn:=
 ⟨20,[(4,none)],(.seq (.ops [oo 4 (.mov (kI 0))])
 (.seq (.ops [oo 7 (.mov 0),
 oo 8 (.callF 118 [7]),
 oo 5 (.mov 8)])
 (.seq (.ops [oo 9 (.mov 1),
 oo 10 (.callF 118 [9]),
 oo 6 (.mov 10)])
 (.seq (.seq (.ops [oo 11 (.mov 5)])
 (.cnd 11
 (.seq (.seq (.ops [oo 12 (.mov 6)])
 (.cnd 12
 (.seq (.ops [oo 4 (.mov (kI 0))])
 .ret)
 .skip))
 (.seq (.ops [oo 4 (.mov (.k (.int .i64 (-1))))])
 .ret))
 .skip))
 (.seq (.seq (.ops [oo 13 (.mov 6)])
 (.cnd 13
 (.seq (.ops [oo 4 (.mov (kI 1))])
 .ret)
 .skip))
 (.seq (.seq (.ops [oo 14 (.mov 0),
 oo 15 (.mov 1),
 oo 16 (.bin .lss 14 15)])
 (.cnd 16
 (.seq (.ops [oo 4 (.mov (.k (.int .i64 (-1))))])
 .ret)
 .skip))
 (.seq (.seq (.ops [oo 17 (.mov 0),
 oo 18 (.mov 1),
 oo 19 (.bin .gtr 17 18)])
 (.cnd 19
 (.seq (.ops [oo 4 (.mov (kI 1))])
 .ret)
 .skip))
 (.seq (.ops [oo 4 (.mov (kI 0))])
 .ret))))))))⟩
def hint106 (P:Program):Hint:={}
def ir107:IFn:=
 ⟨36,[(4,none)],(.seq (.ops [oo 4 (.mov (kI 0))])
 (.seq (.seq (.ops [oo 9 (.mov 0),
 oo 10 (.len false 9),
 oo 11 (.mov (kI 0))])
 (.blk 0 (.loop (.seq (.ops [oo 12 (.bin .lss 11 10)])
 (.seq (.cnd 12
 .skip
 (.exit 0))
 (.seq (.blk 1 (.seq (.ops [oo 13 (.mov 11),
 oo 14 (.ixA 1 9 11),
 oo 15 (.ld 1 false 14),
 oo 5 (.mov 13),
 oo 6 (.mov 15)])
 (.seq (.seq (.ops [oo 16 (.mov 5),
 oo 17 (.mov 1),
 oo 18 (.len false 17),
 oo 19 (.bin .geq 16 18)])
 (.cnd 19
 (.seq (.ops [oo 4 (.mov (kI 1))])
 .ret)
 .skip))
 (.seq (.ops [oo 20 (.mov 1),
 oo 21 (.mov 5),
 oo 22 (.ixA 1 20 21),
 oo 23 (.ld 1 false 22),
 oo 7 (.mov 23)])
 (.seq (.ops [oo 24 (.mov 6),
 oo 25 (.mov 7),
 oo 26 (.callF 106 [24,25]),
 oo 8 (.mov 26)])
 (.seq (.ops [oo 27 (.mov 8),
 oo 28 (.bin .neq 27 (kI 0))])
 (.cnd 28
 (.seq (.ops [oo 29 (.mov 8),
 oo 4 (.mov 29)])
 .ret)
 .skip)))))))
 (.ops [oo 30 (.bin .add 11 (kI 1)),
 oo 11 (.mov 30)])))))))
 (.seq (.seq (.ops [oo 31 (.mov 0),
 oo 32 (.len false 31),
 oo 33 (.mov 1),
 oo 34 (.len false 33),
 oo 35 (.bin .lss 32 34)])
 (.cnd 35
 (.seq (.ops [oo 4 (.mov (.k (.int .i64 (-1))))])
 .ret)
 .skip))
 (.seq (.ops [oo 4 (.mov (kI 0))])
 .ret))))⟩
def hint107 (P:Program):Hint:={}
def ir105:IFn:=
 ⟨18,[(2,none)],(.seq (.ops [oo 2 (.mov (kI 0))])
 (.seq (.ops [oo 3 (.mov (kI 0))])
 (.seq (.seq (.ops [oo 6 (.mov 0),
 oo 7 (.len false 6),
 oo 8 (.mov (kI 0))])
 (.blk 0 (.loop (.seq (.ops [oo 9 (.bin .lss 8 7)])
 (.seq (.cnd 9
 .skip
 (.exit 0))
 (.seq (.blk 1 (.seq (.ops [oo 10 (.ixA 1 6 8),
 oo 11 (.ld 1 false 10),
 oo 5 (.mov 11)])
 (.seq (.ops [oo 12 (.mov 5),
 oo 13 (.mov 3),
 oo 14 (.bin .neq 12 13)])
 (.cnd 14
 (.seq (.ops [oo 15 (.mov 5),
 oo 2 (.mov 15)])
 .ret)
 .skip))))
 (.ops [oo 16 (.bin .add 8 (kI 1)),
 oo 8 (.mov 16)])))))))
 (.seq (.ops [oo 17 (.mov 3),
 oo 2 (.mov 17)])
 .ret))))⟩
def hint105 (P:Program):Hint:={}
theorem isNaN_c (x:Int):Fn0 Try.prog 118 [.int .i64 x] (fun v=>v= .bool false):=by
 refine RawC.walk (H:=hint118 Try.prog) ir118 Try.func118 rfl rfl rfl ?_
 unfold ir118
 repeat' (first
  | with_reducible (first | refine Rd.p ?_ | refine w_alt ?_ ?_ | refine zE ?_ | refine zE0 ?_)
  | with_reducible (first | refine zI fun y hy=>?_ | refine zL ?_ | refine zS ?_ | refine zA fun _=>?_ | refine zV ?_ | refine zC ?_ | refine zG ?_ | refine zU ?_ | refine zG0 ?_ | refine zU0 ?_ | refine zF ?_)
  | with_reducible (first | refine zX ?_ | refine zD fun _=>?_ | refine zD0 ?_ | refine zN ?_ | refine zF0 ?_ | refine zX0 ?_ | refine z1 ?_ | refine z2 ?_ | refine z3 ?_ | refine z4 ?_ | refine z5 ?_ | refine z6 ?_ | refine z7 ?_ | refine z8 ?_ | refine y1 ?_ | refine y2 ?_ | refine y3 ?_ | refine y4 ?_ | refine y5 ?_ | refine y6 ?_ | refine y7 ?_ | refine y8 ?_ | refine Rt.p (fun _=>?_) fun _=>?_)
  | ((with_reducible apply w_ixM);(focus exact rfl);(focus exact rfl);case' hk=>intro y hy) | ((with_reducible (first | apply w_val | apply q_ends));(focus exact rfl)))
 exact congrArg AV.bool (decide_eq_false (by simp))
theorem compare_c (x y:Int):Fn0 Try.prog 106 [.int .i64 x,.int .i64 y] (fun v=>v= .int .i64 (cmpI x y)):=by
 refine RawC.walk (H:=hint106 Try.prog) ir106 Try.func106 rfl rfl rfl ?_
 unfold ir106
 repeat' (first
  | with_reducible (first | refine Rd.p ?_ | refine w_alt ?_ ?_ | refine zE ?_ | refine zE0 ?_)
  | with_reducible (first | refine zI fun y hy=>?_ | refine zL ?_ | refine zS ?_ | refine zA fun _=>?_ | refine zV ?_ | refine zC ?_ | refine zG ?_ | refine zU ?_ | refine zG0 ?_ | refine zU0 ?_ | refine zF ?_)
  | ((with_reducible refine acall_id ?_);refine ACall.val (isNaN_c _) rfl rfl ?_)
  | with_reducible (first | refine zX ?_ | refine zD fun _=>?_ | refine zD0 ?_ | refine zN ?_ | refine zF0 ?_ | refine zX0 ?_ | refine z1 ?_ | refine z2 ?_ | refine z3 ?_ | refine z4 ?_ | refine z5 ?_ | refine z6 ?_ | refine z7 ?_ | refine z8 ?_ | refine y1 ?_ | refine y2 ?_ | refine y3 ?_ | refine y4 ?_ | refine y5 ?_ | refine y6 ?_ | refine y7 ?_ | refine y8 ?_ | refine Rt.p (fun _=>?_) fun _=>?_)
  | ((with_reducible apply w_ixM);(focus exact rfl);(focus exact rfl);case' hk=>intro y hy) | ((with_reducible (first | apply w_val | apply q_ends));(focus exact rfl)))
 all_goals (refine congrArg (AV.int .i64) ?_;unfold cmpI)
 · rw[if_pos (by assumption)]
 · rw[if_neg (by assumption),if_pos (by assumption)]
 · rw[if_neg (by assumption),if_neg (by assumption)]
theorem lexI_app (p a b:List Int):lexI (p++a) (p++b)=lexI a b:=by
 induction p with
 | nil=>rfl
 | cons x p ih=>rw[List.cons_append,List.cons_append,lexI,if_pos (cmpI_eq.2 rfl),ih]
theorem scompare_c (a b:List Int) (ha:a.length<1000000) (hb:b.length<1000000):Fn0 Try.prog 107 [.slc 1 (iR a) .non,.slc 1 (iR b) .non] (fun v=>v= .int .i64 (lexI a b)):=by
 refine RawC.walk (H:=hint107 Try.prog) ir107 Try.func107 rfl rfl rfl ?_
 unfold ir107
 repeat' (first
  | with_reducible (first | refine Rd.p ?_ | refine w_alt ?_ ?_ | refine zE ?_ | refine zE0 ?_)
  | with_reducible (first | refine zI fun y hy=>?_ | refine zL ?_ | refine zS ?_ | refine zA fun _=>?_ | refine zV ?_ | refine zC ?_ | refine zG ?_ | refine zU ?_ | refine zG0 ?_ | refine zU0 ?_ | refine zF ?_)
  | with_reducible (first | refine zX ?_ | refine zD fun _=>?_ | refine zD0 ?_ | refine zN ?_ | refine zF0 ?_ | refine zX0 ?_ | refine z1 ?_ | refine z2 ?_ | refine z3 ?_ | refine z4 ?_ | refine z5 ?_ | refine z6 ?_ | refine z7 ?_ | refine z8 ?_ | refine y1 ?_ | refine y2 ?_ | refine y3 ?_ | refine y4 ?_ | refine y5 ?_ | refine y6 ?_ | refine y7 ?_ | refine y8 ?_ | refine Rt.p (fun _=>?_) fun _=>?_)
  | ((with_reducible apply w_ixM);(focus exact rfl);(focus exact rfl);case' hk=>intro y hy) | ((with_reducible (first | apply w_val | apply q_ends));(focus exact rfl)))
 refine w_loopK [0,1,9,10] [] (fun x:List Int×List Int×List Int=>a=x.1++x.2.1∧b=x.1++x.2.2) (fun x=>x.2.1.length) (fun x=>[(11,.int .i64 x.1.length)]) (fun _=>[]) ([],a,b) ⟨rfl,rfl⟩ ⟨rfl,trivial⟩ trivial ?_
 rintro⟨pre,r,s⟩ ⟨h1,h2⟩ e σ
 dsimp only at h1 h2 ⊢
 have l1:=congrArg List.length h1
 have l2:=congrArg List.length h2
 rw[List.length_append] at l1 l2
 have hL:lexI a b=lexI r s:=by rw[h1,h2,lexI_app]
 cases r with
 | nil=>
   rw[List.length_nil] at l1
   repeat' (first
    | with_reducible (first | refine Rd.p ?_ | refine w_alt ?_ ?_ | refine zE ?_ | refine zE0 ?_)
    | with_reducible (first | refine zI fun y hy=>?_ | refine zL ?_ | refine zS ?_ | refine zA fun _=>?_ | refine zV ?_ | refine zC ?_ | refine zG ?_ | refine zU ?_ | refine zG0 ?_ | refine zU0 ?_ | refine zF ?_)
    | with_reducible (first | refine zX ?_ | refine zD fun _=>?_ | refine zD0 ?_ | refine zN ?_ | refine zF0 ?_ | refine zX0 ?_ | refine z1 ?_ | refine z2 ?_ | refine z3 ?_ | refine z4 ?_ | refine z5 ?_ | refine z6 ?_ | refine z7 ?_ | refine z8 ?_ | refine y1 ?_ | refine y2 ?_ | refine y3 ?_ | refine y4 ?_ | refine y5 ?_ | refine y6 ?_ | refine y7 ?_ | refine y8 ?_ | refine Rt.p (fun _=>?_) fun _=>?_)
    | ((with_reducible apply w_ixM);(focus exact rfl);(focus exact rfl);case' hk=>intro y hy) | ((with_reducible (first | apply w_val | apply q_ends));(focus exact rfl)))
   · cases s with
     | nil=>rw[List.length_nil] at l2;omega
     | cons y s=>rw[hL];rfl
   · cases s with
     | nil=>rw[hL];rfl
     | cons y s=>rw[List.length_cons] at l2;omega
 | cons x r=>
   rw[List.length_cons] at l1
   cases s with
   | nil=>
     rw[List.length_nil] at l2
     repeat' (first
      | with_reducible (first | refine Rd.p ?_ | refine w_alt ?_ ?_ | refine zE ?_ | refine zE0 ?_)
      | (refine w_ixP h1 rfl rfl ?_)
      | with_reducible (first | refine zI fun y hy=>?_ | refine zL ?_ | refine zS ?_ | refine zA fun _=>?_ | refine zV ?_ | refine zC ?_ | refine zG ?_ | refine zU ?_ | refine zG0 ?_ | refine zU0 ?_ | refine zF ?_)
      | with_reducible (first | refine zX ?_ | refine zD fun _=>?_ | refine zD0 ?_ | refine zN ?_ | refine zF0 ?_ | refine zX0 ?_ | refine z1 ?_ | refine z2 ?_ | refine z3 ?_ | refine z4 ?_ | refine z5 ?_ | refine z6 ?_ | refine z7 ?_ | refine z8 ?_ | refine y1 ?_ | refine y2 ?_ | refine y3 ?_ | refine y4 ?_ | refine y5 ?_ | refine y6 ?_ | refine y7 ?_ | refine y8 ?_ | refine Rt.p (fun _=>?_) fun _=>?_)
      | ((with_reducible apply w_ixM);(focus exact rfl);(focus exact rfl);case' hk=>intro y hy) | ((with_reducible (first | apply w_val | apply q_ends));(focus exact rfl)))
     rw[hL];rfl
   | cons y s=>
     rw[List.length_cons] at l2
     rw[lexI] at hL
     repeat' (first
      | with_reducible (first | refine Rd.p ?_ | refine w_alt ?_ ?_ | refine zE ?_ | refine zE0 ?_)
      | (first | refine w_ixP h1 rfl rfl ?_ | refine w_ixP h2 rfl rfl ?_)
      | with_reducible (first | refine zI fun y hy=>?_ | refine zL ?_ | refine zS ?_ | refine zA fun _=>?_ | refine zV ?_ | refine zC ?_ | refine zG ?_ | refine zU ?_ | refine zG0 ?_ | refine zU0 ?_ | refine zF ?_)
      | ((with_reducible refine acall_id ?_);refine ACall.val (compare_c _ _) rfl rfl ?_)
      | with_reducible (first | refine zX ?_ | refine zD fun _=>?_ | refine zD0 ?_ | refine zN ?_ | refine zF0 ?_ | refine zX0 ?_ | refine z1 ?_ | refine z2 ?_ | refine z3 ?_ | refine z4 ?_ | refine z5 ?_ | refine z6 ?_ | refine z7 ?_ | refine z8 ?_ | refine y1 ?_ | refine y2 ?_ | refine y3 ?_ | refine y4 ?_ | refine y5 ?_ | refine y6 ?_ | refine y7 ?_ | refine y8 ?_ | refine Rt.p (fun _=>?_) fun _=>?_)
      | ((with_reducible apply w_ixM);(focus exact rfl);(focus exact rfl);case' hk=>intro y hy) | ((with_reducible (first | apply w_val | apply q_ends));(focus exact rfl)))
     · rename_i h;rw[hL,if_neg h];rfl
     · rename_i h
       rw[if_pos (Decidable.not_not.1 h)] at hL
       have hxy:=cmpI_eq.1 (Decidable.not_not.1 h)
       refine zQ (pre++[x],r,s) ?_ ?_
       · dsimp only
         exact⟨by rw[h1];simp,by rw[h2,hxy];simp⟩
       · simp
def orI:List Int→Int
 | []=>0
 | x::r=>if x=0 then orI r else x
theorem or_c (l:List Int) (hl:l.length<1000000):Fn0 Try.prog 105 [.slc 1 (iR l) .non] (fun v=>v= .int .i64 (orI l)):=by
 refine RawC.walk (H:=hint105 Try.prog) ir105 Try.func105 rfl rfl rfl ?_
 unfold ir105
 repeat' (first
  | with_reducible (first | refine Rd.p ?_ | refine w_alt ?_ ?_ | refine zE ?_ | refine zE0 ?_)
  | with_reducible (first | refine zI fun y hy=>?_ | refine zL ?_ | refine zS ?_ | refine zA fun _=>?_ | refine zV ?_ | refine zC ?_ | refine zG ?_ | refine zU ?_ | refine zG0 ?_ | refine zU0 ?_ | refine zF ?_)
  | with_reducible (first | refine zX ?_ | refine zD fun _=>?_ | refine zD0 ?_ | refine zN ?_ | refine zF0 ?_ | refine zX0 ?_ | refine z1 ?_ | refine z2 ?_ | refine z3 ?_ | refine z4 ?_ | refine z5 ?_ | refine z6 ?_ | refine z7 ?_ | refine z8 ?_ | refine y1 ?_ | refine y2 ?_ | refine y3 ?_ | refine y4 ?_ | refine y5 ?_ | refine y6 ?_ | refine y7 ?_ | refine y8 ?_ | refine Rt.p (fun _=>?_) fun _=>?_)
  | ((with_reducible apply w_ixM);(focus exact rfl);(focus exact rfl);case' hk=>intro y hy) | ((with_reducible (first | apply w_val | apply q_ends));(focus exact rfl)))
 refine w_loopK [3,6,7] [] (fun x:List Int×List Int=>l=x.1++x.2∧orI l=orI x.2) (fun x=>x.2.length) (fun x=>[(8,.int .i64 x.1.length)]) (fun _=>[]) ([],l) ⟨rfl,rfl⟩ ⟨rfl,trivial⟩ trivial ?_
 rintro⟨pre,post⟩ ⟨hp,hb⟩ e σ
 dsimp only at hp hb ⊢
 have hlen:=congrArg List.length hp
 cases post with
 | nil=>
   simp only[List.append_nil,List.length_append,List.length_nil] at hlen
   repeat' (first
    | with_reducible (first | refine Rd.p ?_ | refine w_alt ?_ ?_ | refine zE ?_ | refine zE0 ?_)
    | with_reducible (first | refine zI fun y hy=>?_ | refine zL ?_ | refine zS ?_ | refine zA fun _=>?_ | refine zV ?_ | refine zC ?_ | refine zG ?_ | refine zU ?_ | refine zG0 ?_ | refine zU0 ?_ | refine zF ?_)
    | with_reducible (first | refine zX ?_ | refine zD fun _=>?_ | refine zD0 ?_ | refine zN ?_ | refine zF0 ?_ | refine zX0 ?_ | refine z1 ?_ | refine z2 ?_ | refine z3 ?_ | refine z4 ?_ | refine z5 ?_ | refine z6 ?_ | refine z7 ?_ | refine z8 ?_ | refine y1 ?_ | refine y2 ?_ | refine y3 ?_ | refine y4 ?_ | refine y5 ?_ | refine y6 ?_ | refine y7 ?_ | refine y8 ?_ | refine Rt.p (fun _=>?_) fun _=>?_)
    | ((with_reducible apply w_ixM);(focus exact rfl);(focus exact rfl);case' hk=>intro y hy) | ((with_reducible (first | apply w_val | apply q_ends));(focus exact rfl)))
   rw[hb];rfl
 | cons c post=>
   simp only[List.length_append,List.length_cons] at hlen
   rw[orI] at hb
   repeat' (first
    | with_reducible (first | refine Rd.p ?_ | refine w_alt ?_ ?_ | refine zE ?_ | refine zE0 ?_)
    | (refine w_ixP hp rfl rfl ?_)
    | with_reducible (first | refine zI fun y hy=>?_ | refine zL ?_ | refine zS ?_ | refine zA fun _=>?_ | refine zV ?_ | refine zC ?_ | refine zG ?_ | refine zU ?_ | refine zG0 ?_ | refine zU0 ?_ | refine zF ?_)
    | with_reducible (first | refine zX ?_ | refine zD fun _=>?_ | refine zD0 ?_ | refine zN ?_ | refine zF0 ?_ | refine zX0 ?_ | refine z1 ?_ | refine z2 ?_ | refine z3 ?_ | refine z4 ?_ | refine z5 ?_ | refine z6 ?_ | refine z7 ?_ | refine z8 ?_ | refine y1 ?_ | refine y2 ?_ | refine y3 ?_ | refine y4 ?_ | refine y5 ?_ | refine y6 ?_ | refine y7 ?_ | refine y8 ?_ | refine Rt.p (fun _=>?_) fun _=>?_)
    | ((with_reducible apply w_ixM);(focus exact rfl);(focus exact rfl);case' hk=>intro y hy) | ((with_reducible (first | apply w_val | apply q_ends));(focus exact rfl)))
   · rename_i h;rw[hb,if_neg h];rfl
   · rename_i h
     refine zQ (pre++[c],post) ?_ ?_
     · dsimp only
       exact⟨by rw[hp];simp,by rw[hb,if_pos (Decidable.not_not.1 h)]⟩
     · simp
def ir77:IFn:=
 ⟨15,[(4,none)],(.seq (.ops [oo 4 (.mov (kI 0))])
 (.seq (.ops [oo 5 (.mov 0),
 oo 6 (.len false 5),
 oo 7 (.mov 1),
 oo 8 (.len false 7),
 oo 9 (.callF 106 [6,8]),
 oo 10 (.mov 0),
 oo 11 (.mov 1),
 oo 12 (.callF 107 [10,11]),
 oo 13 (.bsl 1 [[(.int .i64 0)],[(.int .i64 0)]] [(0,9),(1,12)]),
 oo 14 (.callF 105 [13]),
 oo 4 (.mov 14)])
 .ret))⟩
def hint77 (P:Program):Hint:={}
theorem ordered_c (a b:List Int) (ha:a.length<1000000) (hb:b.length<1000000):Fn0 Try.prog 77 [.slc 1 (iR a) .non,.slc 1 (iR b) .non] (fun v=>v= .int .i64 (lsI a b)):=by
 refine RawC.walk (H:=hint77 Try.prog) ir77 Try.func77 rfl rfl rfl ?_
 unfold ir77
 repeat' (first
  | with_reducible (first | refine Rd.p ?_ | refine w_alt ?_ ?_ | refine zE ?_ | refine zE0 ?_)
  | with_reducible (first | refine zI fun y hy=>?_ | refine zL ?_ | refine zS ?_ | refine zA fun _=>?_ | refine zV ?_ | refine zC ?_ | refine zG ?_ | refine zU ?_ | refine zG0 ?_ | refine zU0 ?_ | refine zF ?_)
  | ((with_reducible refine acall_id ?_);refine ACall.val (compare_c _ _) rfl rfl ?_)
  | ((with_reducible refine acall_id ?_);refine ACall.val (scompare_c _ _ ha hb) rfl rfl ?_)
  | ((with_reducible refine acall_id ?_);refine ACall.val (or_c [_,_] (by simp)) rfl rfl ?_)
  | with_reducible (first | refine zX ?_ | refine zD fun _=>?_ | refine zD0 ?_ | refine zN ?_ | refine zF0 ?_ | refine zX0 ?_ | refine z1 ?_ | refine z2 ?_ | refine z3 ?_ | refine z4 ?_ | refine z5 ?_ | refine z6 ?_ | refine z7 ?_ | refine z8 ?_ | refine y1 ?_ | refine y2 ?_ | refine y3 ?_ | refine y4 ?_ | refine y5 ?_ | refine y6 ?_ | refine y7 ?_ | refine y8 ?_ | refine Rt.p (fun _=>?_) fun _=>?_)
  | ((with_reducible apply w_ixM);(focus exact rfl);(focus exact rfl);case' hk=>intro y hy) | ((with_reducible (first | apply w_val | apply q_ends));(focus exact rfl)))
 refine congrArg (AV.int .i64) ?_
 rw[orI,orI,orI,lsI]
 split
 · split
   · rename_i h;exact h.symm
   · rfl
 · rfl
def ansI (x:List Int) (n:Int):List (List Int×Int)→List (List Int×Int)
 | []=>[(x,n)]
 | y::r=>if lsI y.1 x<0 then y::ansI x n r else if y.1=x then (y.1,y.2+n)::r else (x,n)::y::r
def posI (x:List Int):List (List Int×Int)→Nat
 | []=>0
 | y::r=>if lsI y.1 x<0 then posI x r+1 else 0
def ansL (f:List Int→List Int) (l:List (List Int×Int)):List (List Int×Int):=l.foldl (fun A c=>ansI (f c.1) c.2 A) []
def srtA (L:List (List Int×Int)):Prop:=L.Pairwise fun a b=>lsI a.1 b.1<0
theorem posI_le (x:List Int):∀L,posI x L≤L.length
 | []=>Nat.le_refl _
 | y::r=>by
   have:=posI_le x r
   rw[posI]
   split
   · rw[List.length_cons];omega
   · exact Nat.zero_le _
theorem lsI_tri {a b:List Int} (h1:¬lsI a b<0) (h2:a≠b):lsI b a<0:=by
 have:lsI a b≠0:=fun h=>h2 (lsI_eq.1 h)
 rw[lsI_anti a b];omega
theorem posI_iff {x:List Int}:∀{L},srtA L→ ∀q:Nat,q<L.length→(lsI ((L.map (·.1)).getD q []) x<0↔q<posI x L)
 | [],_,q,hq=>by simp at hq
 | y::r,h,q,hq=>by
   obtain⟨h1,h2⟩:=List.pairwise_cons.1 h
   rw[posI,List.map_cons]
   by_cases hy:lsI y.1 x<0
   · rw[if_pos hy]
     cases q with
     | zero=>simp[hy]
     | succ q=>
       rw[List.getD_cons_succ,posI_iff h2 q (by simpa using hq)];omega
   · rw[if_neg hy]
     cases q with
     | zero=>simp[hy]
     | succ q=>
       rw[List.getD_cons_succ]
       have hq':q<r.length:=by simpa using hq
       constructor
       · intro hlt
         exfalso
         have hm:=h1 r[q] (List.getElem_mem _)
         have e:(r.map (·.1)).getD q []=r[q].1:=by
          rw[List.getD_eq_getElem?_getD,List.getElem?_map,List.getElem?_eq_getElem hq'];rfl
         rw[e] at hlt
         exact hy (lsI_trans hm hlt)
       · intro h;omega
theorem ansI_new {x:List Int} {n:Int}:∀{L},¬(posI x L<L.length∧(L.map (·.1)).getD (posI x L) []=x)→ansI x n L=L.take (posI x L)++(x,n)::L.drop (posI x L)
 | [],_=>rfl
 | y::r,h=>by
   rw[ansI]
   rw[posI] at h ⊢
   by_cases hy:lsI y.1 x<0
   · rw[if_pos hy] at h ⊢
     rw[if_pos hy,List.take_succ_cons,List.drop_succ_cons,List.cons_append,ansI_new fun hh=>h ⟨by rw[List.length_cons];omega,by rw[List.map_cons,List.getD_cons_succ];exact hh.2⟩]
   · rw[if_neg hy] at h ⊢
     rw[if_neg hy,if_neg fun e=>h ⟨by simp,by simpa using e⟩];rfl
theorem ansI_old {x:List Int} {n:Int}:∀{L},posI x L<L.length∧(L.map (·.1)).getD (posI x L) []=x→ansI x n L=L.set (posI x L) (x,(L.map (·.2)).getD (posI x L) 0+n)
 | [],h=>by simp at h
 | y::r,h=>by
   rw[ansI]
   rw[posI] at h ⊢
   by_cases hy:lsI y.1 x<0
   · rw[if_pos hy] at h ⊢
     rw[if_pos hy,List.set_cons_succ,List.map_cons,List.getD_cons_succ,ansI_old ⟨by have:=h.1;rw[List.length_cons] at this;omega,by simpa using h.2⟩]
   · rw[if_neg hy] at h ⊢
     have e:y.1=x:=by simpa using h.2
     rw[if_neg hy,if_pos e]
     simp[e]
theorem ansI_mem {x:List Int} {n:Int}:∀{L} {z:List Int×Int},z∈ansI x n L→z.1=x∨z∈L
 | [],z,h=>by rw[List.mem_singleton.1 h];exact .inl rfl
 | y::r,z,h=>by
   rw[ansI] at h
   split at h
   · rcases List.mem_cons.1 h with rfl | h
     · exact .inr (by simp)
     · rcases ansI_mem h with h | h
       · exact .inl h
       · exact .inr (by simp[h])
   · split at h
     · rename_i e
       rcases List.mem_cons.1 h with rfl | h
       · exact .inl e
       · exact .inr (by simp[h])
     · rcases List.mem_cons.1 h with rfl | h
       · exact .inl rfl
       · exact .inr h
theorem ansI_srt {x:List Int} {n:Int}:∀{L},srtA L→srtA (ansI x n L)
 | [],_=>List.pairwise_singleton _ _
 | y::r,h=>by
   obtain⟨h1,h2⟩:=List.pairwise_cons.1 h
   rw[ansI]
   by_cases hy:lsI y.1 x<0
   · rw[if_pos hy]
     refine List.pairwise_cons.2 ⟨fun z hz=>?_,ansI_srt h2⟩
     rcases ansI_mem hz with e | hz
     · rw[e];exact hy
     · exact h1 z hz
   · rw[if_neg hy]
     by_cases e:y.1=x
     · rw[if_pos e];exact List.pairwise_cons.2 ⟨fun z hz=>h1 z hz,h2⟩
     · rw[if_neg e]
       have hxy:=lsI_tri hy e
       refine List.pairwise_cons.2 ⟨fun z hz=>?_,h⟩
       rcases List.mem_cons.1 hz with rfl | hz
       · exact hxy
       · exact lsI_trans hxy (h1 z hz)
theorem ansI_len (x:List Int) (n:Int):∀L,(ansI x n L).length≤L.length+1∧1≤(ansI x n L).length
 | []=>⟨Nat.le_refl _,Nat.le_refl _⟩
 | y::r=>by
   have:=ansI_len x n r
   rw[ansI]
   split
   · simp only[List.length_cons];omega
   · split<;>simp only[List.length_cons]<;>omega
theorem ansI_sum (x:List Int) (n:Int):∀L,sumA (ansI x n L)=sumA L+n
 | []=>by simp[ansI,sumA]
 | y::r=>by
   rw[ansI]
   split
   · rw[sumA,sumA,ansI_sum x n r];omega
   · split
     · simp only[sumA];omega
     · simp only[sumA];omega
theorem ansI_pos {x:List Int} {n:Int} (hn:0<n):∀{L},(∀y∈L,0<y.2)→ ∀y∈ansI x n L,0<y.2
 | [],_,y,hy=>by rw[List.mem_singleton.1 hy];exact hn
 | z::r,h,y,hy=>by
   have hz:=h z (by simp)
   have hr:∀y∈r,0<y.2:=fun y hy=>h y (by simp[hy])
   rw[ansI] at hy
   split at hy
   · rcases List.mem_cons.1 hy with rfl | hy
     · exact hz
     · exact ansI_pos hn hr y hy
   · split at hy
     · rcases List.mem_cons.1 hy with rfl | hy
       · show 0<z.2+n;omega
       · exact hr y hy
     · rcases List.mem_cons.1 hy with rfl | hy
       · exact hn
       · exact h y hy
theorem sumA_nn:∀{L:List (List Int×Int)},(∀y∈L,0<y.2)→0≤sumA L
 | [],_=>Int.le_refl _
 | y::r,h=>by
   have:=sumA_nn (L:=r) fun z hz=>h z (by simp[hz])
   have:=h y (by simp)
   rw[sumA];omega
theorem sumA_mem:∀{L:List (List Int×Int)},(∀y∈L,0<y.2)→ ∀q:Nat,0≤(L.map (·.2)).getD q 0∧(L.map (·.2)).getD q 0≤sumA L
 | [],_,q=>by simp[sumA]
 | y::r,h,q=>by
   have hr:∀z∈r,0<z.2:=fun z hz=>h z (by simp[hz])
   have h0:=sumA_nn hr
   have hy:=h y (by simp)
   rw[sumA]
   cases q with
   | zero=>simp only[List.map_cons,List.getD_cons_zero];omega
   | succ q=>
     have:=sumA_mem hr q
     simp only[List.map_cons,List.getD_cons_succ];omega
def ansO (G:Gm) (a:Aq):List (List Int×Int)×Int:=
 if gmErr G=0 then (if askErr G.ws.length a=0 then (if (crsO G).2=0 then (ansL (dueF G a) (crsO G).1,0) else ([],(crsO G).2)) else ([],askErr G.ws.length a)) else ([],gmErr G)
theorem whF_len2 (p:Int→Bool) (l:List Int):(whF p 0 l).length≤l.length:=whF_len p 0 l
theorem numF_len:∀(met l:List Int),(numF met l).length=l.length
 | _,[]=>rfl
 | met,x::r=>by
   rw[numF]
   split<;>rw[List.length_cons,List.length_cons,numF_len]
theorem fstF_len:∀(o l:List Int),(fstF o l).length≤o.length+l.length
 | _,[]=>Nat.le_refl _
 | o,x::r=>by
   rw[fstF]
   split
   · have:=fstF_len o r;rw[List.length_cons];omega
   · have:=fstF_len (o++[x]) r;rw[len_snoc] at this;rw[List.length_cons];omega
theorem cntX_len:∀(xs l:List Int),(cntX xs l).length=xs.length
 | _,[]=>rfl
 | xs,w::r=>by rw[cntX,cntX_len,List.length_set]
theorem dueF_len (G:Gm) (a:Aq) (c:List Int):(dueF G a c).length≤c.length+G.ws.length:=by
 unfold dueF
 split
 · rw[numF_len];omega
 split
 · have:=whF_len2 (fun x=>!triedB G.ds x) c;omega
 split
 · have:=whF_len2 (fun x=>decide (x=a.wood)) c;omega
 split
 · have:=fstF_len [] c;rw[List.length_nil] at this;omega
 split
 · rw[cntX_len,List.length_replicate];omega
 · omega
end Go.Abs
namespace Go.Abs
open Go.Proofs Go.RowKit Go.Lib
theorem wp_cpI (w:World) {o:Oper} {a:Act} {K:Act→World→Prop} {Q:Exit→Act→World→Prop} (d s:Operand) (t t':TypeId)
  (ho:o.op= .call {callee:= .builtin .copy,args:= #[d,s],argTypes:= #[t,t'] }) (v u:Value) (hd:a.eval d=v) (hs:a.eval s=u) {P:Program} {v':Value} {w':World}
  (hr:(Builtin.copy_ #[t,t'] o.type #[v,u]).run P w= .ok v' w') (h:K (a.put o.dst v') w'):o.wp P a w K Q:=by
 unfold Oper.wp execOp
 simp only[ho,resolve,invoke,builtin,Sem.run_bind,Sem.run_pure,Result.andThen_ok,List.map_toArray,List.map_cons,List.map_nil,hd,hs,hr]
 exact h
theorem wpL_cpI (w:World) {ops:Array Oper} {rest:List Oper} {o:Oper} {a:Act} {Q:Exit→Act→World→Prop} {P:Program} (hgd:o.guard=none) (d s:Operand) (t t':TypeId)
  (ho:o.op= .call {callee:= .builtin .copy,args:= #[d,s],argTypes:= #[t,t'] }) (v u:Value) (hd:a.eval d=v) (hs:a.eval s=u) {v':Value} {w':World}
  (hr:(Builtin.copy_ #[t,t'] o.type #[v,u]).run P w= .ok v' w') (h:wpList P ops Q rest (a.put o.dst v') w'):wpList P ops Q (o::rest) a w:=
 wpList_plain hgd fun _ hK=>wp_cpI w d s t t' ho v u hd hs hr (hK _ _ h)
theorem st_cpI {ops:Array Oper} {o:Oper} {a:Act} {w:World} {K:Act→World→Prop} {Q:Exit→Act→World→Prop} {E:Prop} {P:Program}
  (hg:o.guard=none) (d x:Operand) (t t':TypeId) (hop:o.op=Op.call {callee:=Callee.builtin Builtin.copy,args:= #[d,x],argTypes:= #[t,t'] })
  (v u:Value) (hd:a.eval d=v) (hx:a.eval x=u) {v':Value} {w':World} (hr:(Builtin.copy_ #[t,t'] o.type #[v,u]).run P w= .ok v' w') (hK:K (a.put o.dst v') w'):
  if Region.wanted o (yielded ops a.tmps)=true then Oper.wp P o a w K Q else E:=by
 have hw:Region.wanted o (yielded ops a.tmps)=true:=by simp[Region.wanted,hg]
 rw[if_pos hw]
 exact wp_cpI w d x t t' hop v u hd hx hr hK
set_option maxRecDepth 100000 in
theorem insA (v':Value) (n:Nat) (w w':World) (b:Option Addr) (c:Nat) (hb:b=none→n=0∧c=0) (vl:Addr) (vc:Nat)
  (hrun:∀ty,(Builtin.append_ #[41,41] ty #[.slice b n c,.slice (some vl) 1 vc]).run Try.prog w= .ok v' w'):
  Calls Try.prog 78 #[.slice b n c,.int .i64 n,.slice (some vl) 1 vc] w fun e W=>e= .returned v'∧W=w':=by
 go_enter Try.func78,Try.ntmps78
 cases b with
 | none=>
   obtain⟨rfl,rfl⟩:=hb rfl
   go_wp2_with (at_builtin;refine Lib.wpList_append_run _ rfl _ _ _ _ rfl _ _ rfl rfl _ _ (hrun _) ?_)
   go_ret
   exact⟨rfl,rfl⟩
 | some a=>
   go_wp2_with (at_builtin;refine Lib.wpList_append_run _ rfl _ _ _ _ rfl _ _ rfl rfl _ _ (hrun _) ?_)
   all_goals (go_ret;exact⟨rfl,rfl⟩)
set_option maxRecDepth 100000 in
theorem insB (n c i:Nat) (hi:i<n) (hroom:n+1≤c) (hn63:n≤4000000000000000000) (b vb vc:Nat) (w W1 W2:World)
  (hov:∀lb cb,(callFunc 108 #[.slice (some ⟨vb,0,none⟩) 1 vc,.slice (some ⟨b,i+1,none⟩) lb cb]).run Try.prog w= .ok (.value (.bool false)) w)
  (hcp1:∀ty dc sc,(Builtin.copy_ #[41,41] ty #[.slice (some ⟨b,i+1,none⟩) (n-i) dc,.slice (some ⟨b,i,none⟩) (n+1-i) sc]).run Try.prog w.drew= .ok (goInt (n-i:Nat)) W1)
  (hcp2:∀ty dc,(Builtin.copy_ #[41,41] ty #[.slice (some ⟨b,i,none⟩) (n+1-i) dc,.slice (some ⟨vb,0,none⟩) 1 vc]).run Try.prog W1= .ok (goInt 1) W2):
  Calls Try.prog 78 #[.slice (some ⟨b,0,none⟩) n c,.int .i64 i,.slice (some ⟨vb,0,none⟩) 1 vc] w fun e W=>e= .returned (.slice (some ⟨b,0,none⟩) (n+1) c)∧W=W2:=by
 have hz2:¬((i:Int)=(n:Int)):=by omega
 have hw1:IntKind.i64.wrap ((i:Int)+(1:Int))=(i:Int)+(1:Int):=by rw[IntKind.wrap_i64];omega
 have hb1:(0:Int)≤(i:Int)+(1:Int):=by omega
 have hin:i≤n:=by omega
 have htn:((i:Int)+(1:Int)).toNat=i+1:=by omega
 have hb2:¬(c=i+1):=by omega
 have hb3:(i:Int)≤(n:Int)+(1:Int):=by omega
 have hb4:¬(c=i):=by omega
 go_enter Try.func78,Try.ntmps78
 go_wp2_with (simp only[hov])
 go_region_law (refine st_cpI rfl _ _ 41 41 rfl _ _ (by simp[Act.eval,Act.put]) (by simp[Act.eval,Act.put]) (hcp1 _ _ _) ?_)
 go_wp2_with (at_builtin;refine wpL_cpI _ rfl _ _ 41 41 rfl _ _ rfl rfl (hcp2 _ _) ?_)
 go_ret
 exact⟨rfl,rfl⟩
set_option maxRecDepth 100000 in
theorem insC (n c i G:Nat) (hi:i<n) (hnc:n≤c) (hroom:¬n+1≤c) (hc63:c≤4000000000000000000) (hG:n+1≤G) (hG63:G≤9223372036854775807) (b vb vc nb:Nat) (w W0 W1 W2:World)
  (hap:∀ty,(Builtin.append_ #[41,3] ty #[.slice (some ⟨b,0,none⟩) i c,.int .i64 ((n:Int)+1-(i:Int))]).run Try.prog w= .ok (.slice (some ⟨nb,0,none⟩) (n+1) G) W0)
  (hcp1:∀ty dc,(Builtin.copy_ #[41,41] ty #[.slice (some ⟨nb,i,none⟩) (n+1-i) dc,.slice (some ⟨vb,0,none⟩) 1 vc]).run Try.prog W0= .ok (goInt 1) W1)
  (hcp2:∀ty dc sc,(Builtin.copy_ #[41,41] ty #[.slice (some ⟨nb,i+1,none⟩) (n+1-(i+1)) dc,.slice (some ⟨b,i,none⟩) (n-i) sc]).run Try.prog W1.drew= .ok (goInt (n-i:Nat)) W2):
  Calls Try.prog 78 #[.slice (some ⟨b,0,none⟩) n c,.int .i64 i,.slice (some ⟨vb,0,none⟩) 1 vc] w fun e W=>e= .returned (.slice (some ⟨nb,0,none⟩) (n+1) G)∧W=W2:=by
 have hz2:¬((i:Int)=(n:Int)):=by omega
 have hz3:(c:Int)<(n:Int)+(1:Int):=by omega
 have hw1:IntKind.i64.wrap ((i:Int)+(1:Int))=(i:Int)+(1:Int):=by rw[IntKind.wrap_i64];omega
 have hb1:(0:Int)≤(i:Int)+(1:Int):=by omega
 have hin:i≤n:=by omega
 have htn:((i:Int)+(1:Int)).toNat=i+1:=by omega
 have hb3:(i:Int)≤(n:Int):=by omega
 have hb4:¬(c=i):=by omega
 have hGi:¬(G=i):=by omega
 have hGim:¬(G=i+1):=by omega
 go_enter Try.func78,Try.ntmps78
 go_wp2_with (first
  | (at_builtin;refine Lib.wpList_append_run _ rfl _ _ _ _ rfl _ _ rfl rfl _ _ (hap _) ?_)
  | (at_builtin;refine wpL_cpI _ rfl _ _ 41 41 rfl _ _ rfl rfl (hcp1 _ _) ?_))
 go_region_law (refine st_cpI rfl _ _ 41 41 rfl (.slice (some ⟨nb,i+1,none⟩) (n+1-(i+1)) (G-(i+1))) (.slice (some ⟨b,i,none⟩) (n-i) (c-i)) (by simp[Act.eval,Act.put]) (by simp[Act.eval,Act.put]) (hcp2 _ _ _) ?_)
 go_wp2
 go_ret
 exact⟨rfl,rfl⟩
set_option maxRecDepth 100000 in
theorem insA_i (v':Value) (n:Nat) (w w':World) (b:Option Addr) (c:Nat) (hb:b=none→n=0∧c=0) (vl:Addr) (vc:Nat)
  (hrun:∀ty,(Builtin.append_ #[28,28] ty #[.slice b n c,.slice (some vl) 1 vc]).run Try.prog w= .ok v' w'):
  Calls Try.prog 79 #[.slice b n c,.int .i64 n,.slice (some vl) 1 vc] w fun e W=>e= .returned v'∧W=w':=by
 go_enter Try.func79,Try.ntmps79
 cases b with
 | none=>
   obtain⟨rfl,rfl⟩:=hb rfl
   go_wp2_with (at_builtin;refine Lib.wpList_append_run _ rfl _ _ _ _ rfl _ _ rfl rfl _ _ (hrun _) ?_)
   go_ret
   exact⟨rfl,rfl⟩
 | some a=>
   go_wp2_with (at_builtin;refine Lib.wpList_append_run _ rfl _ _ _ _ rfl _ _ rfl rfl _ _ (hrun _) ?_)
   all_goals (go_ret;exact⟨rfl,rfl⟩)
set_option maxRecDepth 100000 in
theorem insB_i (n c i:Nat) (hi:i<n) (hroom:n+1≤c) (hn63:n≤4000000000000000000) (b vb vc:Nat) (w W1 W2:World)
  (hov:∀lb cb,(callFunc 110 #[.slice (some ⟨vb,0,none⟩) 1 vc,.slice (some ⟨b,i+1,none⟩) lb cb]).run Try.prog w= .ok (.value (.bool false)) w)
  (hcp1:∀ty dc sc,(Builtin.copy_ #[28,28] ty #[.slice (some ⟨b,i+1,none⟩) (n-i) dc,.slice (some ⟨b,i,none⟩) (n+1-i) sc]).run Try.prog w.drew= .ok (goInt (n-i:Nat)) W1)
  (hcp2:∀ty dc,(Builtin.copy_ #[28,28] ty #[.slice (some ⟨b,i,none⟩) (n+1-i) dc,.slice (some ⟨vb,0,none⟩) 1 vc]).run Try.prog W1= .ok (goInt 1) W2):
  Calls Try.prog 79 #[.slice (some ⟨b,0,none⟩) n c,.int .i64 i,.slice (some ⟨vb,0,none⟩) 1 vc] w fun e W=>e= .returned (.slice (some ⟨b,0,none⟩) (n+1) c)∧W=W2:=by
 have hz2:¬((i:Int)=(n:Int)):=by omega
 have hw1:IntKind.i64.wrap ((i:Int)+(1:Int))=(i:Int)+(1:Int):=by rw[IntKind.wrap_i64];omega
 have hb1:(0:Int)≤(i:Int)+(1:Int):=by omega
 have hin:i≤n:=by omega
 have htn:((i:Int)+(1:Int)).toNat=i+1:=by omega
 have hb2:¬(c=i+1):=by omega
 have hb3:(i:Int)≤(n:Int)+(1:Int):=by omega
 have hb4:¬(c=i):=by omega
 go_enter Try.func79,Try.ntmps79
 go_wp2_with (simp only[hov])
 go_region_law (refine st_cpI rfl _ _ 28 28 rfl _ _ (by simp[Act.eval,Act.put]) (by simp[Act.eval,Act.put]) (hcp1 _ _ _) ?_)
 go_wp2_with (at_builtin;refine wpL_cpI _ rfl _ _ 28 28 rfl _ _ rfl rfl (hcp2 _ _) ?_)
 go_ret
 exact⟨rfl,rfl⟩
set_option maxRecDepth 100000 in
theorem insC_i (n c i G:Nat) (hi:i<n) (hnc:n≤c) (hroom:¬n+1≤c) (hc63:c≤4000000000000000000) (hG:n+1≤G) (hG63:G≤9223372036854775807) (b vb vc nb:Nat) (w W0 W1 W2:World)
  (hap:∀ty,(Builtin.append_ #[28,3] ty #[.slice (some ⟨b,0,none⟩) i c,.int .i64 ((n:Int)+1-(i:Int))]).run Try.prog w= .ok (.slice (some ⟨nb,0,none⟩) (n+1) G) W0)
  (hcp1:∀ty dc,(Builtin.copy_ #[28,28] ty #[.slice (some ⟨nb,i,none⟩) (n+1-i) dc,.slice (some ⟨vb,0,none⟩) 1 vc]).run Try.prog W0= .ok (goInt 1) W1)
  (hcp2:∀ty dc sc,(Builtin.copy_ #[28,28] ty #[.slice (some ⟨nb,i+1,none⟩) (n+1-(i+1)) dc,.slice (some ⟨b,i,none⟩) (n-i) sc]).run Try.prog W1.drew= .ok (goInt (n-i:Nat)) W2):
  Calls Try.prog 79 #[.slice (some ⟨b,0,none⟩) n c,.int .i64 i,.slice (some ⟨vb,0,none⟩) 1 vc] w fun e W=>e= .returned (.slice (some ⟨nb,0,none⟩) (n+1) G)∧W=W2:=by
 have hz2:¬((i:Int)=(n:Int)):=by omega
 have hz3:(c:Int)<(n:Int)+(1:Int):=by omega
 have hw1:IntKind.i64.wrap ((i:Int)+(1:Int))=(i:Int)+(1:Int):=by rw[IntKind.wrap_i64];omega
 have hb1:(0:Int)≤(i:Int)+(1:Int):=by omega
 have hin:i≤n:=by omega
 have htn:((i:Int)+(1:Int)).toNat=i+1:=by omega
 have hb3:(i:Int)≤(n:Int):=by omega
 have hb4:¬(c=i):=by omega
 have hGi:¬(G=i):=by omega
 have hGim:¬(G=i+1):=by omega
 go_enter Try.func79,Try.ntmps79
 go_wp2_with (first
  | (at_builtin;refine Lib.wpList_append_run _ rfl _ _ _ _ rfl _ _ rfl rfl _ _ (hap _) ?_)
  | (at_builtin;refine wpL_cpI _ rfl _ _ 28 28 rfl _ _ rfl rfl (hcp1 _ _) ?_))
 go_region_law (refine st_cpI rfl _ _ 28 28 rfl (.slice (some ⟨nb,i+1,none⟩) (n+1-(i+1)) (G-(i+1))) (.slice (some ⟨b,i,none⟩) (n-i) (c-i)) (by simp[Act.eval,Act.put]) (by simp[Act.eval,Act.put]) (hcp2 _ _ _) ?_)
 go_wp2
 go_ret
 exact⟨rfl,rfl⟩
end Go.Abs
namespace Go.Abs
open Go.Proofs Go.RowKit Go.Lib
section
variable {P:Program} {G:GS} {w:World} {σ:Sig}
theorem ROut.of_step {Y:Option (YC P)} {T:Nat→Prop} {G':GS} {σ':Sig} {w':World} {R:AV→Sig→Prop} {v:Value} {av:AV} (hy:YI Y T σ G.K w) (hd:∀b,Foot G σ b→ ¬T b) (hs:StepOK G σ w G' σ' w') (hys:σ' YS=σ YS) (hr:Rel G' av v) (hR:R av σ'):ROut Y T G σ w R (.returned v) w':=
 ⟨v,av,σ',G',T,rfl,hs.inv,hr,hR,hs.le,hs.ext.weak fun b _ h=> .inl h,hs.own,hy.step hd hs hys,fun b hb ht=>(hs.own b hb).elim (fun h=>hd b h ht) fun h=>by have:=hy.lt ht;omega,fun b hb=> .inl hb⟩
theorem run_cp {t u e ty:TypeId} (ht:P.underlying t=some (.slice e)) (hs:szOf P e=some 1) {B o n cap m k:Nat} {vals:Array Value} {T:TypeId} {vb:Value} (hobj:w.heap[B]?=some (.cells vals T (0,0))) (vs:List Value)
  (hlen:(Builtin.lenOf vb).run P w= .ok m w) (hk:Nat.min m n=k) (hfirst:(Builtin.firstCells 1 k vb).run P w= .ok vs.toArray w) (hfit:o+vs.length≤vals.size) (hone:∀v∈vs,v.oneCell'=true):
  (Builtin.copy_ #[t,u] ty #[.slice (some ⟨B,o,none⟩) n cap,vb]).run P w= .ok (goInt (k:Nat)) (w.setRow B (setL vals.toList o vs).toArray):=by
 have hfit':o+0+vs.length≤vals.size:=by omega
 have hst:=run_storeCells_at P B o T vs 0 vals w hobj hfit' hone
 simp only[Nat.add_zero] at hst
 rw[over_eq _ _ _ (by simpa using hfit')] at hst
 have hf:(Builtin.firstCells 1 (Nat.min m n) vb).run P w= .ok vs.toArray w:=by rw[hk];exact hfirst
 subst hk
 simp[Builtin.copy_,run_underlying ht,hlen,run_szOf hs,hf,hst]
end
structure InsF (P:Program) (f T E ov:Nat) (by1:Nat) (zv:Value):Prop where
 ok:okFn P f=true
 ut:P.underlying T=some (.slice E)
 u3:P.underlying 3=some (.int .i64)
 info:∃i,P.info? E=some i∧i.zero=some zv∧i.size=1∧i.bytes=by1
 by1:0<by1∧by1≤1000
 zc:zv.cells.size=1
 sz:szOf P E=some 1
 ovl:∀(w:World) (a b:Addr) (la ca lb cb:Nat) (tA tB:TypeId) (kA kB:Nat),a.block≠b.block→w.shape? a.block=some (tA,kA)→w.shape? b.block=some (tB,kB)→kB≠0→w.frozen? a=false→w.frozen? {block:=a.block,off:=kA }=false→(callFunc ov #[.slice (some a) la ca,.slice (some b) lb cb]).run P w= .ok (.value (.bool false)) w
 A:∀(v':Value) (n:Nat) (w w':World) (b:Option Addr) (c:Nat),(b=none→n=0∧c=0)→ ∀(vl:Addr) (vc:Nat),(∀ty,(Builtin.append_ #[T,T] ty #[.slice b n c,.slice (some vl) 1 vc]).run P w= .ok v' w')→
  Calls P f #[.slice b n c,.int .i64 n,.slice (some vl) 1 vc] w fun e W=>e= .returned v'∧W=w'
 B:∀(n c i:Nat),i<n→n+1≤c→n≤4000000000000000000→ ∀(b vb vc:Nat) (w W1 W2:World),(∀lb cb,(callFunc ov #[.slice (some ⟨vb,0,none⟩) 1 vc,.slice (some ⟨b,i+1,none⟩) lb cb]).run P w= .ok (.value (.bool false)) w)→
  (∀ty dc sc,(Builtin.copy_ #[T,T] ty #[.slice (some ⟨b,i+1,none⟩) (n-i) dc,.slice (some ⟨b,i,none⟩) (n+1-i) sc]).run P w.drew= .ok (goInt (n-i:Nat)) W1)→
  (∀ty dc,(Builtin.copy_ #[T,T] ty #[.slice (some ⟨b,i,none⟩) (n+1-i) dc,.slice (some ⟨vb,0,none⟩) 1 vc]).run P W1= .ok (goInt 1) W2)→
  Calls P f #[.slice (some ⟨b,0,none⟩) n c,.int .i64 i,.slice (some ⟨vb,0,none⟩) 1 vc] w fun e W=>e= .returned (.slice (some ⟨b,0,none⟩) (n+1) c)∧W=W2
 C:∀(n c i G:Nat),i<n→n≤c→ ¬n+1≤c→c≤4000000000000000000→n+1≤G→G≤9223372036854775807→ ∀(b vb vc nb:Nat) (w W0 W1 W2:World),
  (∀ty,(Builtin.append_ #[T,3] ty #[.slice (some ⟨b,0,none⟩) i c,.int .i64 ((n:Int)+1-(i:Int))]).run P w= .ok (.slice (some ⟨nb,0,none⟩) (n+1) G) W0)→
  (∀ty dc,(Builtin.copy_ #[T,T] ty #[.slice (some ⟨nb,i,none⟩) (n+1-i) dc,.slice (some ⟨vb,0,none⟩) 1 vc]).run P W0= .ok (goInt 1) W1)→
  (∀ty dc sc,(Builtin.copy_ #[T,T] ty #[.slice (some ⟨nb,i+1,none⟩) (n+1-(i+1)) dc,.slice (some ⟨b,i,none⟩) (n-i) sc]).run P W1.drew= .ok (goInt (n-i:Nat)) W2)→
  Calls P f #[.slice (some ⟨b,0,none⟩) n c,.int .i64 i,.slice (some ⟨vb,0,none⟩) 1 vc] w fun e W=>e= .returned (.slice (some ⟨nb,0,none⟩) (n+1) G)∧W=W2
theorem insL_f:InsF Try.prog 78 41 28 108 24 (.slice none 0 0) where
 ok:=by kernel_rfl
 ut:=Try.underlying41
 u3:=Try.underlying3
 info:=⟨_,rfl,by kernel_rfl,by kernel_rfl,by kernel_rfl⟩
 by1:=⟨by decide,by decide⟩
 zc:=rfl
 sz:=by kernel_rfl
 ovl w a b la ca lb cb tA tB kA kB h1 h2 h3 h4 h5 h6:=by
  rw[run_callFunc_extern Try.func108 (by kernel_rfl) (by kernel_rfl) (by kernel_rfl) (e:=Extern.SlicesOverlaps.overlaps #[41,41] #[4]) (by kernel_rfl),
   Lib.run_overlaps_apart w 41 4 28 Try.underlying41 1 (fun w=>by rfl) a b la ca lb cb h1 tA tB kA kB h2 h3 h4 h5 h6]
  rfl
 A:=insA
 B:=insB
 C:=insC
theorem insI_f:InsF Try.prog 79 28 3 110 8 (.int .i64 0) where
 ok:=by kernel_rfl
 ut:=Try.underlying28
 u3:=Try.underlying3
 info:=⟨_,rfl,by kernel_rfl,by kernel_rfl,by kernel_rfl⟩
 by1:=⟨by decide,by decide⟩
 zc:=rfl
 sz:=by kernel_rfl
 ovl w a b la ca lb cb tA tB kA kB h1 h2 h3 h4 h5 h6:=by
  rw[run_callFunc_extern Try.func110 (by kernel_rfl) (by kernel_rfl) (by kernel_rfl) (e:=Extern.SlicesOverlaps.overlaps #[28,28] #[4]) (by kernel_rfl),
   Lib.run_overlaps_apart w 28 4 3 Try.underlying28 1 (fun w=>by rfl) a b la ca lb cb h1 tA tB kA kB h2 h3 h4 h5 h6]
  rfl
 A:=insA_i
 B:=insB_i
 C:=insC_i
end Go.Abs
namespace Go.Abs
open Go.Proofs Go.RowKit Go.Lib
section
variable {P:Program}
theorem insNil {f T E ov by1:Nat} {zv:Value} (F:InsF P f T E ov by1 zv) {x:AV} (hx:x.scal=true) (h:Nat):
  RawC P f [.nsl,.int .i64 0,.msl 1001 h 1 1] (sg [(1001,(h,.row [x]))]) (SR (fun g' v=>v= .msl 1000 g' 1 1) (fun g'=>[(1000,(g',.row [x])),(1001,(h,.row [x]))])):=by
 refine⟨F.ok,fun Y T0 G w vals hI hy hd hr=>?_⟩
 obtain⟨v0,_,rfl,r0,v1,_,rfl,r1,v2,_,rfl,r2,rfl⟩:=hr
 obtain rfl:v0= .slice none 0 0:=r0
 obtain rfl:v1= .int .i64 0:=r1
 obtain⟨B2,cap2,rfl,hc2,hm2⟩:=r2
 obtain⟨i,hi,hz,hs,hby⟩:=F.info
 obtain⟨γ,hγ⟩:=hI.fresh 1000
 have hb1:=F.by1
 obtain⟨v',w',G',hrun,hrel,hst⟩:=e_apmM (P:=P) (ty:=0) (d:=1000) (γ:=γ) (a:= .nsl) (b:= .msl 1001 h 1 1) (va:= .slice none 0 0) (vb:= .slice (some ⟨B2,0,none⟩) 1 cap2) (n:=0) (m:=1) (cs:=[]) (ys:=[x]) (σ':=sg [(1001,(h,.row [x]))]) hI (hγ γ (Nat.le_refl _)) F.ut F.ut hi hz (by rw[hs];exact F.zc) (by omega) (by omega) rfl ⟨B2,cap2,rfl,hc2,hm2⟩ (p:=True) rfl trivial (q:=h=h∧1=i.size∧1*i.size≤[x].length∧[x].length=1*i.size∧[x].all AV.scal=true∧0<1) rfl (by rw[hs];simp[hx]) (by rw[hby];omega)
 refine (F.A v' 0 w w' none 0 (fun _=>⟨rfl,rfl⟩) ⟨B2,0,none⟩ cap2 fun ty=>hrun).mono ?_
 rintro e W ⟨rfl,rfl⟩
 rw[hs] at hrel
 exact ROut.of_step hy hd hst rfl hrel ⟨γ,rfl,rfl,rfl,trivial⟩
def layL (xs:List AV) (k:Nat) (x:AV):List AV:=xs.take k++x::xs.drop k
theorem layL_len {xs:List AV} {k:Nat} {x:AV} (h:k≤xs.length):(layL xs k x).length=xs.length+1:=by unfold layL;simp;omega
theorem layL_get {xs:List AV} {k:Nat} {x:AV} (h:k≤xs.length) (j:Nat):(layL xs k x)[j]?=if j<k then xs[j]? else if j=k then some x else xs[j-1]?:=by
 unfold layL
 have hl:(xs.take k).length=k:=by rw[List.length_take];omega
 by_cases h1:j<k
 · rw[if_pos h1,List.getElem?_append_left (by omega),List.getElem?_take_of_lt h1]
 · rw[if_neg h1,List.getElem?_append_right (by omega),hl]
   by_cases h2:j=k
   · subst h2;rw[if_pos rfl,Nat.sub_self];rfl
   · rw[if_neg h2,show j-k=(j-1-k)+1 by omega,List.getElem?_cons_succ,List.getElem?_drop]
     congr 1;omega
theorem shape_of {w:World} {b:Nat} {vals:Array Value} {T:TypeId} (h:w.heap[b]?=some (.cells vals T (0,0))):w.shape? b=some (T,vals.size):=by simp[World.shape?,h]
theorem frozen_of {w:World} {b:Nat} {vals:Array Value} {T:TypeId} (h:w.heap[b]?=some (.cells vals T (0,0))) (o:Nat):w.frozen? ⟨b,o,none⟩=false:=by simp[World.frozen?,h]
theorem cell_of {w:World} {b:Nat} {vals:Array Value} {T:TypeId} (h:w.heap[b]?=some (.cells vals T (0,0))) (o:Nat):w.cell? ⟨b,o,none⟩=vals[o]?:=by simp[World.cell?,h]
theorem insM {f T E ov by1:Nat} {zv:Value} (F:InsF P f T E ov by1 zv) {x:AV} (hx:x.scal=true) {xs:List AV} (hxs:xs.all AV.scal=true) (g h k:Nat) (hk:k≤xs.length) (hn:xs.length≤1000000):
  RawC P f [.msl 1000 g xs.length 1,.int .i64 k,.msl 1001 h 1 1] (sg [(1000,(g,.row xs)),(1001,(h,.row [x]))]) (SR (fun g' v=>v= .msl 1000 g' (xs.length+1) 1) (fun g'=>[(1000,(g',.row (layL xs k x))),(1001,(h,.row [x]))])):=by
 refine⟨F.ok,fun Y T0 G w vals hI hy hd hr=>?_⟩
 obtain⟨v0,_,rfl,r0,v1,_,rfl,r1,v2,_,rfl,r2,rfl⟩:=hr
 obtain⟨B,cap,rfl,hc,hm⟩:=r0
 obtain rfl:v1= .int .i64 k:=r1
 obtain⟨B2,cap2,rfl,hc2,hm2⟩:=r2
 obtain⟨i,hi,hz,hs,hby⟩:=F.info
 obtain⟨γ,hγ⟩:=hI.fresh 1000
 have hγ:=hγ γ (Nat.le_refl _)
 have hb1:=F.by1
 obtain⟨σ,hσ⟩:∃σ,sg [(1000,(g,Res.row xs)),(1001,(h,Res.row [x]))]=σ:=⟨_,rfl⟩
 have hσ0:σ 1000=(g,.row xs):=by rw[←hσ];rfl
 have hσ1:σ 1001=(h,.row [x]):=by rw[←hσ];rfl
 have hσY:∀c',upd σ 1000 c' YS=σ YS:=fun c'=>by rw[upd_eq,if_neg (by decide)]
 rw[hσ] at hI hy hd ⊢
 by_cases hkn:k=xs.length
 · subst hkn
   obtain⟨v',w',G',hrun,hrel,hst⟩:=e_apmM (P:=P) (ty:=0) (d:=1000) (γ:=γ) (a:= .msl 1000 g xs.length 1) (b:= .msl 1001 h 1 1) (va:= .slice (some ⟨B,0,none⟩) xs.length cap) (vb:= .slice (some ⟨B2,0,none⟩) 1 cap2) (n:=xs.length) (m:=1) (cs:=xs) (ys:=[x]) (σ':=upd σ 1000 (g,.dead)) hI hγ F.ut F.ut hi hz (by rw[hs];exact F.zc) (by omega) (by omega) ⟨B,cap,rfl,hc,hm⟩ ⟨B2,cap2,rfl,hc2,hm2⟩ (p:=g=g∧1=i.size∧xs.length=xs.length*i.size) (by simp only[baseM,hσ0]) (by rw[hs];simp) (q:=h=h∧1=i.size∧1*i.size≤[x].length∧[x].length=1*i.size∧[x].all AV.scal=true∧0<1) (by simp only[rowsM,hσ1]) (by rw[hs];simp[hx]) (by
    rw[hby]
    have:(xs.length+1)*by1≤1000001*1000:=Nat.mul_le_mul (by omega) (by omega)
    omega)
   refine (F.A v' xs.length w w' (some ⟨B,0,none⟩) cap (fun h=>by cases h) ⟨B2,0,none⟩ cap2 fun ty=>hrun).mono ?_
   rintro e W ⟨rfl,rfl⟩
   rw[hs] at hrel
   have e1:layL xs xs.length x=xs++[x]:=by simp[layL]
   have e2:∀c',newS (upd σ 1000 (g,.dead)) 1000 γ c'=upd σ 1000 (γ,.row c'):=fun c'=>by rw[newS,upd_upd]
   rw[e2] at hst
   refine ROut.of_step hy hd hst (hσY _) hrel ⟨γ,rfl,?_,?_,trivial⟩
   · rw[upd_eq,if_pos rfl,e1]
   · rw[upd_eq,if_neg (by decide),hσ1]
 have hk1:k<xs.length:=by omega
 rcases hI.res 1000 xs (by rw[hσ0]) with⟨_,h0⟩ | ⟨b',e0,lim',vals,TT,hR⟩ | ⟨b',hO⟩
 · rw[hσ0,hm] at h0;cases h0
 rotate_left
 · have hm':=hO.m;rw[hσ0,hm] at hm';cases hm'
 rcases hI.res 1001 [x] (by rw[hσ1]) with⟨_,h0⟩ | ⟨b',e0,lim',vals2,TT2,hR2⟩ | ⟨b',hO⟩
 · rw[hσ1,hm2] at h0;cases h0
 rotate_left
 · have hm':=hO.m;rw[hσ1,hm2] at hm';cases hm'
 rw[hσ0] at hR
 rw[hσ1] at hR2
 have:=hR.m;rw[hm] at this;cases this
 have:=hR2.m;rw[hm2] at this;cases this
 have hBB:B2≠B:=fun e=>hI.dist 1001 1000 B _ _ (by decide) ⟨_,by rw[hσ1]⟩ ⟨_,by rw[hσ0]⟩ (by rw[hσ1,hm2,e]) (by rw[hσ0];exact hm)
 obtain⟨xv,hxv,hxr⟩:=hR2.rel 0 x rfl
 have hxo:xv.oneCell'=true:=scal_one hxr hx
 have hobj:=hR.obj
 have hvl:vals.toList.length=vals.size:=by simp
 have hobj2:=hR2.obj
 have hlim:=hR.lim
 have hfit:=hR.fit
 have hlt:B<w.heap.size:=(Array.getElem?_eq_some_iff.1 hobj).1
 have hlt2:B2<w.heap.size:=(Array.getElem?_eq_some_iff.1 hobj2).1
 have hcellv:∀j v,(List.take (xs.length-k) (List.drop k vals.toList))[j]?=some v→vals[k+j]?=some v∧j<xs.length-k:=fun j v hj=>by
  rw[List.getElem?_take] at hj
  split at hj
  · rw[List.getElem?_drop] at hj
    exact⟨by simpa using hj,by assumption⟩
  · cases hj
 obtain⟨s1,hs1⟩:∃s1,List.take (xs.length-k) (List.drop k vals.toList)=s1:=⟨_,rfl⟩
 rw[hs1] at hcellv
 have hs1l:s1.length=xs.length-k:=by rw[←hs1,List.length_take,List.length_drop,hvl];omega
 have hs1g:∀j,j<xs.length-k→s1[j]?=vals[k+j]?:=fun j hj=>by
  rw[←hs1,List.getElem?_take_of_lt hj,List.getElem?_drop];simp
 have hone1:∀v∈s1,v.oneCell'=true:=fun v hv=>by
  obtain⟨j,hj⟩:=List.getElem?_of_mem hv
  obtain⟨h1,h2⟩:=hcellv j v hj
  obtain⟨v',h3,h4⟩:=hR.rel (k+j) _ (List.getElem?_eq_getElem (by omega))
  rw[Nat.zero_add,h1] at h3;cases h3
  rw[List.all_eq_true] at hxs
  exact scal_one h4 (hxs _ (List.getElem_mem _))
 have hcell2:∀(j:Nat) (v:Value),[xv][j]?=some v→vals2[0+j]?=some v:=fun j v hj=>by
  cases j with
  | zero=>simpa using (by simpa using hj:xv=v)▸hxv
  | succ j=>simp at hj
 have hrel:=hR.rel
 by_cases hroom:xs.length+1≤cap
 · obtain⟨W1,hW1⟩:∃W1,w.drew.setRow B (setL vals.toList (k+1) s1).toArray=W1:=⟨_,rfl⟩
   have hdobj:w.drew.heap[B]?=some (.cells vals TT (0,0)):=hobj
   have ho1:W1.heap[B]?=some (.cells (setL vals.toList (k+1) s1).toArray TT (0,0)):=by rw[←hW1];exact setRow_heap _ _ _ _ _ _ hdobj
   have ho2:W1.heap[B2]?=some (.cells vals2 TT2 (0,0)):=by rw[←hW1,setRow_other _ _ _ _ hBB];exact hobj2
   have hsz1:(setL vals.toList (k+1) s1).toArray.size=vals.size:=by simp[length_setL]
   have hB:=F.B xs.length cap k hk1 hroom (by omega) B B2 cap2 w W1 (W1.setRow B (setL (setL vals.toList (k+1) s1) k [xv]).toArray)
    (fun lb cb=>F.ovl w ⟨B2,0,none⟩ ⟨B,k+1,none⟩ 1 cap2 lb cb TT2 TT _ _ hBB (shape_of hobj2) (shape_of hobj) (by omega) (frozen_of hobj2 _) (frozen_of hobj2 _))
    (fun ty dc sc=>by
      rw[←hW1]
      exact run_cp (P:=P) F.ut F.sz (m:=xs.length+1-k) (k:=xs.length-k) hdobj s1 rfl (by show min _ _=_;omega) (run_firstCells_some (P:=P) w.drew _ _ _ _ _ s1 (by omega) fun j v hj=>by
       rw[Addr.add_lit,cell_of hdobj];exact (hcellv j v hj).1) (by omega) hone1)
    (fun ty dc=>by
      have:=run_cp (P:=P) (t:=T) (u:=T) (ty:=ty) (cap:=dc) F.ut F.sz (o:=k) (n:=xs.length+1-k) (m:=1) (k:=1) (vb:= .slice (some ⟨B2,0,none⟩) 1 cap2) ho1 [xv] rfl (by show min _ _=_;omega) (run_firstCells_some (P:=P) W1 _ _ _ _ _ [xv] rfl fun j v hj=>by
       rw[Addr.add_lit,cell_of ho2];exact hcell2 j v hj) (by rw[hsz1];simp;omega) (fun v hv=>by rw[List.mem_singleton.1 hv];exact hxo)
      simpa using this)
   refine hB.mono ?_
   rintro e W ⟨rfl,rfl⟩
   have hsd:StepOK G σ w G σ w.drew:=StepOK.drew hI rfl rfl rfl rfl
   have hR0:ResOK G w.drew 1000 g xs B 0 (cap*1) vals TT:=⟨hR.m,hdobj,hR.fit,hR.lim,hR.K,hR.rel⟩
   have hw1:=write_ok hsd.inv hσ0 hR0 (c':=[]) (vals':=(setL vals.toList (k+1) s1).toArray) hsz1 (fun o ho=>by omega) (by simp) fun j a hj=>by simp at hj
   rw[hW1] at hw1
   have hR1:ResOK G W1 1000 g [] B 0 (cap*1) (setL vals.toList (k+1) s1).toArray TT:=⟨hR.m,ho1,by simp,by rw[hsz1];exact hlim,hR.K,fun j a hj=>by simp at hj⟩
   have hw2:=write_ok hw1.inv (i:=1000) (g:=g) (c:=[]) (by rw[upd_eq,if_pos rfl]) hR1 (c':=layL xs k x) (vals':=(setL (setL vals.toList (k+1) s1) k [xv]).toArray) (by simp[length_setL]) (fun o ho=>by omega) (by rw[layL_len hk];omega) fun j a hj=>by
    have hjl:=(List.getElem?_eq_some_iff.1 hj).1
    rw[layL_len hk] at hjl
    rw[layL_get hk] at hj
    rw[Nat.zero_add,List.getElem?_toArray,setL_get _ _ _ _ (by rw[length_setL,hvl];simp;omega),setL_get _ _ _ _ (by rw[hvl];omega)]
    by_cases h1:j<k
    · rw[if_pos h1] at hj
      rw[if_neg (by omega),if_neg (by omega)]
      simpa using hrel j a hj
    · rw[if_neg h1] at hj
      by_cases h2:j=k
      · rw[if_pos h2] at hj
        rw[if_pos (by simp;omega)]
        cases hj
        exact⟨xv,by simp[h2],hxr⟩
      · rw[if_neg h2] at hj
        rw[if_neg (by simp;omega),if_pos (by omega),hs1g _ (by omega),show k+(j-(k+1))=j-1 by omega]
        simpa using hrel (j-1) a hj
   rw[upd_upd] at hw2
   refine ROut.of_step hy hd (hsd.trans (hw1.trans hw2)) (hσY _) (av:= .msl 1000 g (xs.length+1) 1) ⟨B,cap,rfl,hroom,hm⟩ ⟨g,rfl,?_,?_,trivial⟩
   · rw[upd_eq,if_pos rfl]
   · rw[upd_eq,if_neg (by decide),hσ1]
 · have hcap:cap=xs.length:=by omega
   subst hcap
   obtain⟨os,hos⟩:∃os,List.take k vals.toList=os:=⟨_,rfl⟩
   have hosl:os.length=k:=by rw[←hos,List.length_take,hvl];omega
   have hosg:∀j,j<k→os[j]?=vals[j]?:=fun j hj=>by rw[←hos,List.getElem?_take_of_lt hj];simp
   have hkk:(xs.length:Int)+1-(k:Int)=((xs.length+1-k:Nat):Int):=by omega
   have hb2:(xs.length+1)*by1≤1000001*1000:=Nat.mul_le_mul (by omega) (by omega)
   have hb3:(xs.length+1-k)*by1≤(xs.length+1)*by1:=Nat.mul_le_mul_right _ (by omega)
   have hold:(Builtin.firstCells i.size k (.slice (some ⟨B,0,none⟩) k xs.length)).run P w.drew= .ok os.toArray w.drew:=by
    rw[hs]
    exact run_firstCells_some (P:=P) w.drew _ _ _ _ _ os (by omega) fun j v hj=>by
     have hjl:=(List.getElem?_eq_some_iff.1 hj).1
     rw[Addr.add_lit,Nat.zero_add]
     rw[hosg j (by omega)] at hj
     exact (cell_of (w:=w.drew) hobj j).trans hj
   have hnew:k+(xs.length+1-k)=xs.length+1:=by omega
   obtain⟨GC,hGC⟩:∃GC,grownCap w (xs.length+1) xs.length E=GC:=⟨_,rfl⟩
   have hGC1:xs.length+1≤GC:=by rw[←hGC];exact grownCap_ge _ _ _ _
   have hGC2:GC≤9223372036854775807:=by
    have:=grownCap_le_maxLen w (xs.length+1) xs.length E (by unfold maxLen;omega)
    rw[hGC] at this;unfold maxLen at this;omega
   obtain⟨row,hrow⟩:∃row:Array Value,row=os.toArray++Builtin.zeroCells zv.cells (xs.length+1-k)++Builtin.zeroCells zv.cells (GC-(xs.length+1)):=⟨_,rfl⟩
   have hrsz:row.size=GC:=by
    rw[hrow]
    simp only[Array.size_append,List.size_toArray,size_zeroCells,F.zc,hosl]
    omega
   have hrl:row.toList.length=row.size:=by simp
   have hrg:∀j,j<k→row[j]?=vals[j]?:=fun j hj=>by
    rw[←hosg j hj,hrow,Array.append_assoc,Array.getElem?_append_left (by simp;omega)];simp
   have hap:∀ty,(Builtin.append_ #[T,3] ty #[.slice (some ⟨B,0,none⟩) k xs.length,.int .i64 ((xs.length:Int)+1-(k:Int))]).run P w= .ok (.slice (some ⟨w.heap.size,0,none⟩) (xs.length+1) GC) (w.drew.alloc (.cells row E)):=fun ty=>by
    have:=Lib.run_append_grow_zeros (P:=P) w T 3 ty E i zv .i64 .i64 F.ut F.u3 hi hz (some ⟨B,0,none⟩) k xs.length os hold (xs.length+1-k) (by omega) (by omega) (by omega) (by omega) (by rw[hby];omega) (by rw[hnew,hby];exact growslice_fits (by omega) (by omega))
    rw[hnew,hGC,←hrow] at this
    rw[hkk];exact this
   obtain⟨W0,hW0⟩:∃W0,w.drew.alloc (.cells row E)=W0:=⟨_,rfl⟩
   rw[hW0] at hap
   have hsd:StepOK G σ w G σ w.drew:=StepOK.drew hI rfl rfl rfl rfl
   have hal:=alloc_ok hsd.inv row E 0 1000 γ hγ [] (by simp) (fun o v ho=>by omega) fun j a hj=>by simp at hj
   rw[hW0] at hal
   have e2:newS σ 1000 γ []=upd σ 1000 (γ,.row []):=rfl
   rw[e2] at hal
   obtain⟨G',hG'⟩:∃G',G.grow w.drew.heap.size row 0 1000 γ=G':=⟨_,rfl⟩
   have hgm:G'.m 1000 γ=some (w.heap.size,0,row.size):=by rw[←hG',show w.heap.size=w.drew.heap.size from rfl];exact grow_m ..
   rw[hG'] at hal
   have ho0:W0.heap[w.heap.size]?=some (.cells row E (0,0)):=by rw[←hW0];exact Array.getElem?_push_size
   have hoB:W0.heap[B]?=some (.cells vals TT (0,0)):=by
    rw[←hW0]
    simp only[World.alloc,World.drew]
    rw[Array.getElem?_push_lt (by exact hlt)]
    have:=hobj
    rw[Array.getElem?_eq_getElem hlt] at this
    exact this
   have hoB2:W0.heap[B2]?=some (.cells vals2 TT2 (0,0)):=by
    rw[←hW0]
    simp only[World.alloc,World.drew]
    rw[Array.getElem?_push_lt (by exact hlt2)]
    have:=hobj2
    rw[Array.getElem?_eq_getElem hlt2] at this
    exact this
   have hneB:B≠w.heap.size:=by omega
   have hneB2:B2≠w.heap.size:=by omega
   obtain⟨W1,hW1⟩:∃W1,W0.setRow w.heap.size (setL row.toList k [xv]).toArray=W1:=⟨_,rfl⟩
   have ho1:W1.heap[w.heap.size]?=some (.cells (setL row.toList k [xv]).toArray E (0,0)):=by rw[←hW1];exact setRow_heap _ _ _ _ _ _ ho0
   have hsz1:(setL row.toList k [xv]).toArray.size=row.size:=by simp[length_setL]
   have ho1B:W1.heap[B]?=some (.cells vals TT (0,0)):=by rw[←hW1,setRow_other _ _ _ _ hneB];exact hoB
   have hd1:W1.drew.heap[w.heap.size]?=some (.cells (setL row.toList k [xv]).toArray E (0,0)):=ho1
   have hC:=F.C xs.length xs.length k GC hk1 (Nat.le_refl _) (by omega) (by omega) hGC1 hGC2 B B2 cap2 w.heap.size w W0 W1 (W1.drew.setRow w.heap.size (setL (setL row.toList k [xv]) (k+1) s1).toArray) hap
    (fun ty dc=>by
      have:=run_cp (P:=P) (t:=T) (u:=T) (ty:=ty) (cap:=dc) F.ut F.sz (o:=k) (n:=xs.length+1-k) (m:=1) (k:=1) (vb:= .slice (some ⟨B2,0,none⟩) 1 cap2) ho0 [xv] rfl (by show min _ _=_;omega) (run_firstCells_some (P:=P) W0 _ _ _ _ _ [xv] rfl fun j v hj=>by
       rw[Addr.add_lit,cell_of hoB2];exact hcell2 j v hj) (by rw[hrsz];simp;omega) (fun v hv=>by rw[List.mem_singleton.1 hv];exact hxo)
      rw[hW1] at this
      simpa using this)
    (fun ty dc sc=>run_cp (P:=P) F.ut F.sz (m:=xs.length-k) (k:=xs.length-k) hd1 s1 rfl (by show min _ _=_;omega) (run_firstCells_some (P:=P) W1.drew _ _ _ _ _ s1 (by omega) fun j v hj=>by
      rw[Addr.add_lit,cell_of (w:=W1.drew) ho1B];exact (hcellv j v hj).1) (by rw[hsz1,hrsz];omega) hone1)
   refine hC.mono ?_
   rintro e W ⟨rfl,rfl⟩
   have hRa:ResOK G' W0 1000 γ [] w.heap.size 0 row.size row E:=⟨hgm,ho0,by simp,Nat.le_refl _,fun o _=>by
    have hh:ResOK G' W0 1000 γ [] w.heap.size 0 row.size row E∨True:= .inr trivial
    rcases hal.inv.res 1000 [] (by rw[upd_eq,if_pos rfl]) with⟨_,h0⟩ | ⟨b',e0,lim',vs',TT',hRR⟩ | ⟨b',hO⟩
    · rw[upd_eq,if_pos rfl,hgm] at h0;cases h0
    · have:=hRR.m;rw[upd_eq,if_pos rfl,hgm] at this;cases this;exact hRR.K o (Nat.zero_le _)
    · have:=hO.m;rw[upd_eq,if_pos rfl,hgm] at this
      simp at this,fun j a hj=>by simp at hj⟩
   have hw1:=write_ok hal.inv (i:=1000) (g:=γ) (c:=[]) (by rw[upd_eq,if_pos rfl]) hRa (c':=[]) (vals':=(setL row.toList k [xv]).toArray) hsz1 (fun o ho=>by omega) (by simp) fun j a hj=>by simp at hj
   rw[hW1,upd_upd] at hw1
   have hsd2:StepOK G' (upd σ 1000 (γ,.row [])) W1 G' (upd σ 1000 (γ,.row [])) W1.drew:=StepOK.drew hw1.inv rfl rfl rfl rfl
   have hR1:ResOK G' W1.drew 1000 γ [] w.heap.size 0 row.size (setL row.toList k [xv]).toArray E:=⟨hgm,hd1,by simp,by rw[hsz1];exact Nat.le_refl _,hRa.K,fun j a hj=>by simp at hj⟩
   have hw2:=write_ok hsd2.inv (i:=1000) (g:=γ) (c:=[]) (by rw[upd_eq,if_pos rfl]) hR1 (c':=layL xs k x) (vals':=(setL (setL row.toList k [xv]) (k+1) s1).toArray) (by simp[length_setL]) (fun o ho=>by omega) (by rw[layL_len hk,hrsz];omega) fun j a hj=>by
    have hjl:=(List.getElem?_eq_some_iff.1 hj).1
    rw[layL_len hk] at hjl
    rw[layL_get hk] at hj
    rw[Nat.zero_add,List.getElem?_toArray,setL_get _ _ _ _ (by rw[length_setL,hrl];omega),setL_get _ _ _ _ (by rw[hrl];simp;omega)]
    by_cases h1:j<k
    · rw[if_pos h1] at hj
      rw[if_neg (by omega),if_neg (by omega)]
      obtain⟨v,h3,h4⟩:=hrel j a hj
      refine⟨v,?_,h4.mono hal.le⟩
      rw[Array.getElem?_toList,hrg j h1];simpa using h3
    · rw[if_neg h1] at hj
      by_cases h2:j=k
      · rw[if_pos h2] at hj
        rw[if_neg (by omega),if_pos (by simp;omega)]
        cases hj
        exact⟨xv,by simp[h2],hxr.mono hal.le⟩
      · rw[if_neg h2] at hj
        rw[if_pos (by omega),hs1g _ (by omega),show k+(j-(k+1))=j-1 by omega]
        obtain⟨v,h3,h4⟩:=hrel (j-1) a hj
        exact⟨v,by simpa using h3,h4.mono hal.le⟩
   rw[upd_upd] at hw2
   refine ROut.of_step hy hd (hsd.trans (hal.trans (hw1.trans (hsd2.trans hw2)))) (hσY _) (av:= .msl 1000 γ (xs.length+1) 1) ⟨w.heap.size,GC,rfl,hGC1,by rw[Nat.mul_one,←hrsz];exact hgm⟩ ⟨γ,rfl,?_,?_,trivial⟩
   · rw[upd_eq,if_pos rfl]
   · rw[upd_eq,if_neg (by decide),hσ1]
end
end Go.Abs
namespace Go.Abs
open Go.Proofs
def ir76:IFn:=
 ⟨49,[(6,none),(7,none)],(.seq (.ops [oo 6 (.mov (kI 0)),
 oo 7 (.mov (kB false))])
 (.seq (.ops [oo 12 (.mov 0),
 oo 13 (.len false 12),
 oo 8 (.mov 13)])
 (.seq (.ops [oo 14 (.mov 8),
 oo 9 (.mov (kI 0)),
 oo 10 (.mov 14)])
 (.seq (.blk 0 (.loop (.seq (.seq (.ops [oo 15 (.mov 9),
 oo 16 (.mov 10),
 oo 17 (.bin .lss 15 16)])
 (.cnd 17
 .skip
 (.exit 0)))
 (.blk 1 (.seq (.ops [oo 18 (.mov 9),
 oo 19 (.mov 10),
 oo 20 (.bin .add 18 19),
 oo 21 (.cvI .u64 20),
 oo 22 (.bin .shr 21 (.k (.int .u64 1))),
 oo 23 (.cvI .i64 22),
 oo 11 (.mov 23)])
 (.seq (.ops [oo 24 (.mov 2),
 oo 25 (.mov 0),
 oo 26 (.mov 11),
 oo 27 (.ixA 1 25 26),
 oo 28 (.ld 1 false 27),
 oo 29 (.mov 1),
 oo 30 (.callV 24 [28,29]),
 oo 31 (.bin .lss 30 (kI 0))])
 (.cnd 31
 (.ops [oo 32 (.mov 11),
 oo 33 (.bin .add 32 (kI 1)),
 oo 9 (.mov 33)])
 (.ops [oo 34 (.mov 11),
 oo 10 (.mov 34)]))))))))
 (.seq (.ops [oo 35 (.mov 9),
 oo 36 (.mov 9),
 oo 37 (.mov 8),
 oo 38 (.bin .lss 36 37),
 oo 39 (.mov 38),
 ⟨(some 40),(some (39,true)),(.mov 2)⟩,
 ⟨(some 41),(some (39,true)),(.mov 0)⟩,
 ⟨(some 42),(some (39,true)),(.mov 9)⟩,
 ⟨(some 43),(some (39,true)),(.ixA 1 41 42)⟩,
 ⟨(some 44),(some (39,true)),(.ld 1 false 43)⟩,
 ⟨(some 45),(some (39,true)),(.mov 1)⟩,
 ⟨(some 46),(some (39,true)),(.callV 40 [44,45])⟩,
 ⟨(some 47),(some (39,true)),(.bin .eql 46 (kI 0))⟩,
 oo 48 (.pick 39 47 (kB false)),
 oo 6 (.mov 35),
 oo 7 (.mov 48)])
 .ret)))))⟩
def hint76 (P:Program):Hint:={}
abbrev liC (L:List (List Int)):List AV:=L.map fun l=> .slc 1 (iR l) .non
section
variable {P:Program} {K:(Nat→AV)→Sig→Prop} {e:Nat→AV} {σ:Sig} {x:IOpd} {r:List IStep} {d:Nat}
theorem mid_nat {i j:Nat} (hi:i≤1000000) (hj:j≤1000000):(IntKind.u64.wrap ((i:Int)+(j:Int))).fdiv (2^min (Int.toNat 1) IntKind.u64.bits)=(((i+j)/2:Nat):Int):=by
 rw[wrap_u64_id _ (by omega) (by omega)]
 show ((i:Int)+(j:Int)).fdiv (2^1)=_
 rw[←Int.natCast_add,Int.fdiv_eq_ediv_of_nonneg _ (by decide)]
 omega
theorem w_shrH {a:Int} {m:Nat} (hx:x.ev e= .int .u64 a) (hm:a.fdiv (2^min (Int.toNat 1) IntKind.u64.bits)=(m:Int)) (hk:stepsW P r K (upd e d (.int .u64 (m:Int))) σ):stepsW P (⟨some d,none,.bin .shr x (.k (.int .u64 1))⟩::r) K e σ:=by
 refine w_val (p:=(0:Int)≤1) (v:= .int .u64 (m:Int)) ?_ (by decide) hk
 show binO .shr (x.ev e) (.int .u64 1)=_
 rw[hx,←hm];rfl
theorem w_ldLi {i g off q:Nat} {L:List (List Int)} {l:List Int} (hx:x.ev e= .ref i g off) (ho:off=q) (hσ:σ i=(g,.row (liC L))) (hq:q<L.length) (hl:L.getD q []=l) (hk:stepsW P r K (upd e d (.slc 1 (iR l) .non)) σ):stepsW P (⟨some d,none,.ld 1 false x⟩::r) K e σ:=
 w_ldAt hx hσ (by rw[ho,List.getElem?_map,List.getElem?_eq_getElem hq,←hl,List.getD_eq_getElem?_getD,List.getElem?_eq_getElem hq];rfl) rfl hk
end
theorem bsf_nil (x:List Int):Fn0 Try.prog 76 [.nsl,.slc 1 (iR x) .non,.clo (.func 77) [] []] (fun v=>v= .tup [.int .i64 0,.bool false]):=by
 refine RawC.walk (H:=hint76 Try.prog) ir76 Try.func76 rfl rfl rfl ?_
 unfold ir76
 repeat' (first
  | with_reducible (first | refine Rd.p ?_ | refine w_alt ?_ ?_ | refine zE ?_ | refine zE0 ?_)
  | with_reducible (first | refine zI fun y hy=>?_ | refine zL ?_ | refine zS ?_ | refine zA fun _=>?_ | refine zV ?_ | refine zC ?_ | refine zG ?_ | refine zU ?_ | refine zG0 ?_ | refine zU0 ?_ | refine zF ?_)
  | with_reducible (first | refine zX ?_ | refine zD fun _=>?_ | refine zD0 ?_ | refine zN ?_ | refine zF0 ?_ | refine zX0 ?_ | refine z1 ?_ | refine z2 ?_ | refine z3 ?_ | refine z4 ?_ | refine z5 ?_ | refine z6 ?_ | refine z7 ?_ | refine z8 ?_ | refine y1 ?_ | refine y2 ?_ | refine y3 ?_ | refine y4 ?_ | refine y5 ?_ | refine y6 ?_ | refine y7 ?_ | refine y8 ?_ | refine Rt.p (fun _=>?_) fun _=>?_)
  | ((with_reducible apply w_ixM);(focus exact rfl);(focus exact rfl);case' hk=>intro y hy) | ((with_reducible (first | apply w_val | apply q_ends));(focus exact rfl)))
 refine w_loopK [0,1,2,8] [] (fun _:Unit=>True) (fun _=>0) (fun _=>[(9,.int .i64 0),(10,.int .i64 0)]) (fun _=>[]) () trivial ⟨rfl,rfl,trivial⟩ trivial ?_
 rintro⟨⟩ _ e σ
 repeat' (first
  | with_reducible (first | refine Rd.p ?_ | refine w_alt ?_ ?_ | refine zE ?_ | refine zE0 ?_)
  | with_reducible (first | refine zI fun y hy=>?_ | refine zL ?_ | refine zS ?_ | refine zA fun _=>?_ | refine zV ?_ | refine zC ?_ | refine zG ?_ | refine zU ?_ | refine zG0 ?_ | refine zU0 ?_ | refine zF ?_)
  | with_reducible (first | refine zX ?_ | refine zD fun _=>?_ | refine zD0 ?_ | refine zN ?_ | refine zF0 ?_ | refine zX0 ?_ | refine z1 ?_ | refine z2 ?_ | refine z3 ?_ | refine z4 ?_ | refine z5 ?_ | refine z6 ?_ | refine z7 ?_ | refine z8 ?_ | refine y1 ?_ | refine y2 ?_ | refine y3 ?_ | refine y4 ?_ | refine y5 ?_ | refine y6 ?_ | refine y7 ?_ | refine y8 ?_ | refine Rt.p (fun _=>?_) fun _=>?_)
  | ((with_reducible apply w_ixM);(focus exact rfl);(focus exact rfl);case' hk=>intro y hy) | ((with_reducible (first | apply w_val | apply q_ends));(focus exact rfl)))
 all_goals first
  | (exfalso;omega)
  | rfl
theorem bsf_c (L:List (List Int)) (x:List Int) (p:Nat) (g:Nat) (hL:L.length≤1000000) (hp:p≤L.length) (hx:x.length<1000000) (hl:∀l∈L,l.length<1000000) (h:∀q:Nat,q<L.length→(lsI (L.getD q []) x<0↔q<p)):
  RawC Try.prog 76 [.msl 1000 g L.length 1,.slc 1 (iR x) .non,.clo (.func 77) [] []] (sg [(1000,(g,.row (liC L)))])
   (SR (fun (_:Unit) v=>v= .tup [.int .i64 p,.bool (decide (p<L.length∧L.getD p []=x))]) (fun _=>[(1000,(g,.row (liC L)))])):=by
 have hll:(liC L).length=L.length:=List.length_map _
 refine RawC.walk (H:=hint76 Try.prog) ir76 Try.func76 rfl rfl rfl ?_
 unfold ir76
 repeat' (first
  | with_reducible (first | refine Rd.p ?_ | refine w_alt ?_ ?_ | refine zE ?_ | refine zE0 ?_)
  | with_reducible (first | refine zI fun y hy=>?_ | refine zL ?_ | refine zS ?_ | refine zA fun _=>?_ | refine zV ?_ | refine zC ?_ | refine zG ?_ | refine zU ?_ | refine zG0 ?_ | refine zU0 ?_ | refine zF ?_)
  | with_reducible (first | refine zX ?_ | refine zD fun _=>?_ | refine zD0 ?_ | refine zN ?_ | refine zF0 ?_ | refine zX0 ?_ | refine z1 ?_ | refine z2 ?_ | refine z3 ?_ | refine z4 ?_ | refine z5 ?_ | refine z6 ?_ | refine z7 ?_ | refine z8 ?_ | refine y1 ?_ | refine y2 ?_ | refine y3 ?_ | refine y4 ?_ | refine y5 ?_ | refine y6 ?_ | refine y7 ?_ | refine y8 ?_ | refine Rt.p (fun _=>?_) fun _=>?_)
  | ((with_reducible apply w_ixM);(focus exact rfl);(focus exact rfl);case' hk=>intro y hy) | ((with_reducible (first | apply w_val | apply q_ends));(focus exact rfl)))
 refine w_loopK [0,1,2,8] [1000] (fun x:Nat×Nat=>x.1≤p∧p≤x.2∧x.2≤L.length) (fun x=>x.2-x.1) (fun x=>[(9,.int .i64 (x.1:Int)),(10,.int .i64 (x.2:Int))]) (fun _=>[]) (0,L.length) ⟨Nat.zero_le _,hp,Nat.le_refl _⟩ ⟨rfl,rfl,trivial⟩ trivial ?_
 rintro⟨i,j⟩ ⟨h1,h2,h3⟩ e σ
 dsimp only at h1 h2 h3 ⊢
 have hord:=fun q (hq:q<L.length)=>ordered_c (L.getD q []) x (hl _ (by rw[List.getD_eq_getElem?_getD,List.getElem?_eq_getElem hq];exact List.getElem_mem _)) hx
 by_cases hij:i=j
 · have:i=p:=by omega
   subst this
   by_cases hin:i<L.length
   · have ho:=hord i hin
     repeat' (first
      | with_reducible (first | refine Rd.p ?_ | refine w_alt ?_ ?_ | refine zE ?_ | refine zE0 ?_)
      | (first | refine w_ldLi rfl (by omega) rfl hin rfl ?_)
      | with_reducible (first | refine zI fun y hy=>?_ | refine zL ?_ | refine zS ?_ | refine zA fun _=>?_ | refine zV ?_ | refine zC ?_ | refine zG ?_ | refine zU ?_ | refine zG0 ?_ | refine zU0 ?_ | refine zF ?_)
      | ((with_reducible refine acall_id ?_);refine ACall.val ho rfl rfl ?_)
      | with_reducible (first | refine zX ?_ | refine zD fun _=>?_ | refine zD0 ?_ | refine zN ?_ | refine zF0 ?_ | refine zX0 ?_ | refine z1 ?_ | refine z2 ?_ | refine z3 ?_ | refine z4 ?_ | refine z5 ?_ | refine z6 ?_ | refine z7 ?_ | refine z8 ?_ | refine y1 ?_ | refine y2 ?_ | refine y3 ?_ | refine y4 ?_ | refine y5 ?_ | refine y6 ?_ | refine y7 ?_ | refine y8 ?_ | refine Rt.p (fun _=>?_) fun _=>?_)
      | ((with_reducible apply w_ixM);(focus exact rfl);(focus exact rfl);case' hk=>intro y hy) | ((with_reducible (first | apply w_val | apply q_ends));(focus exact rfl)))
     all_goals first
      | (exfalso;omega)
      | (refine⟨(),congrArg (fun z=>AV.tup [AV.int .i64 (i:Int),AV.bool z]) ?_,(by repeat' (first | exact slots_nil | apply slots_cons | rfl | (rw[map_snoc];rfl) | (rw[len_snoc];rfl) | (rw[hS];rfl) | (rw[hS,map_snoc];rfl) | (refine int_eq ?_;(try dsimp only);omega) | (refine congrArg AV.bool ?_;simp_all;done)))⟩
         rw[Bool.eq_iff_iff];simp[hin,lsI_eq])
   · repeat' (first
      | with_reducible (first | refine Rd.p ?_ | refine w_alt ?_ ?_ | refine zE ?_ | refine zE0 ?_)
      | with_reducible (first | refine zI fun y hy=>?_ | refine zL ?_ | refine zS ?_ | refine zA fun _=>?_ | refine zV ?_ | refine zC ?_ | refine zG ?_ | refine zU ?_ | refine zG0 ?_ | refine zU0 ?_ | refine zF ?_)
      | with_reducible (first | refine zX ?_ | refine zD fun _=>?_ | refine zD0 ?_ | refine zN ?_ | refine zF0 ?_ | refine zX0 ?_ | refine z1 ?_ | refine z2 ?_ | refine z3 ?_ | refine z4 ?_ | refine z5 ?_ | refine z6 ?_ | refine z7 ?_ | refine z8 ?_ | refine y1 ?_ | refine y2 ?_ | refine y3 ?_ | refine y4 ?_ | refine y5 ?_ | refine y6 ?_ | refine y7 ?_ | refine y8 ?_ | refine Rt.p (fun _=>?_) fun _=>?_)
      | ((with_reducible apply w_ixM);(focus exact rfl);(focus exact rfl);case' hk=>intro y hy) | ((with_reducible (first | apply w_val | apply q_ends));(focus exact rfl)))
     all_goals first
      | (exfalso;omega)
      | (refine⟨(),congrArg (fun z=>AV.tup [AV.int .i64 (i:Int),AV.bool z]) ?_,(by repeat' (first | exact slots_nil | apply slots_cons | rfl | (rw[map_snoc];rfl) | (rw[len_snoc];rfl) | (rw[hS];rfl) | (rw[hS,map_snoc];rfl) | (refine int_eq ?_;(try dsimp only);omega) | (refine congrArg AV.bool ?_;simp_all;done)))⟩
         rw[Bool.eq_iff_iff];simp[hin])
 · have hmid:=mid_nat (i:=i) (j:=j) (by omega) (by omega)
   obtain⟨q,hq⟩:∃q,(i+j)/2=q:=⟨_,rfl⟩
   rw[hq] at hmid
   have hq1:i≤q∧q<j:=by omega
   have hqL:q<L.length:=by omega
   have ho:=hord q hqL
   have hqp:=h q hqL
   repeat' (first
    | with_reducible (first | refine Rd.p ?_ | refine w_alt ?_ ?_ | refine zE ?_ | refine zE0 ?_)
    | (first | refine w_shrH rfl hmid ?_ | refine w_ldLi rfl (by omega) rfl hqL rfl ?_)
    | with_reducible (first | refine zI fun y hy=>?_ | refine zL ?_ | refine zS ?_ | refine zA fun _=>?_ | refine zV ?_ | refine zC ?_ | refine zG ?_ | refine zU ?_ | refine zG0 ?_ | refine zU0 ?_ | refine zF ?_)
    | ((with_reducible refine acall_id ?_);refine ACall.val ho rfl rfl ?_)
    | with_reducible (first | refine zX ?_ | refine zD fun _=>?_ | refine zD0 ?_ | refine zN ?_ | refine zF0 ?_ | refine zX0 ?_ | refine z1 ?_ | refine z2 ?_ | refine z3 ?_ | refine z4 ?_ | refine z5 ?_ | refine z6 ?_ | refine z7 ?_ | refine z8 ?_ | refine y1 ?_ | refine y2 ?_ | refine y3 ?_ | refine y4 ?_ | refine y5 ?_ | refine y6 ?_ | refine y7 ?_ | refine y8 ?_ | refine Rt.p (fun _=>?_) fun _=>?_)
    | ((with_reducible apply w_ixM);(focus exact rfl);(focus exact rfl);case' hk=>intro y hy) | ((with_reducible (first | apply w_val | apply q_ends));(focus exact rfl)))
   all_goals first
    | (exfalso;omega)
    | exact q_loop (q+1,j) ⟨by dsimp only;omega,by dsimp only;omega,by dsimp only;omega⟩ (by show j-(q+1)<j-i;omega) ⟨rfl,rfl,trivial⟩ (by repeat' (first | exact slots_nil | apply slots_cons | rfl | (rw[map_snoc];rfl) | (rw[len_snoc];rfl) | (rw[hS];rfl) | (rw[hS,map_snoc];rfl) | (refine int_eq ?_;(try dsimp only);omega) | (refine congrArg AV.bool ?_;simp_all;done))) (by repeat' (first | exact kept_nil | apply kept_cons | rfl)) (by repeat' (first | exact kept_nil | apply kept_cons | rfl))
    | exact q_loop (i,q) ⟨by dsimp only;omega,by dsimp only;omega,by dsimp only;omega⟩ (by show q-i<j-i;omega) ⟨rfl,rfl,trivial⟩ (by repeat' (first | exact slots_nil | apply slots_cons | rfl | (rw[map_snoc];rfl) | (rw[len_snoc];rfl) | (rw[hS];rfl) | (rw[hS,map_snoc];rfl) | (refine int_eq ?_;(try dsimp only);omega) | (refine congrArg AV.bool ?_;simp_all;done))) (by repeat' (first | exact kept_nil | apply kept_cons | rfl)) (by repeat' (first | exact kept_nil | apply kept_cons | rfl))
def ir44:IFn:=
 ⟨77,[(4,none),(5,none),(6,none)],(.seq (.ops [oo 2 (.box 2 0),
 oo 3 (.box 2 1),
 oo 4 (.mov (.k .nsl)),
 oo 5 (.mov (.k .nsl)),
 oo 6 (.mov (kI 0))])
 (.seq (.seq (.ops [oo 16 (.ld 2 true 2),
 oo 17 (.callF 18 [16]),
 oo 7 (.mov 17)])
 (.seq (.ops [oo 18 (.mov 7),
 oo 19 (.bin .neq 18 (kI 0))])
 (.cnd 19
 (.seq (.ops [oo 20 (.mov 7),
 oo 4 (.mov (.k .nsl)),
 oo 5 (.mov (.k .nsl)),
 oo 6 (.mov 20)])
 .ret)
 .skip)))
 (.seq (.seq (.ops [oo 21 (.ld 2 true 2),
 oo 22 (.ld 2 true 3),
 oo 23 (.callF 69 [21,22]),
 oo 8 (.mov 23)])
 (.seq (.ops [oo 24 (.mov 8),
 oo 25 (.bin .neq 24 (kI 0))])
 (.cnd 25
 (.seq (.ops [oo 26 (.mov 8),
 oo 4 (.mov (.k .nsl)),
 oo 5 (.mov (.k .nsl)),
 oo 6 (.mov 26)])
 .ret)
 .skip)))
 (.seq (.ops [oo 28 (.ld 2 true 2),
 oo 29 (.callF 21 [28]),
 oo 27 (.mov 29),
 oo 30 (.ext 0 27),
 oo 31 (.ext 1 27),
 oo 32 (.ext 2 27),
 oo 9 (.mov 30),
 oo 10 (.mov 31),
 oo 6 (.mov 32)])
 (.seq (.seq (.ops [oo 33 (.mov 6),
 oo 34 (.bin .neq 33 (kI 0))])
 (.cnd 34
 (.seq (.ops [oo 35 (.mov 6),
 oo 4 (.mov (.k .nsl)),
 oo 5 (.mov (.k .nsl)),
 oo 6 (.mov 35)])
 .ret)
 .skip))
 (.seq (.seq (.ops [oo 36 (.mov 9),
 oo 37 (.len false 36),
 oo 38 (.mov (kI 0))])
 (.blk 0 (.loop (.seq (.ops [oo 39 (.bin .lss 38 37)])
 (.seq (.cnd 39
 .skip
 (.exit 0))
 (.seq (.blk 1 (.seq (.ops [oo 40 (.mov 38),
 oo 41 (.ixA 1 36 38),
 oo 42 (.ld 1 false 41),
 oo 11 (.mov 40),
 oo 12 (.mov 42)])
 (.seq (.ops [oo 43 (.ld 2 true 2),
 oo 44 (.ld 2 true 3),
 oo 45 (.mov 12),
 oo 46 (.callF 71 [43,44,45]),
 oo 13 (.mov 46)])
 (.seq (.ops [oo 48 (.mov 4),
 oo 49 (.mov 13),
 oo 50 (.callF 76 [48,49,(.k (.clo (.func 77) [] []))]),
 oo 47 (.mov 50),
 oo 51 (.ext 0 47),
 oo 52 (.ext 1 47),
 oo 14 (.mov 51),
 oo 15 (.mov 52)])
 (.seq (.seq (.ops [oo 53 (.mov 15),
 oo 54 (.not 53)])
 (.cnd 54
 (.ops [oo 55 (.mov 4),
 oo 56 (.mov 14),
 oo 57 (.mov 13),
 oo 58 (.bsm 1 [[.nsl]] [(0,57)]),
 oo 59 (.callF 78 [55,56,58]),
 oo 60 (.mov 5),
 oo 61 (.mov 14),
 oo 62 (.bsm 1 [[(.int .i64 0)]] [(0,(kI 0))]),
 oo 63 (.callF 79 [60,61,62]),
 oo 4 (.mov 59),
 oo 5 (.mov 63)])
 .skip))
 (.ops [oo 64 (.mov 5),
 oo 65 (.mov 14),
 oo 66 (.ixA 1 64 65),
 oo 67 (.ld 1 false 66),
 oo 68 (.mov 10),
 oo 69 (.mov 11),
 oo 70 (.ixA 1 68 69),
 oo 71 (.ld 1 false 70),
 oo 72 (.bin .add 67 71),
 oo 73 (.ixA 1 64 65),
 ⟨none,none,(.st 1 73 72)⟩]))))))
 (.ops [oo 74 (.bin .add 38 (kI 1)),
 oo 38 (.mov 74)])))))))
 (.seq (.seq (.frz 4)
 (.seq (.frz 5)
 (.ops [oo 75 (.mov 4),
 oo 76 (.mov 5),
 oo 4 (.mov 75),
 oo 5 (.mov 76),
 oo 6 (.mov (kI 0))])))
 .ret)))))))⟩
def hint44 (P:Program):Hint:={site:=[],nils:=[],frz:=[(75,4),(75,5)],mve:=[],wr:=[58,62] }
abbrev anF (L:List (List Int×Int)):List (List Int):=L.map fun z=>z.1
abbrev anS (L:List (List Int×Int)):List Int:=L.map fun z=>z.2
theorem all_liC (A:List (List Int)):(liC A).all AV.scal=true:=by
 rw[List.all_eq_true]
 intro x hx
 obtain⟨y,_,rfl⟩:=List.mem_map.1 hx
 rfl
theorem insA_c (A:List (List Int)) (x:List Int) (g h p n:Nat) (hn:A.length=n) (hp:p≤n) (hb:n≤1000000):RawC Try.prog 78 [.msl 1000 g n 1,.int .i64 p,.msl 1001 h 1 1] (sg [(1000,(g,.row (liC A))),(1001,(h,.row [.slc 1 (iR x) .non]))])
  (SR (fun (g':Nat) v=>v= .msl 1000 g' (n+1) 1) (fun g'=>[(1000,(g',.row (liC (A.take p++x::A.drop p)))),(1001,(h,.row [.slc 1 (iR x) .non]))])):=by
 subst hn
 have e1:(liC A).length=A.length:=List.length_map _
 have:=insM insL_f (x:= .slc 1 (iR x) .non) rfl (all_liC A) g h p (by omega) (by omega)
 have e2:layL (liC A) p (.slc 1 (iR x) .non)=liC (A.take p++x::A.drop p):=by
  show List.take p (List.map _ _)++_::List.drop p (List.map _ _)=List.map _ (_++_::_)
  rw[List.map_append,List.map_take,List.map_cons,List.map_drop]
 rw[e1,e2] at this
 exact this
end Go.Abs
