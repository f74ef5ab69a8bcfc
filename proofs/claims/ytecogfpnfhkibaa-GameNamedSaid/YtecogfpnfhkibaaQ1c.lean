/- A part of the proofs of the laws of this seat: contracts of the functions that they reach, each proved of the program's form in Lean. No condition beyond those that each contract names. -/
import Derived.Test.YtecogfpnfhkibaaProg
import Derived.Test.YtecogfpnfhkibaaSnd3
import Derived.Test.YtecogfpnfhkibaaA0
import Derived.Test.YtecogfpnfhkibaaN1a
import Derived.Test.YtecogfpnfhkibaaN1b
import Derived.Test.YtecogfpnfhkibaaN1c
import Derived.Test.YtecogfpnfhkibaaN1d
import Derived.Test.YtecogfpnfhkibaaN1e
import Derived.Test.YtecogfpnfhkibaaN1f
import Derived.Test.YtecogfpnfhkibaaN1g
import Derived.Test.YtecogfpnfhkibaaN1h
import Derived.Test.YtecogfpnfhkibaaQ1a
import Derived.Test.YtecogfpnfhkibaaQ1b
set_option linter.unusedVariables false
set_option linter.unusedSimpArgs false
set_option maxRecDepth 20000
set_option maxHeartbeats 4000000
namespace Go.Abs
open Go.Proofs
theorem namedG_c (w0:Wd) (ws:List Wd) (d0:Dl) (ds:List Dl) (o:List Int) (hg:ws.length≤1000) (hr:ds.length≤1000) (ho:isPerm (w0::ws).length o) (hrk:∀d∈d0::ds,d.kind=1∨d.kind=2∨d.kind=6→0≤d.wood∧d.wood<((w0::ws).length:Int)):
  Fn0 Try.prog 34 [gmA ⟨w0::ws,d0::ds⟩,.slc 1 (iR o) .non] (fun v=>∃ws',v=gmA ⟨ws',(d0::ds).map (renD o)⟩∧ws'.length=(w0::ws).length∧ ∀j:Nat,j<(w0::ws).length→ws'[(getI o j).toNat]?=(w0::ws)[j]?):=by
 have hol:=ho.len
 have hgl:(w0::ws).length=ws.length+1:=rfl
 have hrl:(d0::ds).length=ds.length+1:=rfl
 refine RawC.walk (H:=hint34 Try.prog) ir34 Try.func34 rfl rfl rfl ?_
 unfold ir34
 repeat' (first
  | with_reducible (first | refine Rd.p ?_ | refine w_alt ?_ ?_ | refine zE ?_ | refine zE0 ?_)
  | with_reducible (first | refine zI fun y hy=>?_ | refine zL ?_ | refine zS ?_ | refine zA fun _=>?_ | refine zV ?_ | refine zC ?_ | refine zG ?_ | refine zU ?_ | refine zG0 ?_ | refine zU0 ?_ | refine zF ?_)
  | ((with_reducible refine acall_id ?_);(refine ACall.liftNS (ownGameW_c w0 ws d0 ds (by omega) (by omega)) [] [(6,9),(10,3010)] rfl rfl rfl rfl trivial (fun _=>rfl) ?_;rintro⟨g6,g10⟩ _ rfl))
  | with_reducible (first | refine zX ?_ | refine zD fun _=>?_ | refine zD0 ?_ | refine zN ?_ | refine zF0 ?_ | refine zX0 ?_ | refine z1 ?_ | refine z2 ?_ | refine z3 ?_ | refine z4 ?_ | refine z5 ?_ | refine z6 ?_ | refine z7 ?_ | refine z8 ?_ | refine y1 ?_ | refine y2 ?_ | refine y3 ?_ | refine y4 ?_ | refine y5 ?_ | refine y6 ?_ | refine y7 ?_ | refine y8 ?_ | refine Rt.p (fun _=>?_) fun _=>?_)
  | ((with_reducible apply w_ixM);(focus exact rfl);(focus exact rfl);case' hk=>intro y hy) | ((with_reducible (first | apply w_val | apply q_ends));(focus exact rfl)))
 rename_i g2 g4 g5
 refine w_loopK [1,2,4,5] [2,4,5] (fun x:List Wd×List Wd×List Wd×AV=>w0::ws=x.1++x.2.1∧x.2.2.1.length=(w0::ws).length∧(∀j:Nat,j<x.1.length→x.2.2.1[(getI o j).toNat]?=(w0::ws)[j]?)∧(x.1=[]∨x.2.2.2= .msl 9 g6 (w0::ws).length 2)) (fun x=>x.2.1.length) (fun x=>[(6,.int .i64 x.1.length),(18,x.2.2.2)])
  (fun x=>[(9,(g6,.row (x.2.2.1.map Wd.row).flatten)),(3010,(g10,.row ((d0::ds).map Dl.row).flatten))]) ([],w0::ws,w0::ws,_) ⟨rfl,rfl,fun j hj=>absurd hj (Nat.not_lt_zero _),.inl rfl⟩ ⟨rfl,rfl,trivial⟩
  (by exact⟨congrArg (fun c=>((g6,Res.row c):Nat×Res)) (wdFl.rens _ (w0::ws)),congrArg (fun c=>((g10,Res.row c):Nat×Res)) (dlFl.rens _ (d0::ds)),trivial⟩) ?_
 rintro⟨pre,post,cur,v19⟩ ⟨hp,hcl,hat,h19⟩ e1 σ1
 dsimp only at hp hcl hat h19 ⊢
 have hlen:=congrArg List.length hp
 cases post with
 | cons y post=>
   simp only[List.length_append,List.length_cons] at hlen
   have hb:=po_bd ho (w:=(pre.length:Int)) (by omega)
   repeat' (first
    | with_reducible (first | refine Rd.p ?_ | refine w_alt ?_ ?_ | refine zE ?_ | refine zE0 ?_)
    | (first | with_reducible refine zGi ?_ | refine w_ixP hp rfl rfl ?_)
    | with_reducible (first | refine zI fun y hy=>?_ | refine zL ?_ | refine zS ?_ | refine zA fun _=>?_ | refine zV ?_ | refine zC ?_ | refine zG ?_ | refine zU ?_ | refine zG0 ?_ | refine zU0 ?_ | refine zF ?_)
    | with_reducible (first | refine zX ?_ | refine zD fun _=>?_ | refine zD0 ?_ | refine zN ?_ | refine zF0 ?_ | refine zX0 ?_ | refine z1 ?_ | refine z2 ?_ | refine z3 ?_ | refine z4 ?_ | refine z5 ?_ | refine z6 ?_ | refine z7 ?_ | refine z8 ?_ | refine y1 ?_ | refine y2 ?_ | refine y3 ?_ | refine y4 ?_ | refine y5 ?_ | refine y6 ?_ | refine y7 ?_ | refine y8 ?_ | refine Rt.p (fun _=>?_) fun _=>?_)
    | ((with_reducible apply w_ixM);(focus exact rfl);(focus exact rfl);case' hk=>intro y hy) | ((with_reducible (first | apply w_val | apply q_ends));(focus exact rfl)))
   refine w_stRow wdFl (i:=9) (g:=g6) (xs:=cur) (k:=(getI o pre.length).toNat) (y':=y) rfl rfl rfl (by omega) rfl ?_
   repeat' (first
    | with_reducible (first | refine Rd.p ?_ | refine w_alt ?_ ?_ | refine zE ?_ | refine zE0 ?_)
    | with_reducible (first | refine zI fun y hy=>?_ | refine zL ?_ | refine zS ?_ | refine zA fun _=>?_ | refine zV ?_ | refine zC ?_ | refine zG ?_ | refine zU ?_ | refine zG0 ?_ | refine zU0 ?_ | refine zF ?_)
    | with_reducible (first | refine zX ?_ | refine zD fun _=>?_ | refine zD0 ?_ | refine zN ?_ | refine zF0 ?_ | refine zX0 ?_ | refine z1 ?_ | refine z2 ?_ | refine z3 ?_ | refine z4 ?_ | refine z5 ?_ | refine z6 ?_ | refine z7 ?_ | refine z8 ?_ | refine y1 ?_ | refine y2 ?_ | refine y3 ?_ | refine y4 ?_ | refine y5 ?_ | refine y6 ?_ | refine y7 ?_ | refine y8 ?_ | refine Rt.p (fun _=>?_) fun _=>?_)
    | ((with_reducible apply w_ixM);(focus exact rfl);(focus exact rfl);case' hk=>intro y hy) | ((with_reducible (first | apply w_val | apply q_ends));(focus exact rfl)))
   refine q_loop (pre++[y],post,_,_) ?_ ?_ (by repeat' (first | exact slots_nil | apply slots_cons | rfl | (rw[map_snoc];rfl) | (rw[len_snoc];rfl) | (rw[hS];rfl) | (rw[hS,map_snoc];rfl) | (refine int_eq ?_;(try dsimp only);omega) | (refine congrArg AV.bool ?_;simp_all;done))) (by exact⟨rfl,rfl,trivial⟩) (by repeat' (first | exact kept_nil | apply kept_cons | rfl)) (by repeat' (first | exact kept_nil | apply kept_cons | rfl))
   · refine⟨by rw[hp];simp,by dsimp only;rw[List.length_set];exact hcl,nmW_step ho hp hcl hat,.inr rfl⟩
   · simp
 | nil=>
   simp only[List.append_nil,List.length_append,List.length_nil] at hlen hp
   have hv:v19= .msl 9 g6 (w0::ws).length 2:=by
    rcases h19 with h | h
    · subst h;cases hp
    · exact h
   subst hv
   repeat' (first
    | with_reducible (first | refine Rd.p ?_ | refine w_alt ?_ ?_ | refine zE ?_ | refine zE0 ?_)
    | with_reducible (first | refine zI fun y hy=>?_ | refine zL ?_ | refine zS ?_ | refine zA fun _=>?_ | refine zV ?_ | refine zC ?_ | refine zG ?_ | refine zU ?_ | refine zG0 ?_ | refine zU0 ?_ | refine zF ?_)
    | with_reducible (first | refine zX ?_ | refine zD fun _=>?_ | refine zD0 ?_ | refine zN ?_ | refine zF0 ?_ | refine zX0 ?_ | refine z1 ?_ | refine z2 ?_ | refine z3 ?_ | refine z4 ?_ | refine z5 ?_ | refine z6 ?_ | refine z7 ?_ | refine z8 ?_ | refine y1 ?_ | refine y2 ?_ | refine y3 ?_ | refine y4 ?_ | refine y5 ?_ | refine y6 ?_ | refine y7 ?_ | refine y8 ?_ | refine Rt.p (fun _=>?_) fun _=>?_)
    | ((with_reducible apply w_ixM);(focus exact rfl);(focus exact rfl);case' hk=>intro y hy) | ((with_reducible (first | apply w_val | apply q_ends));(focus exact rfl)))
   refine w_loopK [1,4,5,18] [4,5,9] (fun x:List Dl×List Dl=>d0::ds=x.1++x.2) (fun x=>x.2.length) (fun x=>[(7,.int .i64 x.1.length)])
    (fun x=>[(3010,(g10,.row ((x.1.map (renD o)++x.2).map Dl.row).flatten))]) ([],d0::ds) rfl ⟨rfl,trivial⟩ ⟨rfl,trivial⟩ ?_
   rintro⟨pre2,post2⟩ hl2 e2 σ2
   dsimp only at hl2 ⊢
   have hlen2:=congrArg List.length hl2
   cases post2 with
   | cons y post2=>
     simp only[List.length_append,List.length_cons] at hlen2
     have hyi:=hrk y (by rw[hl2];simp)
     have hnx:∀y',y'=renD o y→pre2.map (renD o)++y'::post2=(pre2++[y]).map (renD o)++post2:=fun y' h=>by subst h;simp
     by_cases hk:y.kind=1∨y.kind=2∨y.kind=6
     · have hyw:=hyi hk
       have hyb:=po_bd ho (w:=y.wood) (by omega)
       repeat' (first
        | with_reducible (first | refine Rd.p ?_ | refine w_alt ?_ ?_ | refine zE ?_ | refine zE0 ?_)
        | (first | with_reducible refine zLd dlFl 3010 0 ?_ | with_reducible refine zLd dlFl 3010 3 ?_ | with_reducible refine zGi ?_)
        | with_reducible (first | refine zI fun y hy=>?_ | refine zL ?_ | refine zS ?_ | refine zA fun _=>?_ | refine zV ?_ | refine zC ?_ | refine zG ?_ | refine zU ?_ | refine zG0 ?_ | refine zU0 ?_ | refine zF ?_)
        | with_reducible (first | refine zX ?_ | refine zD fun _=>?_ | refine zD0 ?_ | refine zN ?_ | refine zF0 ?_ | refine zX0 ?_ | refine z1 ?_ | refine z2 ?_ | refine z3 ?_ | refine z4 ?_ | refine z5 ?_ | refine z6 ?_ | refine z7 ?_ | refine z8 ?_ | refine y1 ?_ | refine y2 ?_ | refine y3 ?_ | refine y4 ?_ | refine y5 ?_ | refine y6 ?_ | refine y7 ?_ | refine y8 ?_ | refine Rt.p (fun _=>?_) fun _=>?_)
        | ((with_reducible apply w_ixM);(focus exact rfl);(focus exact rfl);case' hk=>intro y hy) | ((with_reducible (first | apply w_val | apply q_ends));(focus exact rfl)))
       all_goals try (exfalso;omega)
       all_goals
        refine w_stM dlFl (i:=3010) (g:=g10) (pre:=pre2.map (renD o)) (y:=y) (post:=post2) (y':=renD o y) (j:=3) (c:= .int .i64 (getI o y.wood)) rfl rfl (by simp) (by omega) rfl (by unfold renD;rw[if_pos hk];rfl) ?_
        repeat' (first
         | with_reducible (first | refine Rd.p ?_ | refine w_alt ?_ ?_ | refine zE ?_ | refine zE0 ?_)
         | with_reducible (first | refine zI fun y hy=>?_ | refine zL ?_ | refine zS ?_ | refine zA fun _=>?_ | refine zV ?_ | refine zC ?_ | refine zG ?_ | refine zU ?_ | refine zG0 ?_ | refine zU0 ?_ | refine zF ?_)
         | with_reducible (first | refine zX ?_ | refine zD fun _=>?_ | refine zD0 ?_ | refine zN ?_ | refine zF0 ?_ | refine zX0 ?_ | refine z1 ?_ | refine z2 ?_ | refine z3 ?_ | refine z4 ?_ | refine z5 ?_ | refine z6 ?_ | refine z7 ?_ | refine z8 ?_ | refine y1 ?_ | refine y2 ?_ | refine y3 ?_ | refine y4 ?_ | refine y5 ?_ | refine y6 ?_ | refine y7 ?_ | refine y8 ?_ | refine Rt.p (fun _=>?_) fun _=>?_)
         | ((with_reducible apply w_ixM);(focus exact rfl);(focus exact rfl);case' hk=>intro y hy) | ((with_reducible (first | apply w_val | apply q_ends));(focus exact rfl)))
        refine q_loop (pre2++[y],post2) (by show d0::ds=_;rw[hl2];simp) (by simp) (by repeat' (first | exact slots_nil | apply slots_cons | rfl | (rw[map_snoc];rfl) | (rw[len_snoc];rfl) | (rw[hS];rfl) | (rw[hS,map_snoc];rfl) | (refine int_eq ?_;(try dsimp only);omega) | (refine congrArg AV.bool ?_;simp_all;done))) (by exact⟨congrArg (fun l:List Dl=>((g10,Res.row (l.map Dl.row).flatten):Nat×Res)) (hnx (renD o y) rfl),trivial⟩) (by repeat' (first | exact kept_nil | apply kept_cons | rfl)) (by repeat' (first | exact kept_nil | apply kept_cons | rfl))
     · repeat' (first
        | with_reducible (first | refine Rd.p ?_ | refine w_alt ?_ ?_ | refine zE ?_ | refine zE0 ?_)
        | (first | with_reducible refine zLd dlFl 3010 0 ?_ | with_reducible refine zLd dlFl 3010 3 ?_ | with_reducible refine zGi ?_)
        | with_reducible (first | refine zI fun y hy=>?_ | refine zL ?_ | refine zS ?_ | refine zA fun _=>?_ | refine zV ?_ | refine zC ?_ | refine zG ?_ | refine zU ?_ | refine zG0 ?_ | refine zU0 ?_ | refine zF ?_)
        | with_reducible (first | refine zX ?_ | refine zD fun _=>?_ | refine zD0 ?_ | refine zN ?_ | refine zF0 ?_ | refine zX0 ?_ | refine z1 ?_ | refine z2 ?_ | refine z3 ?_ | refine z4 ?_ | refine z5 ?_ | refine z6 ?_ | refine z7 ?_ | refine z8 ?_ | refine y1 ?_ | refine y2 ?_ | refine y3 ?_ | refine y4 ?_ | refine y5 ?_ | refine y6 ?_ | refine y7 ?_ | refine y8 ?_ | refine Rt.p (fun _=>?_) fun _=>?_)
        | ((with_reducible apply w_ixM);(focus exact rfl);(focus exact rfl);case' hk=>intro y hy) | ((with_reducible (first | apply w_val | apply q_ends));(focus exact rfl)))
       all_goals try (exfalso;omega)
       all_goals
        refine q_loop (pre2++[y],post2) (by show d0::ds=_;rw[hl2];simp) (by simp) (by repeat' (first | exact slots_nil | apply slots_cons | rfl | (rw[map_snoc];rfl) | (rw[len_snoc];rfl) | (rw[hS];rfl) | (rw[hS,map_snoc];rfl) | (refine int_eq ?_;(try dsimp only);omega) | (refine congrArg AV.bool ?_;simp_all;done))) (by exact⟨congrArg (fun l:List Dl=>((g10,Res.row (l.map Dl.row).flatten):Nat×Res)) (hnx y (by unfold renD;rw[if_neg hk])),trivial⟩) (by repeat' (first | exact kept_nil | apply kept_cons | rfl)) (by repeat' (first | exact kept_nil | apply kept_cons | rfl))
   | nil=>
     simp only[List.append_nil,List.length_append,List.length_nil] at hlen2 hl2
     repeat' (first
      | with_reducible (first | refine Rd.p ?_ | refine w_alt ?_ ?_ | refine zE ?_ | refine zE0 ?_)
      | with_reducible (first | refine zI fun y hy=>?_ | refine zL ?_ | refine zS ?_ | refine zA fun _=>?_ | refine zV ?_ | refine zC ?_ | refine zG ?_ | refine zU ?_ | refine zG0 ?_ | refine zU0 ?_ | refine zF ?_)
      | with_reducible (first | refine zX ?_ | refine zD fun _=>?_ | refine zD0 ?_ | refine zN ?_ | refine zF0 ?_ | refine zX0 ?_ | refine z1 ?_ | refine z2 ?_ | refine z3 ?_ | refine z4 ?_ | refine z5 ?_ | refine z6 ?_ | refine z7 ?_ | refine z8 ?_ | refine y1 ?_ | refine y2 ?_ | refine y3 ?_ | refine y4 ?_ | refine y5 ?_ | refine y6 ?_ | refine y7 ?_ | refine y8 ?_ | refine Rt.p (fun _=>?_) fun _=>?_)
      | ((with_reducible apply w_ixM);(focus exact rfl);(focus exact rfl);case' hk=>intro y hy) | ((with_reducible (first | apply w_val | apply q_ends));(focus exact rfl)))
     refine w_frzP (i:=9) (j:=3010) (s:=5) (u:=4) (g:=g6) (h:=g10) (gb:=g5) (ub:=g4) (xs:=cur) (ys:=pre2.map (renD o)++[]) (cu:=[.nsl,.nsl]) wdFl dlFl (by decide) (by decide) (by decide) (by decide) (by decide) (by omega) (by simp;omega) rfl rfl rfl rfl rfl rfl rfl rfl (fun _ _ _=>rfl) ?_
     intro e3 σ3
     repeat' (first
      | with_reducible (first | refine Rd.p ?_ | refine w_alt ?_ ?_ | refine zE ?_ | refine zE0 ?_)
      | with_reducible (first | refine zI fun y hy=>?_ | refine zL ?_ | refine zS ?_ | refine zA fun _=>?_ | refine zV ?_ | refine zC ?_ | refine zG ?_ | refine zU ?_ | refine zG0 ?_ | refine zU0 ?_ | refine zF ?_)
      | with_reducible (first | refine zX ?_ | refine zD fun _=>?_ | refine zD0 ?_ | refine zN ?_ | refine zF0 ?_ | refine zX0 ?_ | refine z1 ?_ | refine z2 ?_ | refine z3 ?_ | refine z4 ?_ | refine z5 ?_ | refine z6 ?_ | refine z7 ?_ | refine z8 ?_ | refine y1 ?_ | refine y2 ?_ | refine y3 ?_ | refine y4 ?_ | refine y5 ?_ | refine y6 ?_ | refine y7 ?_ | refine y8 ?_ | refine Rt.p (fun _=>?_) fun _=>?_)
      | ((with_reducible apply w_ixM);(focus exact rfl);(focus exact rfl);case' hk=>intro y hy) | ((with_reducible (first | apply w_val | apply q_ends));(focus exact rfl)))
     refine⟨cur,?_,hcl,fun j hj=>hat j (by omega)⟩
     rw[hl2]
     simp only[List.append_nil]
     rfl
theorem made_crs {G:Gm} {woods drawn cens:Int} {a b:Nat} (hm:madeO G woods drawn cens) (ha:woods≤a) (hb:cens≤b) (h:a^b≤5000):crsO G=(crsG G,0):=by
 have hr:=(deals_run G.ds tb0 tb0_ok (gm_ok hm.e).ds).2.2
 have e:tb0.cens=0:=rfl
 have h1:=hm.c
 have h2:=hm.n2
 exact crsO_ok hm.e (a:=a) (b:=b) (by omega) (by omega) h
theorem Due_c (G:Gm) (a:Aq) (c:List Int) (h0:gmErr G=0) (ha:askErr G.ws.length a=0) (hs:∀w∈G.ws,w.name.size≤1000) (hc:c.length=censG (stepsG G.ds)) (hw:∀x∈c,0≤x∧x<(G.ws.length:Int)):Fn0 Try.prog 35 [gmA G,aqA a,.slc 1 (iR c) .non] (fun v=>v= .tup [.slc 1 (iR (dueF G a c)) .non,.int .i64 0]):=by
 have hG:=gm_ok h0
 have h6:=hG.n6
 have h24:=hG.d24
 have hcn:=hG.cen
 have hck:=gCheck_c G (by omega) (by omega) hs
 have hak:=checkAsk_c G a (by omega)
 have hcc:=checkCourse_c G (invW G.ws.length) (gmOK h0) c (by omega)
 have hce:courseErr G c=0:=by
  unfold courseErr
  rw[if_pos (by rw[hc]),if_neg]
  rw[List.any_eq_true]
  rintro⟨x,hx,h⟩
  have:=hw x hx
  rw[show inB x 0 (G.ws.length-1)=true from inB_t.2 (by omega)] at h
  exact absurd h (by decide)
 have hd:=due_c G a c h6 h24 (by omega) (by omega) hw
 rw[h0] at hck
 rw[ha] at hak
 rw[hce] at hcc
 refine RawC.walk (H:=hint35 Try.prog) ir35 Try.func35 rfl rfl rfl ?_
 unfold ir35
 repeat' (first
  | with_reducible (first | refine Rd.p ?_ | refine w_alt ?_ ?_ | refine zE ?_ | refine zE0 ?_)
  | with_reducible (first | refine zI fun y hy=>?_ | refine zL ?_ | refine zS ?_ | refine zA fun _=>?_ | refine zV ?_ | refine zC ?_ | refine zG ?_ | refine zU ?_ | refine zG0 ?_ | refine zU0 ?_ | refine zF ?_)
  | ((with_reducible refine acall_id ?_);refine ACall.val hck rfl rfl ?_)
  | ((with_reducible refine acall_id ?_);refine ACall.val hak rfl rfl ?_)
  | ((with_reducible refine acall_id ?_);refine ACall.val hcc rfl rfl ?_)
  | ((with_reducible refine acall_id ?_);refine ACall.val hd rfl rfl ?_)
  | with_reducible (first | refine zX ?_ | refine zD fun _=>?_ | refine zD0 ?_ | refine zN ?_ | refine zF0 ?_ | refine zX0 ?_ | refine z1 ?_ | refine z2 ?_ | refine z3 ?_ | refine z4 ?_ | refine z5 ?_ | refine z6 ?_ | refine z7 ?_ | refine z8 ?_ | refine y1 ?_ | refine y2 ?_ | refine y3 ?_ | refine y4 ?_ | refine y5 ?_ | refine y6 ?_ | refine y7 ?_ | refine y8 ?_ | refine Rt.p (fun _=>?_) fun _=>?_)
  | ((with_reducible apply w_ixM);(focus exact rfl);(focus exact rfl);case' hk=>intro y hy) | ((with_reducible (first | apply w_val | apply q_ends));(focus exact rfl)))
 all_goals first
  | (exfalso;omega)
  | rfl
def ir8:IFn:=
 ⟨158,[(2,none)],(.seq (.ops [oo 2 (.mov (kB false))])
 (.seq (.ops [oo 22 (.mov 0),
 oo 23 (.callF 15 [22]),
 oo 3 (.mov 23)])
 (.seq (.ops [oo 24 (.mov 3),
 oo 25 (.callF 14 [24,(kI 4),(kI 5),(kI 6)]),
 oo 4 (.new [.nsl,.nsl]),
 ⟨none,none,(.st 2 4 25)⟩])
 (.seq (.ops [oo 26 (.mov 3),
 oo 27 (.flA 0 4),
 oo 28 (.ld 1 false 27),
 oo 29 (.len false 28),
 oo 30 (.callF 33 [26,29]),
 oo 5 (.mov 30)])
 (.seq (.ops [oo 31 (.ld 2 true 4),
 oo 32 (.mov 5),
 oo 33 (.callF 34 [31,32]),
 oo 6 (.new [.nsl,.nsl]),
 ⟨none,none,(.st 2 6 33)⟩])
 (.seq (.ops [oo 35 (.ld 2 true 4),
 oo 36 (.callF 21 [35]),
 oo 34 (.mov 36),
 oo 37 (.ext 0 34),
 oo 38 (.ext 1 34),
 oo 39 (.ext 2 34),
 oo 7 (.mov 37),
 oo 8 (.mov 38),
 oo 9 (.mov 39)])
 (.seq (.ops [oo 41 (.ld 2 true 6),
 oo 42 (.callF 21 [41]),
 oo 40 (.mov 42),
 oo 43 (.ext 0 40),
 oo 44 (.ext 1 40),
 oo 45 (.ext 2 40),
 oo 10 (.mov 43),
 oo 11 (.mov 44),
 oo 12 (.mov 45)])
 (.seq (.seq (.ops [oo 46 (.mov 9),
 oo 47 (.bin .neq 46 (kI 0)),
 oo 48 (.mov 47),
 ⟨(some 49),(some (48,false)),(.mov 12)⟩,
 ⟨(some 50),(some (48,false)),(.bin .neq 49 (kI 0))⟩,
 oo 51 (.pick 48 (kB true) 50),
 oo 52 (.mov 51),
 ⟨(some 53),(some (52,false)),(.mov 7)⟩,
 ⟨(some 54),(some (52,false)),(.len false 53)⟩,
 ⟨(some 55),(some (52,false)),(.mov 10)⟩,
 ⟨(some 56),(some (52,false)),(.len false 55)⟩,
 ⟨(some 57),(some (52,false)),(.bin .neq 54 56)⟩,
 oo 58 (.pick 52 (kB true) 57),
 oo 59 (.mov 58),
 ⟨(some 60),(some (59,false)),(.mov 8)⟩,
 ⟨(some 61),(some (59,false)),(.len false 60)⟩,
 ⟨(some 62),(some (59,false)),(.mov 7)⟩,
 ⟨(some 63),(some (59,false)),(.len false 62)⟩,
 ⟨(some 64),(some (59,false)),(.bin .neq 61 63)⟩,
 oo 65 (.pick 59 (kB true) 64),
 oo 66 (.mov 65),
 ⟨(some 67),(some (66,false)),(.mov 11)⟩,
 ⟨(some 68),(some (66,false)),(.len false 67)⟩,
 ⟨(some 69),(some (66,false)),(.mov 10)⟩,
 ⟨(some 70),(some (66,false)),(.len false 69)⟩,
 ⟨(some 71),(some (66,false)),(.bin .neq 68 70)⟩,
 oo 72 (.pick 66 (kB true) 71)])
 (.cnd 72
 (.seq (.ops [oo 2 (.mov (kB false))])
 .ret)
 .skip))
 (.seq (.seq (.ops [oo 13 (.mov (kI 0))])
 (.blk 0 (.loop (.seq (.seq (.ops [oo 73 (.mov 13),
 oo 74 (.mov 7),
 oo 75 (.len false 74),
 oo 76 (.bin .lss 73 75)])
 (.cnd 76
 .skip
 (.exit 0)))
 (.seq (.blk 1 (.seq (.ops [oo 14 (.nil 1 14)])
 (.seq (.seq (.ops [oo 15 (.mov (kI 0))])
 (.blk 2 (.loop (.seq (.seq (.ops [oo 79 (.mov 15),
 oo 80 (.mov 7),
 oo 81 (.mov 13),
 oo 82 (.ixA 1 80 81),
 oo 83 (.ld 1 false 82),
 oo 84 (.len false 83),
 oo 85 (.bin .lss 79 84)])
 (.cnd 85
 .skip
 (.exit 2)))
 (.seq (.blk 3 (.seq (.ops [oo 88 (.mov 7),
 oo 89 (.mov 13),
 oo 90 (.ixA 1 88 89),
 oo 91 (.ld 1 false 90),
 oo 92 (.mov 15),
 oo 93 (.ixA 1 91 92),
 oo 94 (.ld 1 false 93),
 oo 16 (.mov 94)])
 (.seq (.seq (.ops [oo 95 (.mov 16),
 oo 96 (.bin .lss 95 (kI 0)),
 oo 97 (.mov 96),
 ⟨(some 98),(some (97,false)),(.mov 16)⟩,
 ⟨(some 99),(some (97,false)),(.mov 5)⟩,
 ⟨(some 100),(some (97,false)),(.len false 99)⟩,
 ⟨(some 101),(some (97,false)),(.bin .geq 98 100)⟩,
 oo 102 (.pick 97 (kB true) 101)])
 (.cnd 102
 (.seq (.ops [oo 2 (.mov (kB false))])
 .ret)
 .skip))
 (.ops [oo 103 (.mov 14),
 oo 104 (.mov 5),
 oo 105 (.mov 16),
 oo 106 (.ixA 1 104 105),
 oo 107 (.ld 1 false 106),
 oo 108 (.bsl 1 [[(.int .i64 0)]] [(0,107)]),
 oo 109 (.app 1 8 103 108 14),
 oo 14 (.mov 109)]))))
 (.ops [oo 86 (.mov 15),
 oo 87 (.bin .add 86 (kI 1)),
 oo 15 (.mov 87)]))))))
 (.seq (.ops [oo 110 (.mov 10),
 oo 111 (.mov 14),
 oo 112 (.callF 29 [110,111]),
 oo 17 (.mov 112)])
 (.seq (.ops [oo 114 (.ld 2 true 4),
 oo 115 (.bld [(.int .i64 0),(.int .i64 0)] [(0,1,(kI 1))]),
 oo 116 (.mov 7),
 oo 117 (.mov 13),
 oo 118 (.ixA 1 116 117),
 oo 119 (.ld 1 false 118),
 oo 120 (.callF 35 [114,115,119]),
 oo 113 (.mov 120),
 oo 121 (.ext 0 113),
 oo 122 (.ext 1 113),
 oo 18 (.mov 121),
 oo 19 (.mov 122)])
 (.seq (.ops [oo 124 (.ld 2 true 6),
 oo 125 (.bld [(.int .i64 0),(.int .i64 0)] [(0,1,(kI 1))]),
 oo 126 (.mov 14),
 oo 127 (.callF 35 [124,125,126]),
 oo 123 (.mov 127),
 oo 128 (.ext 0 123),
 oo 129 (.ext 1 123),
 oo 20 (.mov 128),
 oo 21 (.mov 129)])
 (.seq (.ops [oo 130 (.mov 17),
 oo 131 (.bin .lss 130 (kI 0)),
 oo 132 (.mov 131),
 ⟨(some 133),(some (132,false)),(.mov 11)⟩,
 ⟨(some 134),(some (132,false)),(.mov 17)⟩,
 ⟨(some 135),(some (132,false)),(.ixA 1 133 134)⟩,
 ⟨(some 136),(some (132,false)),(.ld 1 false 135)⟩,
 ⟨(some 137),(some (132,false)),(.mov 8)⟩,
 ⟨(some 138),(some (132,false)),(.mov 13)⟩,
 ⟨(some 139),(some (132,false)),(.ixA 1 137 138)⟩,
 ⟨(some 140),(some (132,false)),(.ld 1 false 139)⟩,
 ⟨(some 141),(some (132,false)),(.bin .neq 136 140)⟩,
 oo 142 (.pick 132 (kB true) 141),
 oo 143 (.mov 142),
 ⟨(some 144),(some (143,false)),(.mov 19)⟩,
 ⟨(some 145),(some (143,false)),(.bin .neq 144 (kI 0))⟩,
 oo 146 (.pick 143 (kB true) 145),
 oo 147 (.mov 146),
 ⟨(some 148),(some (147,false)),(.mov 21)⟩,
 ⟨(some 149),(some (147,false)),(.bin .neq 148 (kI 0))⟩,
 oo 150 (.pick 147 (kB true) 149),
 oo 151 (.mov 150),
 ⟨(some 152),(some (151,false)),(.mov 18)⟩,
 ⟨(some 153),(some (151,false)),(.mov 20)⟩,
 ⟨(some 154),(some (151,false)),(.callF 24 [152,153])⟩,
 ⟨(some 155),(some (151,false)),(.not 154)⟩,
 oo 156 (.pick 151 (kB true) 155)])
 (.cnd 156
 (.seq (.ops [oo 2 (.mov (kB false))])
 .ret)
 .skip))))))))
 (.ops [oo 77 (.mov 13),
 oo 78 (.bin .add 77 (kI 1)),
 oo 13 (.mov 78)]))))))
 (.seq (.ops [oo 157 (.callF 13 []),
 oo 2 (.mov 157)])
 .ret))))))))))⟩
def hint8 (P:Program):Hint:={site:=[(109,14)],nils:=[(14,1)],frz:=[],mve:=[],wr:=[] }
theorem mid_of {α:Type} {l:List α} {k:Nat} {v:α} (h:l[k]?=some v):l=l.take k++v::l.drop (k+1)∧(l.take k).length=k:=by
 obtain⟨h1,h2⟩:=List.getElem?_eq_some_iff.1 h
 exact⟨by rw[←h2,List.getElem_cons_drop,List.take_append_drop],by rw[List.length_take];omega⟩
theorem gameNamed_c (nums:List Int) (hn:nums.length<2^62):Fn0 Try.prog 8 [.slc 1 (iR nums) .non] (fun v=>v= .bool true):=by
 refine RawC.walk (H:=hint8 Try.prog) ir8 Try.func8 rfl rfl rfl ?_
 unfold ir8
 repeat' (first
  | with_reducible (first | refine Rd.p ?_ | refine w_alt ?_ ?_ | refine zE ?_ | refine zE0 ?_)
  | with_reducible (first | refine zI fun y hy=>?_ | refine zL ?_ | refine zS ?_ | refine zA fun _=>?_ | refine zV ?_ | refine zC ?_ | refine zG ?_ | refine zU ?_ | refine zG0 ?_ | refine zU0 ?_ | refine zF ?_)
  | ((with_reducible refine acall_id ?_);refine ACall.liftS (boxOf_s nums hn) [] (some 6) rfl rfl rfl trivial (fun _=>rfl) ?_;rintro⟨gb,w⟩ _ rfl)
  | ((with_reducible refine acall_id ?_);refine ACall.box (gameOf_c _ _ 4 5 6 (by decide) (by decide) (by decide)) rfl rfl rfl ?_;rintro _ _ ⟨⟨ws,ds⟩,rfl,hm⟩)
  | with_reducible (first | refine zX ?_ | refine zD fun _=>?_ | refine zD0 ?_ | refine zN ?_ | refine zF0 ?_ | refine zX0 ?_ | refine z1 ?_ | refine z2 ?_ | refine z3 ?_ | refine z4 ?_ | refine z5 ?_ | refine z6 ?_ | refine z7 ?_ | refine z8 ?_ | refine y1 ?_ | refine y2 ?_ | refine y3 ?_ | refine y4 ?_ | refine y5 ?_ | refine y6 ?_ | refine y7 ?_ | refine y8 ?_ | refine Rt.p (fun _=>?_) fun _=>?_)
  | ((with_reducible apply w_ixM);(focus exact rfl);(focus exact rfl);case' hk=>intro y hy) | ((with_reducible (first | apply w_val | apply q_ends));(focus exact rfl)))
 have hn1:1≤ws.length:=hm.n1
 have hn4:(ws.length:Int)≤4:=hm.n2
 have h0:=hm.e
 have hG:=gm_ok h0
 have hd24:ds.length≤24:=hm.d
 have hcn:=hG.cen
 have hcr:=made_crs (a:=4) (b:=6) hm (by decide) (by decide) (by decide)
 have hce:censG (stepsG ds)≤6:=by
  have hr:=(deals_run ds tb0 tb0_ok hG.ds).2.2
  have e:tb0.cens=0:=rfl
  have h1:(dsTab tb0 ds).cens≤6:=hm.c
  omega
 cases ws with
 | nil=>exfalso;simp at hn1
 | cons w0 ws=>
 cases ds with
 | nil=>
   exfalso
   have:censG (stepsG (⟨w0::ws,[]⟩:Gm).ds)=0:=rfl
   omega
 | cons d0 ds=>
 have hwsz:∀w∈w0::ws,w.name.size≤1000:=fun w hw=>by have:=(madeW_ok hm.w).2 w hw;omega
 repeat' (first
  | with_reducible (first | refine Rd.p ?_ | refine w_alt ?_ ?_ | refine zE ?_ | refine zE0 ?_)
  | with_reducible (first | refine zI fun y hy=>?_ | refine zL ?_ | refine zS ?_ | refine zA fun _=>?_ | refine zV ?_ | refine zC ?_ | refine zG ?_ | refine zU ?_ | refine zG0 ?_ | refine zU0 ?_ | refine zF ?_)
  | ((with_reducible refine acall_id ?_);refine ACall.box (order_c _ _ (w0::ws).length (by omega)) rfl rfl rfl ?_;rintro _ _ ⟨o,rfl,ho⟩)
  | ((with_reducible refine acall_id ?_);refine ACall.fn0 (namedG_c w0 ws d0 ds o (by rw[List.length_cons] at hn4;omega) (by rw[List.length_cons] at hd24;omega) ho (deals_wood hG.ds)) rfl ?_;rintro _ ⟨ws',rfl,hwl',hat⟩)
  | with_reducible (first | refine zX ?_ | refine zD fun _=>?_ | refine zD0 ?_ | refine zN ?_ | refine zF0 ?_ | refine zX0 ?_ | refine z1 ?_ | refine z2 ?_ | refine z3 ?_ | refine z4 ?_ | refine z5 ?_ | refine z6 ?_ | refine z7 ?_ | refine z8 ?_ | refine y1 ?_ | refine y2 ?_ | refine y3 ?_ | refine y4 ?_ | refine y5 ?_ | refine y6 ?_ | refine y7 ?_ | refine y8 ?_ | refine Rt.p (fun _=>?_) fun _=>?_)
  | ((with_reducible apply w_ixM);(focus exact rfl);(focus exact rfl);case' hk=>intro y hy) | ((with_reducible (first | apply w_val | apply q_ends));(focus exact rfl)))
 have hol:=ho.len
 obtain⟨hH0,hHc,hHw,hHm⟩:=named_all ho (by omega) h0 rfl hwl' hat hm.w
 have hlen:=named_len ho h0 hH0 hwl' hHc hHw
 obtain⟨H,hHe⟩:∃H:Gm,(⟨ws',(d0::ds).map (renD o)⟩:Gm)=H:=⟨_,rfl⟩
 have hHws:H.ws=ws':=by rw[←hHe]
 have hHds:H.ds.length=(d0::ds).length:=by rw[←hHe];exact List.length_map _
 rw[hHe] at hH0 hHw hlen
 have hHc':censG (stepsG H.ds)=censG (stepsG (d0::ds)):=by rw[←hHe];exact hHc
 have hH:=gm_ok hH0
 have hcrH:=crsO_ok hH0 (a:=4) (b:=6) (by rw[hHws,hwl'];omega) (by rw[hHc'];exact hce) (by decide)
 have hC1:=subV2 (courses_f ⟨w0::ws,d0::ds⟩ (invW (w0::ws).length) (by show (w0::ws).length<1000;omega) (by show (d0::ds).length<1000;omega) hwsz gmOK) (sub_crsA _ _)
 have hC2:=subV2 (courses_f H (invW H.ws.length) (by rw[hHws];omega) (by omega) (fun w hw=>hwsz w (hHm w (by rw[hHws] at hw;exact hw))) gmOK) (sub_crsA _ _)
 obtain⟨b1,_⟩:=crsO_bd ⟨w0::ws,d0::ds⟩
 rw[hcr] at hC1 b1
 rw[hcrH] at hC2
 dsimp only at hC1 hC2 b1
 have hmG:=fun c=>crsG_mem hG (c:=c)
 have hmH:=fun c=>crsG_mem hH (c:=c)
 obtain⟨A,hA⟩:∃A,crsG ⟨w0::ws,d0::ds⟩=A:=⟨_,rfl⟩
 obtain⟨Z,hZ⟩:∃Z,crsG H=Z:=⟨_,rfl⟩
 rw[hA] at hC1 b1 hlen
 rw[hZ] at hC2 hlen
 simp only[hA] at hmG
 simp only[hZ] at hmH
 have hDue1:=fun (c:List Int) (hc:c.length=censG (stepsG (d0::ds))) hw=>Due_c ⟨w0::ws,d0::ds⟩ ⟨1,0⟩ c h0 rfl hwsz hc hw
 have hDue2:=fun (c:List Int) (hc:c.length=censG (stepsG H.ds)) hw=>Due_c H ⟨1,0⟩ c hH0 rfl (fun w hw=>hwsz w (hHm w (by rw[hHws] at hw;exact hw))) hc hw
 have hgH:gmA H=AV.agg [.slc 2 (wR ws') .non,.slc 5 (dlR ((d0::ds).map (renD o))) .non]:=by rw[←hHe]
 simp only[hgH] at hC2 hDue2
 have l1:(llR (A.map (·.1))).length=A.length:=by simp
 have l2:(iR (A.map (·.2))).length=A.length:=by simp
 have l3:(llR (Z.map (·.1))).length=A.length:=by simp;omega
 have l4:(iR (Z.map (·.2))).length=A.length:=by simp;omega
 have l5:(A.map (·.1)).length=A.length:=List.length_map _
 have l6:(A.map (·.2)).length=A.length:=List.length_map _
 have l7:(Z.map (·.1)).length=Z.length:=List.length_map _
 have l8:(Z.map (·.2)).length=Z.length:=List.length_map _
 have hZm:∀y∈Z.map (·.1),y.length<1000000:=fun y hy=>by
  obtain⟨z,hz,rfl⟩:=List.mem_map.1 hy
  have:=((hmH z).1 hz).1.1
  omega
 repeat' (first
  | with_reducible (first | refine Rd.p ?_ | refine w_alt ?_ ?_ | refine zE ?_ | refine zE0 ?_)
  | with_reducible (first | refine zI fun y hy=>?_ | refine zL ?_ | refine zS ?_ | refine zA fun _=>?_ | refine zV ?_ | refine zC ?_ | refine zG ?_ | refine zU ?_ | refine zG0 ?_ | refine zU0 ?_ | refine zF ?_)
  | ((with_reducible refine acall_id ?_);refine ACall.val hC1 rfl rfl ?_)
  | ((with_reducible refine acall_id ?_);refine ACall.val hC2 rfl rfl ?_)
  | with_reducible (first | refine zX ?_ | refine zD fun _=>?_ | refine zD0 ?_ | refine zN ?_ | refine zF0 ?_ | refine zX0 ?_ | refine z1 ?_ | refine z2 ?_ | refine z3 ?_ | refine z4 ?_ | refine z5 ?_ | refine z6 ?_ | refine z7 ?_ | refine z8 ?_ | refine y1 ?_ | refine y2 ?_ | refine y3 ?_ | refine y4 ?_ | refine y5 ?_ | refine y6 ?_ | refine y7 ?_ | refine y8 ?_ | refine Rt.p (fun _=>?_) fun _=>?_)
  | ((with_reducible apply w_ixM);(focus exact rfl);(focus exact rfl);case' hk=>intro y hy) | ((with_reducible (first | apply w_val | apply q_ends));(focus exact rfl)))
 all_goals try (exfalso;omega)
 refine w_loopK [4,5,6,7,8,10,11] [4,6] (fun z:List (List Int×Int)×List (List Int×Int)=>A=z.1++z.2) (fun z=>z.2.length) (fun z=>[(13,.int .i64 (z.1.length:Int))]) (fun _=>[]) ([],A) rfl ⟨rfl,trivial⟩ trivial ?_
 rintro⟨pre,post⟩ hl e σ
 dsimp only at hl ⊢
 have hlen2:=congrArg List.length hl
 rw[List.length_append] at hlen2
 cases post with
 | nil=>
   simp only[List.length_nil] at hlen2
   repeat' (first
    | with_reducible (first | refine Rd.p ?_ | refine w_alt ?_ ?_ | refine zE ?_ | refine zE0 ?_)
    | with_reducible (first | refine zI fun y hy=>?_ | refine zL ?_ | refine zS ?_ | refine zA fun _=>?_ | refine zV ?_ | refine zC ?_ | refine zG ?_ | refine zU ?_ | refine zG0 ?_ | refine zU0 ?_ | refine zF ?_)
    | ((with_reducible refine acall_id ?_);refine ACall.val awake_c rfl rfl ?_)
    | with_reducible (first | refine zX ?_ | refine zD fun _=>?_ | refine zD0 ?_ | refine zN ?_ | refine zF0 ?_ | refine zX0 ?_ | refine z1 ?_ | refine z2 ?_ | refine z3 ?_ | refine z4 ?_ | refine z5 ?_ | refine z6 ?_ | refine z7 ?_ | refine z8 ?_ | refine y1 ?_ | refine y2 ?_ | refine y3 ?_ | refine y4 ?_ | refine y5 ?_ | refine y6 ?_ | refine y7 ?_ | refine y8 ?_ | refine Rt.p (fun _=>?_) fun _=>?_)
    | ((with_reducible apply w_ixM);(focus exact rfl);(focus exact rfl);case' hk=>intro y hy) | ((with_reducible (first | apply w_val | apply q_ends));(focus exact rfl)))
   all_goals first
    | (exfalso;omega)
    | rfl
 | cons z post=>
   simp only[List.length_cons] at hlen2
   obtain⟨c,n⟩:=z
   obtain⟨⟨hz1,hz2⟩,hz3,hz4⟩:=(hmG (c,n)).1 (by rw[hl];simp)
   dsimp only at hz1 hz2 hz3 hz4
   have hL:A.map (·.1)=pre.map (·.1)++c::post.map (·.1):=by rw[hl,List.map_append,List.map_cons]
   have hW:A.map (·.2)=pre.map (·.2)++n::post.map (·.2):=by rw[hl,List.map_append,List.map_cons]
   have hi1:(pre.length:Int)=((pre.map (·.1)).length:Int):=by rw[List.length_map]
   have hi2:(pre.length:Int)=((pre.map (·.2)).length:Int):=by rw[List.length_map]
   repeat' (first
    | with_reducible (first | refine Rd.p ?_ | refine w_alt ?_ ?_ | refine zE ?_ | refine zE0 ?_)
    | with_reducible (first | refine zI fun y hy=>?_ | refine zL ?_ | refine zS ?_ | refine zA fun _=>?_ | refine zV ?_ | refine zC ?_ | refine zG ?_ | refine zU ?_ | refine zG0 ?_ | refine zU0 ?_ | refine zF ?_)
    | with_reducible (first | refine zX ?_ | refine zD fun _=>?_ | refine zD0 ?_ | refine zN ?_ | refine zF0 ?_ | refine zX0 ?_ | refine z1 ?_ | refine z2 ?_ | refine z3 ?_ | refine z4 ?_ | refine z5 ?_ | refine z6 ?_ | refine z7 ?_ | refine z8 ?_ | refine y1 ?_ | refine y2 ?_ | refine y3 ?_ | refine y4 ?_ | refine y5 ?_ | refine y6 ?_ | refine y7 ?_ | refine y8 ?_ | refine Rt.p (fun _=>?_) fun _=>?_)
    | ((with_reducible apply w_ixM);(focus exact rfl);(focus exact rfl);case' hk=>intro y hy) | ((with_reducible (first | apply w_val | apply q_ends));(focus exact rfl)))
   all_goals try (exfalso;omega)
   rename_i g14
   refine w_loopK [4,5,6,7,8,10,11,13,133,134,135,136,137,138,139,140,141,144,145,148,149,152,153,154,155] [4,6] (fun y:List Int×List Int×Nat=>c=y.1++y.2.1) (fun y=>y.2.1.length) (fun y=>[(14,.slc 1 (iR (y.1.map (getI o))) (.own 14 y.2.2)),(15,.int .i64 (y.1.length:Int))]) (fun y=>[(14,(y.2.2,.row []))]) ([],c,g14) rfl ⟨rfl,rfl,trivial⟩ ⟨rfl,trivial⟩ ?_
   rintro⟨p,q,g⟩ hc e2 σ2
   dsimp only at hc ⊢
   have hlen3:=congrArg List.length hc
   rw[List.length_append] at hlen3
   have hlx:(iR (p.map (getI o))).length=p.length:=by simp
   cases q with
   | cons v q=>
     simp only[List.length_cons] at hlen3
     have hv:=hz2 v (by rw[hc];simp)
     have hvb:=po_bd ho hv
     repeat' (first
      | with_reducible (first | refine Rd.p ?_ | refine w_alt ?_ ?_ | refine zE ?_ | refine zE0 ?_)
      | (first | refine w_ixP hL rfl (congrArg (AV.int .i64) hi1) ?_ | refine w_ixP (f:=fun x:Int=>[AV.int .i64 x]) hc rfl rfl ?_ | with_reducible refine zGi ?_)
      | with_reducible (first | refine zI fun y hy=>?_ | refine zL ?_ | refine zS ?_ | refine zA fun _=>?_ | refine zV ?_ | refine zC ?_ | refine zG ?_ | refine zU ?_ | refine zG0 ?_ | refine zU0 ?_ | refine zF ?_)
      | with_reducible (first | refine zX ?_ | refine zD fun _=>?_ | refine zD0 ?_ | refine zN ?_ | refine zF0 ?_ | refine zX0 ?_ | refine z1 ?_ | refine z2 ?_ | refine z3 ?_ | refine z4 ?_ | refine z5 ?_ | refine z6 ?_ | refine z7 ?_ | refine z8 ?_ | refine y1 ?_ | refine y2 ?_ | refine y3 ?_ | refine y4 ?_ | refine y5 ?_ | refine y6 ?_ | refine y7 ?_ | refine y8 ?_ | refine Rt.p (fun _=>?_) fun _=>?_)
      | ((with_reducible apply w_ixM);(focus exact rfl);(focus exact rfl);case' hk=>intro y hy) | ((with_reducible (first | apply w_val | apply q_ends));(focus exact rfl)))
     all_goals try (exfalso;omega)
     all_goals
      rename_i g2
      exact q_loop (p++[v],q,g2) (by show c=_;rw[hc];simp) (Nat.lt_succ_self _) ⟨by show AV.slc 1 _ (.own 14 g2)=AV.slc 1 (iR ((p++[v]).map (getI o))) (.own 14 g2);simp,by rw[len_snoc];rfl,trivial⟩ ⟨rfl,trivial⟩ (by repeat' (first | exact kept_nil | apply kept_cons | rfl)) (by repeat' (first | exact kept_nil | apply kept_cons | rfl))
   | nil=>
     rw[List.append_nil] at hc
     subst hc
     simp only[List.length_nil] at hlen3
     have hxw:∀w∈c.map (getI o),0≤w∧w<(H.ws.length:Int):=fun w hw=>by
      obtain⟨v,hv,rfl⟩:=List.mem_map.1 hw
      rw[hHws,hwl'];exact po_bd ho (hz2 v hv)
     have hxl:(c.map (getI o)).length=censG (stepsG H.ds):=by rw[List.length_map,hHc'];exact hz1
     have hcw:=hHw c hz2
     have hxZ:(c.map (getI o),cwG H (c.map (getI o)))∈Z:=(hmH _).2 ⟨⟨hxl,hxw⟩,by rw[hcw];exact hz3,rfl⟩
     obtain⟨k,hk1,hk2⟩:=plcI_mem (k:=0) (List.mem_map.2 ⟨_,hxZ,rfl⟩:(c.map (getI o))∈Z.map (·.1))
     have hPl:=place_c (Z.map (·.1)) (c.map (getI o)) (by omega) hZm
     rw[hk2] at hPl
     have hkl:=(List.getElem?_eq_some_iff.1 hk1).1
     have hkv:(Z.map (·.2))[k]?=some n:=by
      rw[List.getElem?_map] at hk1 ⊢
      obtain⟨y,hy1,hy2⟩:=Option.map_eq_some_iff.1 hk1
      have hy3:=((hmH y).1 (List.mem_of_getElem? hy1)).2.2
      rw[hy1]
      show some y.2=some n
      rw[hy3,hy2,hcw,hz4]
     obtain⟨hV1,hV2⟩:=mid_of hkv
     have hi3:(0:Int)+(k:Nat)=(((Z.map (·.2)).take k).length:Int):=by rw[hV2];omega
     have hD1:=hDue1 c hz1 hz2
     have hD2:=hDue2 (c.map (getI o)) hxl hxw
     have hnum:dueF H ⟨1,0⟩ (c.map (getI o))=dueF ⟨w0::ws,d0::ds⟩ ⟨1,0⟩ c:=by
      show numF [] (c.map (getI o))=numF [] c
      exact numF_map c [] fun a b ha hb e=>po_inj ho (hz2 a (by simpa using ha)) (hz2 b (by simpa using hb)) e
     rw[hnum] at hD2
     obtain⟨N,hN⟩:∃N,dueF ⟨w0::ws,d0::ds⟩ ⟨1,0⟩ c=N:=⟨_,rfl⟩
     have hNl:N.length≤20:=by
      have:=dueF_len ⟨w0::ws,d0::ds⟩ ⟨1,0⟩ c
      rw[hN] at this
      have h2:(⟨w0::ws,d0::ds⟩:Gm).ws.length=(w0::ws).length:=rfl
      omega
     rw[hN] at hD1 hD2
     have hE:=eq_c N N (by omega)
     rw[decide_eq_true rfl] at hE
     repeat' (first
      | with_reducible (first | refine Rd.p ?_ | refine w_alt ?_ ?_ | refine zE ?_ | refine zE0 ?_)
      | (first | refine w_ixP hL rfl (congrArg (AV.int .i64) hi1) ?_ | refine w_ixP (f:=fun x:Int=>[AV.int .i64 x]) hV1 rfl (congrArg (AV.int .i64) hi3) ?_ | refine w_ixP (f:=fun x:Int=>[AV.int .i64 x]) hW rfl (congrArg (AV.int .i64) hi2) ?_)
      | with_reducible (first | refine zI fun y hy=>?_ | refine zL ?_ | refine zS ?_ | refine zA fun _=>?_ | refine zV ?_ | refine zC ?_ | refine zG ?_ | refine zU ?_ | refine zG0 ?_ | refine zU0 ?_ | refine zF ?_)
      | ((with_reducible refine acall_id ?_);refine ACall.val hPl rfl rfl ?_)
      | ((with_reducible refine acall_id ?_);refine ACall.val hD1 rfl rfl ?_)
      | ((with_reducible refine acall_id ?_);refine ACall.val hD2 rfl rfl ?_)
      | ((with_reducible refine acall_id ?_);refine ACall.val hE rfl rfl ?_)
      | with_reducible (first | refine zX ?_ | refine zD fun _=>?_ | refine zD0 ?_ | refine zN ?_ | refine zF0 ?_ | refine zX0 ?_ | refine z1 ?_ | refine z2 ?_ | refine z3 ?_ | refine z4 ?_ | refine z5 ?_ | refine z6 ?_ | refine z7 ?_ | refine z8 ?_ | refine y1 ?_ | refine y2 ?_ | refine y3 ?_ | refine y4 ?_ | refine y5 ?_ | refine y6 ?_ | refine y7 ?_ | refine y8 ?_ | refine Rt.p (fun _=>?_) fun _=>?_)
      | ((with_reducible apply w_ixM);(focus exact rfl);(focus exact rfl);case' hk=>intro y hy) | ((with_reducible (first | apply w_val | apply q_ends));(focus exact rfl)))
     all_goals first
      | (exfalso;omega)
      | exact q_loop (pre++[(c,n)],post) (by show A=_;rw[hl];simp) (Nat.lt_succ_self _) ⟨by rw[len_snoc];rfl,trivial⟩ (by repeat' (first | exact slots_nil | apply slots_cons | rfl | (rw[map_snoc];rfl) | (rw[len_snoc];rfl) | (rw[hS];rfl) | (rw[hS,map_snoc];rfl) | (refine int_eq ?_;(try dsimp only);omega) | (refine congrArg AV.bool ?_;simp_all;done))) (by repeat' (first | exact kept_nil | apply kept_cons | rfl)) (by repeat' (first | exact kept_nil | apply kept_cons | rfl))
end Go.Abs
