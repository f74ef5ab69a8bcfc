/- A part of the proofs of the laws of this seat: contracts of the functions that they reach, each proved of the program's form in Lean. No condition beyond those that each contract names. -/
import Derived.Test.YtecogfpnfhkibaaProg
import Derived.Test.YtecogfpnfhkibaaSnd3
import Derived.Test.YtecogfpnfhkibaaA0
import Derived.Test.YtecogfpnfhkibaaN1a
import Derived.Test.YtecogfpnfhkibaaN1b
import Derived.Test.YtecogfpnfhkibaaN1c
import Derived.Test.YtecogfpnfhkibaaN1d
import Derived.Test.YtecogfpnfhkibaaN1e
import Derived.Test.YtecogfpnfhkibaaN1f
import Derived.Test.YtecogfpnfhkibaaN1g
import Derived.Test.YtecogfpnfhkibaaN1h
import Derived.Test.YtecogfpnfhkibaaQ1a
import Derived.Test.YtecogfpnfhkibaaQ1b
set_option linter.unusedVariables false
set_option linter.unusedSimpArgs false
set_option maxRecDepth 20000
set_option maxHeartbeats 4000000
namespace Go.Abs
open Go.Proofs
theorem Due_c (G:Gm) (a:Aq) (c:List Int) (h0:gmErr G=0) (ha:askErr G.ws.length a=0) (hs:∀w∈G.ws,w.name.size≤1000) (hc:c.length=censG (stepsG G.ds)) (hw:∀x∈c,0≤x∧x<(G.ws.length:Int)):Fn0 Try.prog 35 [gmA G,aqA a,.slc 1 (iR c) .non] (fun v=>v= .tup [.slc 1 (iR (dueF G a c)) .non,.int .i64 0]):=by
 have hG:=gm_ok h0
 have h6:=hG.n6
 have h24:=hG.d24
 have hcn:=hG.cen
 have hck:=gCheck_c G (by omega) (by omega) hs
 have hak:=checkAsk_c G a (by omega)
 have hcc:=checkCourse_c G (invW G.ws.length) (gmOK h0) c (by omega)
 have hce:courseErr G c=0:=by
  unfold courseErr
  rw[if_pos (by rw[hc]),if_neg]
  rw[List.any_eq_true]
  rintro⟨x,hx,h⟩
  have:=hw x hx
  rw[show inB x 0 (G.ws.length-1)=true from inB_t.2 (by omega)] at h
  exact absurd h (by decide)
 have hd:=due_c G a c h6 h24 (by omega) (by omega) hw
 rw[h0] at hck
 rw[ha] at hak
 rw[hce] at hcc
 refine RawC.walk (H:=hint35 Try.prog) ir35 Try.func35 rfl rfl rfl ?_
 unfold ir35
 repeat' (first
  | with_reducible (first | refine Rd.p ?_ | refine w_alt ?_ ?_ | refine zE ?_ | refine zE0 ?_)
  | with_reducible (first | refine zI fun y hy=>?_ | refine zL ?_ | refine zS ?_ | refine zA fun _=>?_ | refine zV ?_ | refine zC ?_ | refine zG ?_ | refine zU ?_ | refine zG0 ?_ | refine zU0 ?_ | refine zF ?_)
  | ((with_reducible refine acall_id ?_);refine ACall.val hck rfl rfl ?_)
  | ((with_reducible refine acall_id ?_);refine ACall.val hak rfl rfl ?_)
  | ((with_reducible refine acall_id ?_);refine ACall.val hcc rfl rfl ?_)
  | ((with_reducible refine acall_id ?_);refine ACall.val hd rfl rfl ?_)
  | with_reducible (first | refine zX ?_ | refine zD fun _=>?_ | refine zD0 ?_ | refine zN ?_ | refine zF0 ?_ | refine zX0 ?_ | refine z1 ?_ | refine z2 ?_ | refine z3 ?_ | refine z4 ?_ | refine z5 ?_ | refine z6 ?_ | refine z7 ?_ | refine z8 ?_ | refine y1 ?_ | refine y2 ?_ | refine y3 ?_ | refine y4 ?_ | refine y5 ?_ | refine y6 ?_ | refine y7 ?_ | refine y8 ?_ | refine Rt.p (fun _=>?_) fun _=>?_)
  | ((with_reducible apply w_ixM);(focus exact rfl);(focus exact rfl);case' hk=>intro y hy) | ((with_reducible (first | apply w_val | apply q_ends));(focus exact rfl)))
 all_goals first
  | (exfalso;omega)
  | rfl
def befF (a b:List Int):Int:=if (a.length:Int)=b.length then lexI a b else (a.length:Int)-b.length
theorem befF_neg {a b:List Int} (h:lsI a b<0):befF a b<0:=by
 unfold lsI at h
 unfold befF
 by_cases h1:(a.length:Int)=b.length
 · rw[if_pos h1]
   rw[if_pos (cmpI_eq.2 h1)] at h
   exact h
 · rw[if_neg h1]
   rw[if_neg fun h2=>h1 (cmpI_eq.1 h2)] at h
   have:=cmpI_lt.1 h
   omega
theorem befr_c (a b:List Int) (ha:a.length<1000000) (hb:b.length<1000000):Fn0 Try.prog 39 [.slc 1 (iR a) .non,.slc 1 (iR b) .non] (fun v=>v= .int .i64 (befF a b)):=by
 have hal:(iR a).length=a.length:=List.length_map _
 have hbl:(iR b).length=b.length:=List.length_map _
 obtain⟨R,hR⟩:∃R,befF a b=R:=⟨_,rfl⟩
 rw[hR]
 unfold befF at hR
 by_cases hl:(a.length:Int)=b.length
 rotate_left
 · rw[if_neg hl] at hR
   subst hR
   refine RawC.walk (H:=hint39 Try.prog) ir39 Try.func39 rfl rfl rfl ?_
   unfold ir39
   repeat' (first
    | with_reducible (first | refine Rd.p ?_ | refine w_alt ?_ ?_ | refine zE ?_ | refine zE0 ?_)
    | with_reducible (first | refine zI fun y hy=>?_ | refine zL ?_ | refine zS ?_ | refine zA fun _=>?_ | refine zV ?_ | refine zC ?_ | refine zG ?_ | refine zU ?_ | refine zG0 ?_ | refine zU0 ?_ | refine zF ?_)
    | with_reducible (first | refine zX ?_ | refine zD fun _=>?_ | refine zD0 ?_ | refine zN ?_ | refine zF0 ?_ | refine zX0 ?_ | refine z1 ?_ | refine z2 ?_ | refine z3 ?_ | refine z4 ?_ | refine z5 ?_ | refine z6 ?_ | refine z7 ?_ | refine z8 ?_ | refine y1 ?_ | refine y2 ?_ | refine y3 ?_ | refine y4 ?_ | refine y5 ?_ | refine y6 ?_ | refine y7 ?_ | refine y8 ?_ | refine Rt.p (fun _=>?_) fun _=>?_)
    | ((with_reducible apply w_ixM);(focus exact rfl);(focus exact rfl);case' hk=>intro y hy) | ((with_reducible (first | apply w_val | apply q_ends));(focus exact rfl)))
   all_goals first
    | (exfalso;omega)
    | rfl
 rw[if_pos hl] at hR
 refine RawC.walk (H:=hint39 Try.prog) ir39 Try.func39 rfl rfl rfl ?_
 unfold ir39
 repeat' (first
  | with_reducible (first | refine Rd.p ?_ | refine w_alt ?_ ?_ | refine zE ?_ | refine zE0 ?_)
  | with_reducible (first | refine zI fun y hy=>?_ | refine zL ?_ | refine zS ?_ | refine zA fun _=>?_ | refine zV ?_ | refine zC ?_ | refine zG ?_ | refine zU ?_ | refine zG0 ?_ | refine zU0 ?_ | refine zF ?_)
  | with_reducible (first | refine zX ?_ | refine zD fun _=>?_ | refine zD0 ?_ | refine zN ?_ | refine zF0 ?_ | refine zX0 ?_ | refine z1 ?_ | refine z2 ?_ | refine z3 ?_ | refine z4 ?_ | refine z5 ?_ | refine z6 ?_ | refine z7 ?_ | refine z8 ?_ | refine y1 ?_ | refine y2 ?_ | refine y3 ?_ | refine y4 ?_ | refine y5 ?_ | refine y6 ?_ | refine y7 ?_ | refine y8 ?_ | refine Rt.p (fun _=>?_) fun _=>?_)
  | ((with_reducible apply w_ixM);(focus exact rfl);(focus exact rfl);case' hk=>intro y hy) | ((with_reducible (first | apply w_val | apply q_ends));(focus exact rfl)))
 all_goals try (exfalso;omega)
 refine w_loopK [0,1] [] (fun x:List Int×List Int×List Int×List Int=>a=x.1++x.2.1∧b=x.2.2.1++x.2.2.2∧x.1.length=x.2.2.1.length∧lexI x.2.1 x.2.2.2=R) (fun x=>x.2.1.length) (fun x=>[(5,.int .i64 (x.1.length:Int))]) (fun _=>[]) ([],a,[],b) ⟨rfl,rfl,rfl,hR⟩ ⟨rfl,trivial⟩ trivial ?_
 rintro⟨pa,ra,pb,rb⟩ ⟨h1,h2,h3,h4⟩ e σ
 dsimp only at h1 h2 h3 h4 ⊢
 have hn1:=congrArg List.length h1
 have hn2:=congrArg List.length h2
 rw[List.length_append] at hn1 hn2
 cases ra with
 | nil=>
   simp only[List.length_nil] at hn1
   have hrb:rb=[]:=List.eq_nil_of_length_eq_zero (by omega)
   subst hrb
   rw[←h4]
   repeat' (first
    | with_reducible (first | refine Rd.p ?_ | refine w_alt ?_ ?_ | refine zE ?_ | refine zE0 ?_)
    | with_reducible (first | refine zI fun y hy=>?_ | refine zL ?_ | refine zS ?_ | refine zA fun _=>?_ | refine zV ?_ | refine zC ?_ | refine zG ?_ | refine zU ?_ | refine zG0 ?_ | refine zU0 ?_ | refine zF ?_)
    | with_reducible (first | refine zX ?_ | refine zD fun _=>?_ | refine zD0 ?_ | refine zN ?_ | refine zF0 ?_ | refine zX0 ?_ | refine z1 ?_ | refine z2 ?_ | refine z3 ?_ | refine z4 ?_ | refine z5 ?_ | refine z6 ?_ | refine z7 ?_ | refine z8 ?_ | refine y1 ?_ | refine y2 ?_ | refine y3 ?_ | refine y4 ?_ | refine y5 ?_ | refine y6 ?_ | refine y7 ?_ | refine y8 ?_ | refine Rt.p (fun _=>?_) fun _=>?_)
    | ((with_reducible apply w_ixM);(focus exact rfl);(focus exact rfl);case' hk=>intro y hy) | ((with_reducible (first | apply w_val | apply q_ends));(focus exact rfl)))
   all_goals first
    | (exfalso;omega)
    | rfl
 | cons x ra=>
   cases rb with
   | nil=>exfalso;simp only[List.length_cons,List.length_nil] at hn1 hn2;omega
   | cons y rb=>
     simp only[List.length_cons] at hn1 hn2
     have h2':b=pb++y::rb:=h2
     rw[lexI] at h4
     unfold cmpI at h4
     repeat' (first
      | with_reducible (first | refine Rd.p ?_ | refine w_alt ?_ ?_ | refine zE ?_ | refine zE0 ?_)
      | (first | refine w_ixP (f:=fun x:Int=>[AV.int .i64 x]) h1 rfl rfl ?_ | refine w_ixP (f:=fun x:Int=>[AV.int .i64 x]) h2' rfl (by rw[←h3];rfl) ?_)
      | with_reducible (first | refine zI fun y hy=>?_ | refine zL ?_ | refine zS ?_ | refine zA fun _=>?_ | refine zV ?_ | refine zC ?_ | refine zG ?_ | refine zU ?_ | refine zG0 ?_ | refine zU0 ?_ | refine zF ?_)
      | with_reducible (first | refine zX ?_ | refine zD fun _=>?_ | refine zD0 ?_ | refine zN ?_ | refine zF0 ?_ | refine zX0 ?_ | refine z1 ?_ | refine z2 ?_ | refine z3 ?_ | refine z4 ?_ | refine z5 ?_ | refine z6 ?_ | refine z7 ?_ | refine z8 ?_ | refine y1 ?_ | refine y2 ?_ | refine y3 ?_ | refine y4 ?_ | refine y5 ?_ | refine y6 ?_ | refine y7 ?_ | refine y8 ?_ | refine Rt.p (fun _=>?_) fun _=>?_)
      | ((with_reducible apply w_ixM);(focus exact rfl);(focus exact rfl);case' hk=>intro y hy) | ((with_reducible (first | apply w_val | apply q_ends));(focus exact rfl)))
     all_goals first
      | (exfalso;omega)
      | exact int_eq (by rw[←h4,if_pos ‹x<y›];rfl)
      | exact int_eq (by rw[←h4,if_neg ‹¬x<y›,if_pos ‹y<x›];rfl)
      | exact q_loop (pa++[x],ra,pb++[y],rb) ⟨by show a=_;rw[h1];simp,by show b=_;rw[h2'];simp,by dsimp only;rw[len_snoc,len_snoc,h3],by dsimp only;rw[←h4,if_neg ‹¬x<y›,if_neg ‹¬y<x›];rfl⟩ (Nat.lt_succ_self _) ⟨by rw[len_snoc];rfl,trivial⟩ (by repeat' (first | exact slots_nil | apply slots_cons | rfl | (rw[map_snoc];rfl) | (rw[len_snoc];rfl) | (rw[hS];rfl) | (rw[hS,map_snoc];rfl) | (refine int_eq ?_;(try dsimp only);omega) | (refine congrArg AV.bool ?_;simp_all;done))) (by repeat' (first | exact kept_nil | apply kept_cons | rfl)) (by repeat' (first | exact kept_nil | apply kept_cons | rfl))
def rgI:Int→List Int→Prop
 | _,[]=>True
 | u,x::r=>0≤x∧x≤u∧rgI (if x=u then u+1 else u) r
theorem numF_rg:∀(l met:List Int),rgI (met.length:Int) (numF met l)
 | [],_=>trivial
 | x::r,met=>by
   rw[numF]
   by_cases h:x∈met
   · rw[if_pos h]
     have h1:=List.idxOf_lt_length_of_mem h
     refine⟨Int.natCast_nonneg _,by omega,?_⟩
     rw[if_neg (by omega)]
     exact numF_rg r met
   · rw[if_neg h]
     refine⟨Int.natCast_nonneg _,Int.le_refl _,?_⟩
     rw[if_pos rfl]
     have:=numF_rg r (met++[x])
     rw[len_snoc] at this
     exact this
theorem chartCheck_c (l:List Int) (h1:1≤l.length) (h9:l.length≤9) (hr:rgI 0 l):Fn0 Try.prog 45 [.slc 1 (iR l) .non] (fun v=>v= .int .i64 0):=by
 have hll:(iR l).length=l.length:=List.length_map _
 refine RawC.walk (H:=hint45 Try.prog) ir45 Try.func45 rfl rfl rfl ?_
 unfold ir45
 repeat' (first
  | with_reducible (first | refine Rd.p ?_ | refine w_alt ?_ ?_ | refine zE ?_ | refine zE0 ?_)
  | with_reducible (first | refine zI fun y hy=>?_ | refine zL ?_ | refine zS ?_ | refine zA fun _=>?_ | refine zV ?_ | refine zC ?_ | refine zG ?_ | refine zU ?_ | refine zG0 ?_ | refine zU0 ?_ | refine zF ?_)
  | with_reducible (first | refine zX ?_ | refine zD fun _=>?_ | refine zD0 ?_ | refine zN ?_ | refine zF0 ?_ | refine zX0 ?_ | refine z1 ?_ | refine z2 ?_ | refine z3 ?_ | refine z4 ?_ | refine z5 ?_ | refine z6 ?_ | refine z7 ?_ | refine z8 ?_ | refine y1 ?_ | refine y2 ?_ | refine y3 ?_ | refine y4 ?_ | refine y5 ?_ | refine y6 ?_ | refine y7 ?_ | refine y8 ?_ | refine Rt.p (fun _=>?_) fun _=>?_)
  | ((with_reducible apply w_ixM);(focus exact rfl);(focus exact rfl);case' hk=>intro y hy) | ((with_reducible (first | apply w_val | apply q_ends));(focus exact rfl)))
 all_goals try (exfalso;omega)
 refine w_loopK [14,15] [] (fun x:List Int×List Int×Int=>l=x.1++x.2.1∧rgI x.2.2 x.2.1∧0≤x.2.2∧x.2.2≤x.1.length) (fun x=>x.2.1.length) (fun x=>[(3,.int .i64 x.2.2),(16,.int .i64 (x.1.length:Int))]) (fun _=>[]) ([],l,0) ⟨rfl,hr,Int.le_refl _,Int.natCast_nonneg _⟩ ⟨rfl,rfl,trivial⟩ trivial ?_
 rintro⟨pre,post,u⟩ ⟨hl,hg,hu0,hu⟩ e σ
 dsimp only at hl hg hu0 hu ⊢
 have hlen:=congrArg List.length hl
 rw[List.length_append] at hlen
 cases post with
 | nil=>
   simp only[List.length_nil] at hlen
   repeat' (first
    | with_reducible (first | refine Rd.p ?_ | refine w_alt ?_ ?_ | refine zE ?_ | refine zE0 ?_)
    | with_reducible (first | refine zI fun y hy=>?_ | refine zL ?_ | refine zS ?_ | refine zA fun _=>?_ | refine zV ?_ | refine zC ?_ | refine zG ?_ | refine zU ?_ | refine zG0 ?_ | refine zU0 ?_ | refine zF ?_)
    | with_reducible (first | refine zX ?_ | refine zD fun _=>?_ | refine zD0 ?_ | refine zN ?_ | refine zF0 ?_ | refine zX0 ?_ | refine z1 ?_ | refine z2 ?_ | refine z3 ?_ | refine z4 ?_ | refine z5 ?_ | refine z6 ?_ | refine z7 ?_ | refine z8 ?_ | refine y1 ?_ | refine y2 ?_ | refine y3 ?_ | refine y4 ?_ | refine y5 ?_ | refine y6 ?_ | refine y7 ?_ | refine y8 ?_ | refine Rt.p (fun _=>?_) fun _=>?_)
    | ((with_reducible apply w_ixM);(focus exact rfl);(focus exact rfl);case' hk=>intro y hy) | ((with_reducible (first | apply w_val | apply q_ends));(focus exact rfl)))
   all_goals first
    | (exfalso;omega)
    | rfl
 | cons x post=>
   simp only[List.length_cons] at hlen
   obtain⟨g1,g2,g3⟩:=hg
   repeat' (first
    | with_reducible (first | refine Rd.p ?_ | refine w_alt ?_ ?_ | refine zE ?_ | refine zE0 ?_)
    | (first | refine w_ixP (f:=fun x:Int=>[AV.int .i64 x]) hl rfl rfl ?_)
    | with_reducible (first | refine zI fun y hy=>?_ | refine zL ?_ | refine zS ?_ | refine zA fun _=>?_ | refine zV ?_ | refine zC ?_ | refine zG ?_ | refine zU ?_ | refine zG0 ?_ | refine zU0 ?_ | refine zF ?_)
    | with_reducible (first | refine zX ?_ | refine zD fun _=>?_ | refine zD0 ?_ | refine zN ?_ | refine zF0 ?_ | refine zX0 ?_ | refine z1 ?_ | refine z2 ?_ | refine z3 ?_ | refine z4 ?_ | refine z5 ?_ | refine z6 ?_ | refine z7 ?_ | refine z8 ?_ | refine y1 ?_ | refine y2 ?_ | refine y3 ?_ | refine y4 ?_ | refine y5 ?_ | refine y6 ?_ | refine y7 ?_ | refine y8 ?_ | refine Rt.p (fun _=>?_) fun _=>?_)
    | ((with_reducible apply w_ixM);(focus exact rfl);(focus exact rfl);case' hk=>intro y hy) | ((with_reducible (first | apply w_val | apply q_ends));(focus exact rfl)))
   all_goals first
    | (exfalso;omega)
    | exact q_loop (pre++[x],post,u+1) ⟨by show l=_;rw[hl];simp,by rw[if_pos ‹_›] at g3;exact g3,by dsimp only;omega,by dsimp only;rw[len_snoc];omega⟩ (Nat.lt_succ_self _) ⟨rfl,by rw[len_snoc];rfl,trivial⟩ (by repeat' (first | exact slots_nil | apply slots_cons | rfl | (rw[map_snoc];rfl) | (rw[len_snoc];rfl) | (rw[hS];rfl) | (rw[hS,map_snoc];rfl) | (refine int_eq ?_;(try dsimp only);omega) | (refine congrArg AV.bool ?_;simp_all;done))) (by repeat' (first | exact kept_nil | apply kept_cons | rfl)) (by repeat' (first | exact kept_nil | apply kept_cons | rfl))
    | exact q_loop (pre++[x],post,u) ⟨by show l=_;rw[hl];simp,by rw[if_neg ‹_›] at g3;exact g3,by dsimp only;omega,by dsimp only;rw[len_snoc];omega⟩ (Nat.lt_succ_self _) ⟨rfl,by rw[len_snoc];rfl,trivial⟩ (by repeat' (first | exact slots_nil | apply slots_cons | rfl | (rw[map_snoc];rfl) | (rw[len_snoc];rfl) | (rw[hS];rfl) | (rw[hS,map_snoc];rfl) | (refine int_eq ?_;(try dsimp only);omega) | (refine congrArg AV.bool ?_;simp_all;done))) (by repeat' (first | exact kept_nil | apply kept_cons | rfl)) (by repeat' (first | exact kept_nil | apply kept_cons | rfl))
theorem ansI_has (x:List Int) (n:Int):∀L,x∈(ansI x n L).map (·.1)
 | []=>by simp[ansI]
 | y::r=>by
   rw[ansI]
   split
   · rw[List.map_cons];exact List.mem_cons_of_mem _ (ansI_has x n r)
   · split
     · rename_i h;rw[List.map_cons,←h];simp
     · simp
theorem ansI_keep {x z:List Int} {n:Int}:∀{L:List (List Int×Int)},z∈L.map (·.1)→z∈(ansI x n L).map (·.1)
 | [],h=>by simp at h
 | y::r,h=>by
   rw[ansI]
   rw[List.map_cons] at h
   split
   · rw[List.map_cons]
     rcases List.mem_cons.1 h with rfl | h
     · simp
     · exact List.mem_cons_of_mem _ (ansI_keep h)
   · split
     · rw[List.map_cons];exact h
     · rw[List.map_cons,List.map_cons];exact List.mem_cons_of_mem _ h
theorem ans_fold (f:List Int→List Int):∀(l A:List (List Int×Int)),(∀c∈l,0<c.2)→srtA A→(∀y∈A,0<y.2)→
  srtA (l.foldl (fun A c=>ansI (f c.1) c.2 A) A)∧(∀y∈l.foldl (fun A c=>ansI (f c.1) c.2 A) A,0<y.2)∧sumA (l.foldl (fun A c=>ansI (f c.1) c.2 A) A)=sumA A+sumA l∧
  (∀y∈l.foldl (fun A c=>ansI (f c.1) c.2 A) A,y.1∈A.map (·.1)∨ ∃c∈l,y.1=f c.1)∧(∀z∈A.map (·.1),z∈(l.foldl (fun A c=>ansI (f c.1) c.2 A) A).map (·.1))∧ ∀c∈l,f c.1∈(l.foldl (fun A c=>ansI (f c.1) c.2 A) A).map (·.1)
 | [],A,_,h2,h3=>⟨h2,h3,by show sumA A=sumA A+0;omega,fun y hy=> .inl (List.mem_map.2 ⟨y,hy,rfl⟩),fun z hz=>hz,fun c hc=>by cases hc⟩
 | c::l,A,h1,h2,h3=>by
   obtain⟨q1,q2,q3,q4,q5,q6⟩:=ans_fold f l (ansI (f c.1) c.2 A) (fun x hx=>h1 x (by simp[hx])) (ansI_srt h2) (ansI_pos (h1 c (by simp)) h3)
   refine⟨q1,q2,?_,fun y hy=>?_,fun z hz=>q5 z (ansI_keep hz),fun x hx=>?_⟩
   · show sumA (l.foldl _ _)=sumA A+(c.2+sumA l)
     rw[q3,ansI_sum];omega
   · rcases q4 y hy with h | ⟨x,hx,hxy⟩
     · obtain⟨z,hz,hzy⟩:=List.mem_map.1 h
       rcases ansI_mem hz with h4 | h4
       · exact .inr ⟨c,by simp,by rw[←hzy];exact h4⟩
       · exact .inl (List.mem_map.2 ⟨z,h4,hzy⟩)
     · exact .inr ⟨x,by simp[hx],hxy⟩
   · rcases List.mem_cons.1 hx with rfl | hx
     · exact q5 _ (ansI_has _ _ _)
     · exact q6 x hx
theorem timF_prod {most:Int}:∀{L:List Int} {n:Int},(∀s∈L,1≤s)→1≤n→n*prodI L≤most→timF most n L=n*prodI L
 | [],n,_,_,_=>by show n=n*1;omega
 | s::r,n,h,hn,hb=>by
   have hs:=h s (by simp)
   have hr:1≤prodI r:=by
    have key:∀l:List Int,(∀s∈l,1≤s)→1≤prodI l:=by
     intro l
     induction l with
     | nil=>intro _;exact Int.le_refl _
     | cons a l ih=>
       intro hl
       have h1:=hl a (by simp)
       have h2:=ih fun x hx=>hl x (by simp[hx])
       have:=Int.mul_le_mul h1 h2 (by decide) (by omega)
       show 1≤a*prodI l
       omega
    exact key r fun x hx=>h x (by simp[hx])
   have e:n*prodI (s::r)=(n*s)*prodI r:=by show n*(s*prodI r)=_;rw[Int.mul_assoc]
   rw[e] at hb ⊢
   have hns:1≤n*s:=by have:=Int.mul_le_mul hn hs (by decide) (by omega);omega
   have hle:n*s≤(n*s)*prodI r:=by
    have:=Int.mul_le_mul_of_nonneg_left hr (by omega:0≤n*s)
    rw[Int.mul_one] at this;exact this
   rw[timF,show min most (n*s)=n*s by omega]
   exact timF_prod (fun x hx=>h x (by simp[hx])) hns hb
theorem sumA_sum:∀L:List (List Int×Int),(L.map (·.2)).sum=sumA L
 | []=>rfl
 | y::r=>by rw[List.map_cons,List.sum_cons,sumA_sum r];rfl
def ir11:IFn:=
 ⟨178,[(2,none)],(.seq (.ops [oo 2 (.mov (kB false))])
 (.seq (.ops [oo 20 (.mov 0),
 oo 21 (.callF 15 [20]),
 oo 3 (.mov 21)])
 (.seq (.ops [oo 22 (.mov 3),
 oo 23 (.callF 14 [22,(kI 4),(kI 5),(kI 6)]),
 oo 4 (.new [.nsl,.nsl]),
 ⟨none,none,(.st 2 4 23)⟩])
 (.seq (.ops [oo 24 (.mov 3),
 oo 25 (.ld 2 true 4),
 oo 26 (.callF 43 [24,25]),
 oo 5 (.new [(.int .i64 0),(.int .i64 0)]),
 ⟨none,none,(.st 2 5 26)⟩])
 (.seq (.ops [oo 28 (.ld 2 true 4),
 oo 29 (.ld 2 true 5),
 oo 30 (.callF 44 [28,29]),
 oo 27 (.mov 30),
 oo 31 (.ext 0 27),
 oo 32 (.ext 1 27),
 oo 33 (.ext 2 27),
 oo 6 (.mov 31),
 oo 7 (.mov 32),
 oo 8 (.mov 33)])
 (.seq (.ops [oo 35 (.ld 2 true 4),
 oo 36 (.mov 3),
 oo 37 (.ld 2 true 4),
 oo 38 (.callF 36 [36,37]),
 ⟨none,none,(.chk 2 true 4 35)⟩,
 oo 39 (.callF 28 [35,38]),
 oo 34 (.mov 39),
 oo 40 (.ext 0 34),
 oo 41 (.ext 1 34),
 oo 9 (.mov 40),
 oo 10 (.mov 41)])
 (.seq (.ops [oo 43 (.ld 2 true 4),
 oo 44 (.mov 3),
 oo 45 (.ld 2 true 4),
 oo 46 (.callF 36 [44,45]),
 ⟨none,none,(.chk 2 true 4 43)⟩,
 oo 47 (.callF 28 [43,46]),
 oo 42 (.mov 47),
 oo 48 (.ext 0 42),
 oo 49 (.ext 1 42),
 oo 11 (.mov 48),
 oo 12 (.mov 49)])
 (.seq (.seq (.ops [oo 50 (.mov 8),
 oo 51 (.bin .neq 50 (kI 0)),
 oo 52 (.mov 51),
 ⟨(some 53),(some (52,false)),(.mov 10)⟩,
 ⟨(some 54),(some (52,false)),(.bin .neq 53 (kI 0))⟩,
 oo 55 (.pick 52 (kB true) 54),
 oo 56 (.mov 55),
 ⟨(some 57),(some (56,false)),(.mov 12)⟩,
 ⟨(some 58),(some (56,false)),(.bin .neq 57 (kI 0))⟩,
 oo 59 (.pick 56 (kB true) 58),
 oo 60 (.mov 59),
 ⟨(some 61),(some (60,false)),(.mov 7)⟩,
 ⟨(some 62),(some (60,false)),(.len false 61)⟩,
 ⟨(some 63),(some (60,false)),(.mov 6)⟩,
 ⟨(some 64),(some (60,false)),(.len false 63)⟩,
 ⟨(some 65),(some (60,false)),(.bin .neq 62 64)⟩,
 oo 66 (.pick 60 (kB true) 65),
 oo 67 (.mov 66),
 ⟨(some 68),(some (67,false)),(.mov 7)⟩,
 ⟨(some 70),(some (67,false)),(.ld 2 true 4)⟩,
 ⟨(some 69),(some (67,false)),(.callF 38 [68])⟩,
 ⟨none,(some (67,false)),(.chk 2 true 4 70)⟩,
 ⟨(some 71),(some (67,false)),(.callF 25 [70])⟩,
 ⟨(some 72),(some (67,false)),(.callF 26 [71,(kI 1125899906842624)])⟩,
 ⟨(some 73),(some (67,false)),(.bin .neq 69 72)⟩,
 oo 74 (.pick 67 (kB true) 73)])
 (.cnd 74
 (.seq (.ops [oo 2 (.mov (kB false))])
 .ret)
 .skip))
 (.seq (.seq (.ops [oo 13 (.mov (kI 0))])
 (.blk 0 (.loop (.seq (.seq (.ops [oo 75 (.mov 13),
 oo 76 (.mov 6),
 oo 77 (.len false 76),
 oo 78 (.bin .lss 75 77)])
 (.cnd 78
 .skip
 (.exit 0)))
 (.seq (.blk 1 (.seq (.ops [oo 81 (.mov 7),
 oo 82 (.mov 13),
 oo 83 (.ixA 1 81 82),
 oo 84 (.ld 1 false 83),
 oo 85 (.bin .lss 84 (kI 1)),
 oo 86 (.mov 85),
 ⟨(some 87),(some (86,false)),(.mov 13)⟩,
 ⟨(some 88),(some (86,false)),(.bin .gtr 87 (kI 0))⟩,
 ⟨(some 89),(some (86,false)),(.mov 88)⟩,
 ⟨(some 90),(some (89,true)),(.mov 6)⟩,
 ⟨(some 91),(some (89,true)),(.mov 13)⟩,
 ⟨(some 92),(some (89,true)),(.bin .sub 91 (kI 1))⟩,
 ⟨(some 93),(some (89,true)),(.ixA 1 90 92)⟩,
 ⟨(some 94),(some (89,true)),(.ld 1 false 93)⟩,
 ⟨(some 95),(some (89,true)),(.mov 6)⟩,
 ⟨(some 96),(some (89,true)),(.mov 13)⟩,
 ⟨(some 97),(some (89,true)),(.ixA 1 95 96)⟩,
 ⟨(some 98),(some (89,true)),(.ld 1 false 97)⟩,
 ⟨(some 99),(some (89,true)),(.callF 39 [94,98])⟩,
 ⟨(some 100),(some (89,true)),(.bin .geq 99 (kI 0))⟩,
 ⟨(some 101),(some (86,false)),(.pick 89 100 (kB false))⟩,
 oo 102 (.pick 86 (kB true) 101),
 oo 103 (.mov 102),
 ⟨(some 104),(some (103,false)),(.flA 0 5)⟩,
 ⟨(some 105),(some (103,false)),(.ld 1 false 104)⟩,
 ⟨(some 106),(some (103,false)),(.bin .eql 105 (kI 1))⟩,
 ⟨(some 107),(some (103,false)),(.mov 106)⟩,
 ⟨(some 108),(some (107,true)),(.mov 6)⟩,
 ⟨(some 109),(some (107,true)),(.mov 13)⟩,
 ⟨(some 110),(some (107,true)),(.ixA 1 108 109)⟩,
 ⟨(some 111),(some (107,true)),(.ld 1 false 110)⟩,
 ⟨(some 112),(some (107,true)),(.callF 45 [111])⟩,
 ⟨(some 113),(some (107,true)),(.bin .neq 112 (kI 0))⟩,
 ⟨(some 114),(some (103,false)),(.pick 107 113 (kB false))⟩,
 oo 115 (.pick 103 (kB true) 114)])
 (.cnd 115
 (.seq (.ops [oo 2 (.mov (kB false))])
 .ret)
 .skip)))
 (.ops [oo 79 (.mov 13),
 oo 80 (.bin .add 79 (kI 1)),
 oo 13 (.mov 80)]))))))
 (.seq (.ops [oo 117 (.ld 2 true 4),
 oo 118 (.ld 2 true 5),
 oo 119 (.mov 9),
 oo 120 (.callF 35 [117,118,119]),
 oo 116 (.mov 120),
 oo 121 (.ext 0 116),
 oo 122 (.ext 1 116),
 oo 14 (.mov 121),
 oo 15 (.mov 122)])
 (.seq (.ops [oo 124 (.ld 2 true 4),
 oo 125 (.ld 2 true 5),
 oo 126 (.mov 11),
 oo 127 (.callF 35 [124,125,126]),
 oo 123 (.mov 127),
 oo 128 (.ext 0 123),
 oo 129 (.ext 1 123),
 oo 16 (.mov 128),
 oo 17 (.mov 129)])
 (.seq (.ops [oo 131 (.ld 2 true 4),
 oo 132 (.bld [(.int .i64 0),(.int .i64 0)] [(0,1,(kI 3))]),
 oo 133 (.mov 9),
 oo 134 (.callF 35 [131,132,133]),
 oo 130 (.mov 134),
 oo 135 (.ext 0 130),
 oo 136 (.ext 1 130),
 oo 18 (.mov 135),
 oo 19 (.mov 136)])
 (.seq (.ops [oo 137 (.mov 15),
 oo 138 (.bin .eql 137 (kI 0)),
 oo 139 (.mov 138),
 ⟨(some 140),(some (139,true)),(.mov 17)⟩,
 ⟨(some 141),(some (139,true)),(.bin .eql 140 (kI 0))⟩,
 oo 142 (.pick 139 141 (kB false)),
 oo 143 (.mov 142),
 ⟨(some 144),(some (143,true)),(.mov 19)⟩,
 ⟨(some 145),(some (143,true)),(.bin .eql 144 (kI 0))⟩,
 oo 146 (.pick 143 145 (kB false)),
 oo 147 (.mov 146),
 ⟨(some 148),(some (147,true)),(.mov 6)⟩,
 ⟨(some 149),(some (147,true)),(.mov 14)⟩,
 ⟨(some 150),(some (147,true)),(.callF 29 [148,149])⟩,
 ⟨(some 151),(some (147,true)),(.bin .geq 150 (kI 0))⟩,
 oo 152 (.pick 147 151 (kB false)),
 oo 153 (.mov 152),
 ⟨(some 154),(some (153,true)),(.mov 6)⟩,
 ⟨(some 155),(some (153,true)),(.mov 16)⟩,
 ⟨(some 156),(some (153,true)),(.callF 29 [154,155])⟩,
 ⟨(some 157),(some (153,true)),(.bin .geq 156 (kI 0))⟩,
 oo 158 (.pick 153 157 (kB false)),
 oo 159 (.mov 158),
 ⟨(some 160),(some (159,true)),(.mov 18)⟩,
 ⟨(some 161),(some (159,true)),(.mov 9)⟩,
 ⟨(some 162),(some (159,true)),(.callF 24 [160,161])⟩,
 oo 163 (.pick 159 162 (kB false)),
 oo 164 (.mov 163),
 ⟨(some 165),(some (164,true)),(.mov 9)⟩,
 ⟨(some 166),(some (164,true)),(.mov 11)⟩,
 ⟨(some 167),(some (164,true)),(.callF 24 [165,166])⟩,
 ⟨(some 168),(some (164,true)),(.not 167)⟩,
 ⟨(some 169),(some (164,true)),(.mov 168)⟩,
 ⟨(some 170),(some (169,false)),(.mov 14)⟩,
 ⟨(some 171),(some (169,false)),(.mov 16)⟩,
 ⟨(some 172),(some (169,false)),(.callF 24 [170,171])⟩,
 ⟨(some 173),(some (164,true)),(.pick 169 (kB true) 172)⟩,
 oo 174 (.pick 164 173 (kB false)),
 oo 175 (.mov 174),
 ⟨(some 176),(some (175,true)),(.callF 13 [])⟩,
 oo 177 (.pick 175 176 (kB false)),
 oo 2 (.mov 177)])
 .ret)))))))))))))⟩
def hint11 (P:Program):Hint:={}
theorem gameAnswers_c (nums:List Int) (hn:nums.length<2^62):Fn0 Try.prog 11 [.slc 1 (iR nums) .non] (fun v=>v= .bool true):=by
 refine RawC.walk (H:=hint11 Try.prog) ir11 Try.func11 rfl rfl rfl ?_
 unfold ir11
 repeat' (first
  | with_reducible (first | refine Rd.p ?_ | refine w_alt ?_ ?_ | refine zE ?_ | refine zE0 ?_)
  | with_reducible (first | refine zI fun y hy=>?_ | refine zL ?_ | refine zS ?_ | refine zA fun _=>?_ | refine zV ?_ | refine zC ?_ | refine zG ?_ | refine zU ?_ | refine zG0 ?_ | refine zU0 ?_ | refine zF ?_)
  | ((with_reducible refine acall_id ?_);refine ACall.liftS (boxOf_s nums hn) [] (some 6) rfl rfl rfl trivial (fun _=>rfl) ?_;rintro⟨gb,w⟩ _ rfl)
  | ((with_reducible refine acall_id ?_);refine ACall.box (gameOf_c _ _ 4 5 6 (by decide) (by decide) (by decide)) rfl rfl rfl ?_;rintro _ _ ⟨G,rfl,hm⟩)
  | ((with_reducible refine acall_id ?_);refine ACall.box (askOf_c _ _ _ hm.n1 (by have:=hm.n2;omega)) rfl rfl rfl ?_;rintro _ _ ⟨a,rfl,ha⟩)
  | with_reducible (first | refine zX ?_ | refine zD fun _=>?_ | refine zD0 ?_ | refine zN ?_ | refine zF0 ?_ | refine zX0 ?_ | refine z1 ?_ | refine z2 ?_ | refine z3 ?_ | refine z4 ?_ | refine z5 ?_ | refine z6 ?_ | refine z7 ?_ | refine z8 ?_ | refine y1 ?_ | refine y2 ?_ | refine y3 ?_ | refine y4 ?_ | refine y5 ?_ | refine y6 ?_ | refine y7 ?_ | refine y8 ?_ | refine Rt.p (fun _=>?_) fun _=>?_)
  | ((with_reducible apply w_ixM);(focus exact rfl);(focus exact rfl);case' hk=>intro y hy) | ((with_reducible (first | apply w_val | apply q_ends));(focus exact rfl)))
 have h0:=hm.e
 have hG:=gm_ok h0
 have hn4:(G.ws.length:Int)≤4:=hm.n2
 have hd24:=hm.d
 have hcn:=hG.cen
 have hws:∀w∈G.ws,w.name.size≤1000:=fun w hw=>by have:=(madeW_ok hm.w).2 w hw;omega
 have hcr:=made_crs (a:=4) (b:=6) hm (by decide) (by decide) (by decide)
 have hSz:=Sizes_c G hG
 have hsb:=szL_bd tb0_in hG.ex
 have hsl:=szL_288 hG
 have hsum:=crsG_sum hG
 have hall:=allW_bd hG
 have hszp:allW G=prodI (szL (stepsG G.ds) tb0.bags):=szP_prod _ _
 have hmem:=fun c=>crsG_mem hG (c:=c)
 obtain⟨b1,b2⟩:=crsO_bd G
 rw[hcr] at b1
 dsimp only at b1
 obtain⟨q1,q2,q3,q4,_,q6⟩:=ans_fold (dueF G a) (crsG G) [] (fun c hc=>by obtain⟨_,h3,h4⟩:=(hmem c).1 hc;omega) List.Pairwise.nil (fun y hy=>by cases hy)
 have hA:ansO G a=(ansL (dueF G a) (crsG G),0):=by unfold ansO;rw[if_pos h0,if_pos ha,hcr];rfl
 have hAns:=Answers_c G a (by omega) (by omega) hws
 rw[hA] at hAns
 obtain⟨A,hAe⟩:∃A,ansL (dueF G a) (crsG G)=A:=⟨_,rfl⟩
 have hAf:(crsG G).foldl (fun A c=>ansI (dueF G a c.1) c.2 A) []=A:=hAe
 rw[hAf] at q1 q2 q3 q4 q6
 rw[hAe,show anA (A,0)=AV.tup [.slc 1 (llR (A.map (·.1))) .non,.slc 1 (iR (A.map (·.2))) .non,.int .i64 0] from rfl] at hAns
 have hsA:sumA A=allW G:=by rw[q3,hsum];show (0:Int)+_=_;omega
 have hAl:A.length≤5000:=by
  have key:∀(l A0:List (List Int×Int)),(l.foldl (fun A c=>ansI (dueF G a c.1) c.2 A) A0).length≤A0.length+l.length:=by
   intro l
   induction l with
   | nil=>intro A0;exact Nat.le_refl _
   | cons c l ih=>
     intro A0
     have h1:=ih (ansI (dueF G a c.1) c.2 A0)
     have h2:=(ansI_len (dueF G a c.1) c.2 A0).1
     rw[List.foldl_cons,List.length_cons];omega
  have:=key (crsG G) []
  rw[hAf] at this
  have hz:([]:List (List Int×Int)).length=0:=rfl
  omega
 have hAy:∀y∈A,y.1.length<1000000∧(a.kind=1→1≤y.1.length∧y.1.length≤9∧rgI 0 y.1):=fun y hy=>by
  rcases q4 y hy with h | ⟨c,hc,he⟩
  · cases h
  obtain⟨⟨g1,g2⟩,_⟩:=(hmem c).1 hc
  have hdl:=dueF_len G a c.1
  rw[he]
  refine⟨by omega,fun hk=>?_⟩
  have:dueF G a c.1=numF [] c.1:=by unfold dueF;rw[if_pos hk]
  rw[this,numF_len]
  exact⟨by omega,by omega,numF_rg c.1 []⟩
 have hDue:=fun (a:Aq) (c:List Int) (hc:(c,cwG G c)∈crsG G) (ha:askErr G.ws.length a=0)=>Due_c G a c h0 ha hws ((hmem _).1 hc).1.1 ((hmem _).1 hc).1.2
 have hnm:∀c,dueF G ⟨3,0⟩ c=c:=fun c=>rfl
 have hmA:∀y∈A.map (·.1),y.length<1000000:=fun y hy=>by
  obtain⟨z,hz,rfl⟩:=List.mem_map.1 hy
  exact (hAy z hz).1
 have hLA:(A.map (·.1)).length=A.length:=List.length_map _
 have hLW:(A.map (·.2)).length=A.length:=List.length_map _
 obtain⟨S,hS⟩:∃S,szL (stepsG G.ds) tb0.bags=S:=⟨_,rfl⟩
 have hT:=times_c S 1125899906842624 (by rw[←hS];omega) (by decide) fun s hs=>by have:=hsb s (by rw[hS];exact hs);omega
 have hTp:timF 1125899906842624 1 S=allW G:=by
  rw[hszp,hS,timF_prod (fun s hs=>(hsb s (by rw[hS];exact hs)).1) (by decide) (by rw[←hS,←hszp];omega)];omega
 rw[hTp] at hT
 rw[hS] at hSz
 have hsm:=sumL_c (A.map (·.2)) (by omega) (fun s hs=>by obtain⟨z,hz,rfl⟩:=List.mem_map.1 hs;have:=q2 z hz;omega) (by rw[sumA_sum,hsA];omega)
 rw[sumA_sum,hsA] at hsm
 repeat' (first
  | with_reducible (first | refine Rd.p ?_ | refine w_alt ?_ ?_ | refine zE ?_ | refine zE0 ?_)
  | with_reducible (first | refine zI fun y hy=>?_ | refine zL ?_ | refine zS ?_ | refine zA fun _=>?_ | refine zV ?_ | refine zC ?_ | refine zG ?_ | refine zU ?_ | refine zG0 ?_ | refine zU0 ?_ | refine zF ?_)
  | ((with_reducible refine acall_id ?_);refine ACall.val hAns rfl rfl ?_)
  | ((with_reducible refine acall_id ?_);refine ACall.box (picksOf_c _ _ G h0) rfl rfl rfl ?_;rintro _ _ ⟨ps,rfl,hps⟩)
  | with_reducible (first | refine zX ?_ | refine zD fun _=>?_ | refine zD0 ?_ | refine zN ?_ | refine zF0 ?_ | refine zX0 ?_ | refine z1 ?_ | refine z2 ?_ | refine z3 ?_ | refine z4 ?_ | refine z5 ?_ | refine z6 ?_ | refine z7 ?_ | refine z8 ?_ | refine y1 ?_ | refine y2 ?_ | refine y3 ?_ | refine y4 ?_ | refine y5 ?_ | refine y6 ?_ | refine y7 ?_ | refine y8 ?_ | refine Rt.p (fun _=>?_) fun _=>?_)
  | ((with_reducible apply w_ixM);(focus exact rfl);(focus exact rfl);case' hk=>intro y hy) | ((with_reducible (first | apply w_val | apply q_ends));(focus exact rfl)))
 obtain⟨x,hx1,_,hx3⟩:=play_crs h0 hps
 have hPx:=Play_c G ps (by omega) (by omega) hws (by rw[(allP_mem.1 hps).1];omega)
 rw[hx1,show plA (x,0)=AV.tup [.slc 1 (iR x) .non,.int .i64 0] from rfl] at hPx
 repeat' (first
  | with_reducible (first | refine Rd.p ?_ | refine w_alt ?_ ?_ | refine zE ?_ | refine zE0 ?_)
  | with_reducible (first | refine zI fun y hy=>?_ | refine zL ?_ | refine zS ?_ | refine zA fun _=>?_ | refine zV ?_ | refine zC ?_ | refine zG ?_ | refine zU ?_ | refine zG0 ?_ | refine zU0 ?_ | refine zF ?_)
  | ((with_reducible refine acall_id ?_);refine ACall.val hPx rfl rfl ?_)
  | ((with_reducible refine acall_id ?_);refine ACall.box (picksOf_c _ _ G h0) rfl rfl rfl ?_;rintro _ _ ⟨ps2,rfl,hps2⟩)
  | with_reducible (first | refine zX ?_ | refine zD fun _=>?_ | refine zD0 ?_ | refine zN ?_ | refine zF0 ?_ | refine zX0 ?_ | refine z1 ?_ | refine z2 ?_ | refine z3 ?_ | refine z4 ?_ | refine z5 ?_ | refine z6 ?_ | refine z7 ?_ | refine z8 ?_ | refine y1 ?_ | refine y2 ?_ | refine y3 ?_ | refine y4 ?_ | refine y5 ?_ | refine y6 ?_ | refine y7 ?_ | refine y8 ?_ | refine Rt.p (fun _=>?_) fun _=>?_)
  | ((with_reducible apply w_ixM);(focus exact rfl);(focus exact rfl);case' hk=>intro y hy) | ((with_reducible (first | apply w_val | apply q_ends));(focus exact rfl)))
 obtain⟨y,hy1,_,hy3⟩:=play_crs h0 hps2
 have hPy:=Play_c G ps2 (by omega) (by omega) hws (by rw[(allP_mem.1 hps2).1];omega)
 rw[hy1,show plA (y,0)=AV.tup [.slc 1 (iR y) .non,.int .i64 0] from rfl] at hPy
 repeat' (first
  | with_reducible (first | refine Rd.p ?_ | refine w_alt ?_ ?_ | refine zE ?_ | refine zE0 ?_)
  | with_reducible (first | refine zI fun y hy=>?_ | refine zL ?_ | refine zS ?_ | refine zA fun _=>?_ | refine zV ?_ | refine zC ?_ | refine zG ?_ | refine zU ?_ | refine zG0 ?_ | refine zU0 ?_ | refine zF ?_)
  | ((with_reducible refine acall_id ?_);refine ACall.val hPy rfl rfl ?_)
  | ((with_reducible refine acall_id ?_);refine ACall.val hsm rfl rfl ?_)
  | ((with_reducible refine acall_id ?_);refine ACall.val hSz rfl rfl ?_)
  | ((with_reducible refine acall_id ?_);refine ACall.val hT rfl rfl ?_)
  | with_reducible (first | refine zX ?_ | refine zD fun _=>?_ | refine zD0 ?_ | refine zN ?_ | refine zF0 ?_ | refine zX0 ?_ | refine z1 ?_ | refine z2 ?_ | refine z3 ?_ | refine z4 ?_ | refine z5 ?_ | refine z6 ?_ | refine z7 ?_ | refine z8 ?_ | refine y1 ?_ | refine y2 ?_ | refine y3 ?_ | refine y4 ?_ | refine y5 ?_ | refine y6 ?_ | refine y7 ?_ | refine y8 ?_ | refine Rt.p (fun _=>?_) fun _=>?_)
  | ((with_reducible apply w_ixM);(focus exact rfl);(focus exact rfl);case' hk=>intro y hy) | ((with_reducible (first | apply w_val | apply q_ends));(focus exact rfl)))
 all_goals try (exfalso;omega)
 refine w_loopK [4,5,6,7,9,11,140,141,144,145,148,149,150,151,154,155,156,157,160,161,162,165,166,167,168,169,170,171,172,173,176] [4,5] (fun z:List (List Int×Int)×List (List Int×Int)=>A=z.1++z.2) (fun z=>z.2.length) (fun z=>[(13,.int .i64 (z.1.length:Int))]) (fun _=>[]) ([],A) rfl ⟨rfl,trivial⟩ trivial ?_
 rintro⟨pre,post⟩ hl e σ
 dsimp only at hl ⊢
 have hlen:=congrArg List.length hl
 rw[List.length_append] at hlen
 cases post with
 | nil=>
   simp only[List.length_nil] at hlen
   have hD1:=hDue a x hx3 ha
   have hD2:=hDue a y hy3 ha
   have hD3:=hDue ⟨3,0⟩ x hx3 rfl
   rw[hnm] at hD3
   have hpl:=fun z=>place_c (A.map (·.1)) z (by omega) hmA
   obtain⟨k1,_,hk1⟩:=plcI_mem (k:=0) (q6 _ hx3)
   obtain⟨k2,_,hk2⟩:=plcI_mem (k:=0) (q6 _ hy3)
   have hP1:=hpl (dueF G a x)
   have hP2:=hpl (dueF G a y)
   dsimp only at hk1 hk2
   rw[hk1] at hP1
   rw[hk2] at hP2
   have hx9:=((hmem _).1 hx3).1.1
   have hE1:=eq_c x x (by dsimp only at hx9;omega)
   rw[decide_eq_true rfl] at hE1
   have hE2:=eq_c x y (by dsimp only at hx9;omega)
   have hE3:=eq_c (dueF G a x) (dueF G a y) (by have:=dueF_len G a x;dsimp only at hx9;omega)
   by_cases hxy:x=y
   · subst hxy
     rw[decide_eq_true rfl] at hE3
     repeat' (first
      | with_reducible (first | refine Rd.p ?_ | refine w_alt ?_ ?_ | refine zE ?_ | refine zE0 ?_)
      | with_reducible (first | refine zI fun y hy=>?_ | refine zL ?_ | refine zS ?_ | refine zA fun _=>?_ | refine zV ?_ | refine zC ?_ | refine zG ?_ | refine zU ?_ | refine zG0 ?_ | refine zU0 ?_ | refine zF ?_)
      | ((with_reducible refine acall_id ?_);refine ACall.val hD1 rfl rfl ?_)
      | ((with_reducible refine acall_id ?_);refine ACall.val hD3 rfl rfl ?_)
      | ((with_reducible refine acall_id ?_);refine ACall.val hP1 rfl rfl ?_)
      | ((with_reducible refine acall_id ?_);refine ACall.val hE1 rfl rfl ?_)
      | ((with_reducible refine acall_id ?_);refine ACall.val hE3 rfl rfl ?_)
      | ((with_reducible refine acall_id ?_);refine ACall.val awake_c rfl rfl ?_)
      | with_reducible (first | refine zX ?_ | refine zD fun _=>?_ | refine zD0 ?_ | refine zN ?_ | refine zF0 ?_ | refine zX0 ?_ | refine z1 ?_ | refine z2 ?_ | refine z3 ?_ | refine z4 ?_ | refine z5 ?_ | refine z6 ?_ | refine z7 ?_ | refine z8 ?_ | refine y1 ?_ | refine y2 ?_ | refine y3 ?_ | refine y4 ?_ | refine y5 ?_ | refine y6 ?_ | refine y7 ?_ | refine y8 ?_ | refine Rt.p (fun _=>?_) fun _=>?_)
      | ((with_reducible apply w_ixM);(focus exact rfl);(focus exact rfl);case' hk=>intro y hy) | ((with_reducible (first | apply w_val | apply q_ends));(focus exact rfl)))
     all_goals first
      | (exfalso;omega)
      | rfl
   · rw[decide_eq_false hxy] at hE2
     repeat' (first
      | with_reducible (first | refine Rd.p ?_ | refine w_alt ?_ ?_ | refine zE ?_ | refine zE0 ?_)
      | with_reducible (first | refine zI fun y hy=>?_ | refine zL ?_ | refine zS ?_ | refine zA fun _=>?_ | refine zV ?_ | refine zC ?_ | refine zG ?_ | refine zU ?_ | refine zG0 ?_ | refine zU0 ?_ | refine zF ?_)
      | ((with_reducible refine acall_id ?_);refine ACall.val hD1 rfl rfl ?_)
      | ((with_reducible refine acall_id ?_);refine ACall.val hD2 rfl rfl ?_)
      | ((with_reducible refine acall_id ?_);refine ACall.val hD3 rfl rfl ?_)
      | ((with_reducible refine acall_id ?_);refine ACall.val hP1 rfl rfl ?_)
      | ((with_reducible refine acall_id ?_);refine ACall.val hP2 rfl rfl ?_)
      | ((with_reducible refine acall_id ?_);refine ACall.val hE1 rfl rfl ?_)
      | ((with_reducible refine acall_id ?_);refine ACall.val hE2 rfl rfl ?_)
      | ((with_reducible refine acall_id ?_);refine ACall.val awake_c rfl rfl ?_)
      | with_reducible (first | refine zX ?_ | refine zD fun _=>?_ | refine zD0 ?_ | refine zN ?_ | refine zF0 ?_ | refine zX0 ?_ | refine z1 ?_ | refine z2 ?_ | refine z3 ?_ | refine z4 ?_ | refine z5 ?_ | refine z6 ?_ | refine z7 ?_ | refine z8 ?_ | refine y1 ?_ | refine y2 ?_ | refine y3 ?_ | refine y4 ?_ | refine y5 ?_ | refine y6 ?_ | refine y7 ?_ | refine y8 ?_ | refine Rt.p (fun _=>?_) fun _=>?_)
      | ((with_reducible apply w_ixM);(focus exact rfl);(focus exact rfl);case' hk=>intro y hy) | ((with_reducible (first | apply w_val | apply q_ends));(focus exact rfl)))
     all_goals first
      | (exfalso;omega)
      | rfl
 | cons z post=>
   simp only[List.length_cons] at hlen
   have hzA:z∈A:=by rw[hl];simp
   have hz2:=q2 z hzA
   obtain⟨hz3,hz4⟩:=hAy z hzA
   have hzb:=sumA_mem q2 pre.length
   have hzg:(A.map (·.2)).getD pre.length 0=z.2:=by
    rw[hl,List.map_append,List.map_cons]
    have:=mid_get (pre.map (·.2)) z.2 (post.map (·.2))
    rw[List.length_map] at this;exact this
   rw[hzg,hsA] at hzb
   have hCk:a.kind=1→_:=fun hk=>chartCheck_c z.1 (hz4 hk).1 (hz4 hk).2.1 (hz4 hk).2.2
   have hW:A.map (·.2)=pre.map (·.2)++z.2::post.map (·.2):=by rw[hl,List.map_append,List.map_cons]
   have hL:A.map (·.1)=pre.map (·.1)++z.1::post.map (·.1):=by rw[hl,List.map_append,List.map_cons]
   rcases List.eq_nil_or_concat pre with rfl | ⟨pre',u,rfl⟩
   · have hz:([]:List (List Int×Int)).length=0:=rfl
     repeat' (first
      | with_reducible (first | refine Rd.p ?_ | refine w_alt ?_ ?_ | refine zE ?_ | refine zE0 ?_)
      | (first | refine w_ixP (f:=fun x:Int=>[AV.int .i64 x]) hW rfl rfl ?_ | refine w_ixP hL rfl rfl ?_)
      | with_reducible (first | refine zI fun y hy=>?_ | refine zL ?_ | refine zS ?_ | refine zA fun _=>?_ | refine zV ?_ | refine zC ?_ | refine zG ?_ | refine zU ?_ | refine zG0 ?_ | refine zU0 ?_ | refine zF ?_)
      | ((with_reducible refine acall_id ?_);(refine ACall.val (hCk (by assumption)) rfl rfl ?_))
      | with_reducible (first | refine zX ?_ | refine zD fun _=>?_ | refine zD0 ?_ | refine zN ?_ | refine zF0 ?_ | refine zX0 ?_ | refine z1 ?_ | refine z2 ?_ | refine z3 ?_ | refine z4 ?_ | refine z5 ?_ | refine z6 ?_ | refine z7 ?_ | refine z8 ?_ | refine y1 ?_ | refine y2 ?_ | refine y3 ?_ | refine y4 ?_ | refine y5 ?_ | refine y6 ?_ | refine y7 ?_ | refine y8 ?_ | refine Rt.p (fun _=>?_) fun _=>?_)
      | ((with_reducible apply w_ixM);(focus exact rfl);(focus exact rfl);case' hk=>intro y hy) | ((with_reducible (first | apply w_val | apply q_ends));(focus exact rfl)))
     all_goals first
      | (exfalso;omega)
      | exact q_loop ([z],post) hl (Nat.lt_succ_self _) ⟨rfl,trivial⟩ (by repeat' (first | exact slots_nil | apply slots_cons | rfl | (rw[map_snoc];rfl) | (rw[len_snoc];rfl) | (rw[hS];rfl) | (rw[hS,map_snoc];rfl) | (refine int_eq ?_;(try dsimp only);omega) | (refine congrArg AV.bool ?_;simp_all;done))) (by repeat' (first | exact kept_nil | apply kept_cons | rfl)) (by repeat' (first | exact kept_nil | apply kept_cons | rfl))
   · simp only[List.concat_eq_append] at hl hW hL hlen ⊢
     rw[len_snoc] at hlen ⊢
     have huA:u∈A:=by rw[hl];simp
     have hL':A.map (·.1)=pre'.map (·.1)++u.1::z.1::post.map (·.1):=by rw[hl];simp
     have hi1:((pre'.length+1:Nat):Int)=((pre'++[u]).map (·.2)).length:=by rw[List.length_map,len_snoc]
     have hi2:((pre'.length+1:Nat):Int)=((pre'++[u]).map (·.1)).length:=by rw[List.length_map,len_snoc]
     have hi3:((pre'.length+1:Nat):Int)-1=(pre'.map (·.1)).length:=by rw[List.length_map];omega
     have hB:=befr_c u.1 z.1 (hAy u huA).1 hz3
     have hBn:befF u.1 z.1<0:=befF_neg (by
      have h1:=q1
      unfold srtA at h1
      rw[hl,List.append_assoc,List.pairwise_append] at h1
      have h2:=h1.2.1
      exact (List.pairwise_cons.1 h2).1 z (by simp))
     repeat' (first
      | with_reducible (first | refine Rd.p ?_ | refine w_alt ?_ ?_ | refine zE ?_ | refine zE0 ?_)
      | (first | refine w_ixP (f:=fun x:Int=>[AV.int .i64 x]) hW rfl (congrArg (AV.int .i64) hi1) ?_ | refine w_ixP hL rfl (congrArg (AV.int .i64) hi2) ?_ | refine w_ixP hL' rfl (congrArg (AV.int .i64) hi3) ?_)
      | with_reducible (first | refine zI fun y hy=>?_ | refine zL ?_ | refine zS ?_ | refine zA fun _=>?_ | refine zV ?_ | refine zC ?_ | refine zG ?_ | refine zU ?_ | refine zG0 ?_ | refine zU0 ?_ | refine zF ?_)
      | ((with_reducible refine acall_id ?_);refine ACall.val hB rfl rfl ?_)
      | ((with_reducible refine acall_id ?_);(refine ACall.val (hCk (by assumption)) rfl rfl ?_))
      | with_reducible (first | refine zX ?_ | refine zD fun _=>?_ | refine zD0 ?_ | refine zN ?_ | refine zF0 ?_ | refine zX0 ?_ | refine z1 ?_ | refine z2 ?_ | refine z3 ?_ | refine z4 ?_ | refine z5 ?_ | refine z6 ?_ | refine z7 ?_ | refine z8 ?_ | refine y1 ?_ | refine y2 ?_ | refine y3 ?_ | refine y4 ?_ | refine y5 ?_ | refine y6 ?_ | refine y7 ?_ | refine y8 ?_ | refine Rt.p (fun _=>?_) fun _=>?_)
      | ((with_reducible apply w_ixM);(focus exact rfl);(focus exact rfl);case' hk=>intro y hy) | ((with_reducible (first | apply w_val | apply q_ends));(focus exact rfl)))
     all_goals first
      | (exfalso;omega)
      | exact q_loop (pre'++[u]++[z],post) (by show A=_;rw[hl];simp) (Nat.lt_succ_self _) ⟨by rw[len_snoc,len_snoc];rfl,trivial⟩ (by repeat' (first | exact slots_nil | apply slots_cons | rfl | (rw[map_snoc];rfl) | (rw[len_snoc];rfl) | (rw[hS];rfl) | (rw[hS,map_snoc];rfl) | (refine int_eq ?_;(try dsimp only);omega) | (refine congrArg AV.bool ?_;simp_all;done))) (by repeat' (first | exact kept_nil | apply kept_cons | rfl)) (by repeat' (first | exact kept_nil | apply kept_cons | rfl))
end Go.Abs
