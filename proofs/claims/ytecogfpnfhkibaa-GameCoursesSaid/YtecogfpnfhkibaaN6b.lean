/- A part of the proofs of the laws of this seat: contracts of the functions that they reach, each proved of the program's form in Lean. No condition beyond those that each contract names. -/
import Derived.Test.YtecogfpnfhkibaaProg
import Derived.Test.YtecogfpnfhkibaaSnd3
import Derived.Test.YtecogfpnfhkibaaA0
import Derived.Test.YtecogfpnfhkibaaN1a
import Derived.Test.YtecogfpnfhkibaaN1b
import Derived.Test.YtecogfpnfhkibaaN1c
import Derived.Test.YtecogfpnfhkibaaN1d
import Derived.Test.YtecogfpnfhkibaaN1e
import Derived.Test.YtecogfpnfhkibaaN1f
import Derived.Test.YtecogfpnfhkibaaN1g
import Derived.Test.YtecogfpnfhkibaaN2a
import Derived.Test.YtecogfpnfhkibaaN2b
import Derived.Test.YtecogfpnfhkibaaN2c
import Derived.Test.YtecogfpnfhkibaaN4a
import Derived.Test.YtecogfpnfhkibaaN6a
set_option linter.unusedVariables false
set_option linter.unusedSimpArgs false
set_option maxRecDepth 20000
set_option maxHeartbeats 4000000
namespace Go.Abs
open Go.Proofs
theorem rCourses_c (G:Gm) (hw:G.ws.length<1000) (hd:G.ds.length<1000) (hs:∀w∈G.ws,w.name.size≤1000):Fn0 Try.prog 22 [gmA G] (fun v=>v=crsA (crsO G).1 (crsO G).2):=by
 have hck:=gRefCheck_c G hw hd hs
 obtain⟨B,hB⟩:∃B,crsO G=B:=⟨_,rfl⟩
 rw[hB]
 unfold crsO at hB
 by_cases h0:gmErr G=0
 rotate_left
 · rw[if_neg h0] at hB
   subst hB
   refine RawC.walk (H:=hint22 Try.prog) ir22 Try.func22 rfl rfl rfl ?_
   unfold ir22
   repeat' (first
    | refine advE ?_ | with_reducible refine w_alt ?_ ?_
    | with_reducible refine zI fun y hy=>?_ | refine advL ?_
    | ((with_reducible refine acall_id ?_);refine ACall.val hck rfl rfl ?_)
    | refine adv ?_ | with_reducible (first | intro _ | refine Rt.p (fun _=>?_) fun _=>?_)
    | ((with_reducible apply w_ixM);(focus exact rfl);(focus exact rfl);case' hk=>intro y hy) | ((with_reducible (first | apply w_val | apply q_ends));(focus exact rfl)))
   all_goals first
    | (exfalso;omega)
    | (simp;done)
    | rfl
 rw[if_pos h0] at hB
 have hG:=gm_ok h0
 rw[h0] at hck
 have hac:=acts_c G hG.d24 hG.cnt
 have hcen:=Censers_c G hG.d24 hG.cnt
 have hal:=acts_len G.ds hG.cnt
 have hd24:=hG.d24
 have hcs:=crsR_crsG hG
 obtain⟨k,hk⟩:∃k,censG (stepsG G.ds)=([]:List Int).length+(k+1):=⟨censG (stepsG G.ds)-1,by have:=hG.cen;simp;omega⟩
 have hc9:=hG.cen.2
 rw[hk] at hcen hcs hc9
 have H:goH G (actsF G.ds) tb0.bags tb0.mixed:=⟨hG.n6,tb0_in,run_acts hG,bgT0 _,by omega⟩
 have hgo:=fun g=>goOn1 G (actsF G.ds) tb0.bags tb0.mixed H k [] .nsl (.inl ⟨rfl,rfl⟩) (by omega) [] (by simp) g 0 0
 have hX:goO G.ws.length (actsF G.ds) (k+1) [] []=(crsG G).take 5001:=by
  unfold goO
  rw[←hcs]
  show[]++_=_
  rw[List.nil_append,show ([]:List Int).length+(k+1)=k+1 by simp];rfl
 rw[hX] at hgo
 obtain⟨X,hX2⟩:∃X,(crsG G).take 5001=X:=⟨_,rfl⟩
 rw[hX2] at hgo
 have hXl:=congrArg List.length hX2
 rw[List.length_take] at hXl
 by_cases h5:(crsG G).length≤5000
 · rw[if_pos h5] at hB
   rw[List.take_of_length_le (by omega)] at hX2
   rw[hX2] at hB
   subst hB
   cases X with
   | nil=>
     refine RawC.walk (H:=hint22 Try.prog) ir22 Try.func22 rfl rfl rfl ?_
     unfold ir22
     repeat' (first
      | refine advE ?_ | with_reducible refine w_alt ?_ ?_
      | with_reducible refine zI fun y hy=>?_ | refine advL ?_
      | ((with_reducible refine acall_id ?_);refine ACall.val hck rfl rfl ?_)
      | ((with_reducible refine acall_id ?_);refine ACall.val hac rfl rfl ?_)
      | ((with_reducible refine acall_id ?_);refine ACall.val hcen rfl rfl ?_)
      | ((with_reducible refine acall_id ?_);(refine ACall.so (C:=fun y=>y=[]) (p:=18) (s0:=2001) (hgo _) (by decide) (by decide) rfl rfl rfl rfl rfl rfl rfl rfl rfl rfl rfl rfl rfl rfl rfl rfl ?_;rintro _ k1 k2 av rfl))
      | refine adv ?_ | with_reducible (first | intro _ | refine Rt.p (fun _=>?_) fun _=>?_)
      | ((with_reducible apply w_ixM);(focus exact rfl);(focus exact rfl);case' hk=>intro y hy) | ((with_reducible (first | apply w_val | apply q_ends));(focus exact rfl)))
     all_goals first
      | (exfalso;omega)
      | (simp;done)
      | rfl
   | cons x l=>
     have hl1:((x::l).map (·.1)).length=(x::l).length:=List.length_map _
     refine RawC.walk (H:=hint22 Try.prog) ir22 Try.func22 rfl rfl rfl ?_
     unfold ir22
     repeat' (first
      | refine advE ?_ | with_reducible refine w_alt ?_ ?_
      | with_reducible refine zI fun y hy=>?_ | refine advL ?_
      | ((with_reducible refine acall_id ?_);refine ACall.val hck rfl rfl ?_)
      | ((with_reducible refine acall_id ?_);refine ACall.val hac rfl rfl ?_)
      | ((with_reducible refine acall_id ?_);refine ACall.val hcen rfl rfl ?_)
      | ((with_reducible refine acall_id ?_);(refine ACall.so (C:=fun y=>y=x::l) (p:=18) (s0:=2001) (hgo _) (by decide) (by decide) rfl rfl rfl rfl rfl rfl rfl rfl rfl rfl rfl rfl rfl rfl rfl rfl ?_;rintro _ k1 k2 av rfl))
      | refine adv ?_ | with_reducible (first | intro _ | refine Rt.p (fun _=>?_) fun _=>?_)
      | ((with_reducible apply w_ixM);(focus exact rfl);(focus exact rfl);case' hk=>intro y hy) | ((with_reducible (first | apply w_val | apply q_ends));(focus exact rfl)))
     all_goals first
      | (exfalso;omega)
      | (simp;done)
      | rfl
 · rw[if_neg h5] at hB
   subst hB
   cases X with
   | nil=>rw[List.length_nil] at hXl;omega
   | cons x l=>
     have hl1:((x::l).map (·.1)).length=(x::l).length:=List.length_map _
     refine RawC.walk (H:=hint22 Try.prog) ir22 Try.func22 rfl rfl rfl ?_
     unfold ir22
     repeat' (first
      | refine advE ?_ | with_reducible refine w_alt ?_ ?_
      | with_reducible refine zI fun y hy=>?_ | refine advL ?_
      | ((with_reducible refine acall_id ?_);refine ACall.val hck rfl rfl ?_)
      | ((with_reducible refine acall_id ?_);refine ACall.val hac rfl rfl ?_)
      | ((with_reducible refine acall_id ?_);refine ACall.val hcen rfl rfl ?_)
      | ((with_reducible refine acall_id ?_);(refine ACall.so (C:=fun y=>y=x::l) (p:=18) (s0:=2001) (hgo _) (by decide) (by decide) rfl rfl rfl rfl rfl rfl rfl rfl rfl rfl rfl rfl rfl rfl rfl rfl ?_;rintro _ k1 k2 av rfl))
      | refine adv ?_ | with_reducible (first | intro _ | refine Rt.p (fun _=>?_) fun _=>?_)
      | ((with_reducible apply w_ixM);(focus exact rfl);(focus exact rfl);case' hk=>intro y hy) | ((with_reducible (first | apply w_val | apply q_ends));(focus exact rfl)))
     all_goals first
      | (exfalso;omega)
      | (simp;done)
      | rfl
def ir4:IFn:=
 ⟨73,[(4,none)],(.seq (.ops [oo 2 (.box 2 0),
 oo 4 (.mov (kB false))])
 (.seq (.seq (.ops [oo 14 (.ld 2 true 2),
 oo 15 (.callF 12 [14])])
 (.cnd 15
 (.seq (.ops [oo 16 (.callF 13 []),
 oo 4 (.mov 16)])
 .ret)
 .skip))
 (.seq (.ops [oo 17 (.ld 2 true 2),
 oo 18 (.mov 1),
 oo 19 (.callF 15 [18]),
 ⟨none,none,(.chk 2 true 2 17)⟩,
 oo 20 (.callF 14 [19,(kI 4),(kI 6),(kI 6)]),
 ⟨none,none,(.chk 2 true 2 17)⟩,
 oo 21 (.bsl 2 [[.nsl,.nsl],[.nsl,.nsl]] [(0,17),(1,20)]),
 oo 5 (.mov 21)])
 (.seq (.seq (.ops [oo 6 (.mov (kI 0))])
 (.blk 0 (.loop (.seq (.seq (.ops [oo 22 (.mov 6),
 oo 23 (.mov 5),
 oo 24 (.len false 23),
 oo 25 (.bin .lss 22 24)])
 (.cnd 25
 .skip
 (.exit 0)))
 (.seq (.blk 1 (.seq (.ops [oo 28 (.mov 5),
 oo 29 (.mov 6),
 oo 30 (.ixA 2 28 29),
 oo 31 (.ld 2 true 30),
 oo 32 (.callF 17 [31]),
 oo 7 (.new [.nsl,.nsl]),
 ⟨none,none,(.st 2 7 32)⟩])
 (.seq (.ops [oo 34 (.ld 2 true 7),
 oo 35 (.callF 21 [34]),
 oo 33 (.mov 35),
 oo 36 (.ext 0 33),
 oo 37 (.ext 1 33),
 oo 38 (.ext 2 33),
 oo 8 (.mov 36),
 oo 9 (.mov 37),
 oo 10 (.mov 38)])
 (.seq (.ops [oo 40 (.mov 5),
 oo 41 (.mov 6),
 oo 42 (.ixA 2 40 41),
 oo 43 (.ld 2 true 42),
 oo 44 (.callF 22 [43]),
 oo 39 (.mov 44),
 oo 45 (.ext 0 39),
 oo 46 (.ext 1 39),
 oo 47 (.ext 2 39),
 oo 11 (.mov 45),
 oo 12 (.mov 46),
 oo 13 (.mov 47)])
 (.seq (.ops [oo 48 (.mov 10),
 oo 49 (.mov 13),
 oo 50 (.bin .neq 48 49),
 oo 51 (.mov 50),
 ⟨(some 52),(some (51,false)),(.mov 8)⟩,
 ⟨(some 53),(some (51,false)),(.mov 11)⟩,
 ⟨(some 54),(some (51,false)),(.callF 23 [52,53])⟩,
 ⟨(some 55),(some (51,false)),(.not 54)⟩,
 oo 56 (.pick 51 (kB true) 55),
 oo 57 (.mov 56),
 ⟨(some 58),(some (57,false)),(.mov 9)⟩,
 ⟨(some 59),(some (57,false)),(.mov 12)⟩,
 ⟨(some 60),(some (57,false)),(.callF 24 [58,59])⟩,
 ⟨(some 61),(some (57,false)),(.not 60)⟩,
 oo 62 (.pick 57 (kB true) 61),
 oo 63 (.mov 62),
 ⟨(some 64),(some (63,false)),(.ld 2 true 7)⟩,
 ⟨(some 65),(some (63,false)),(.mov 5)⟩,
 ⟨(some 66),(some (63,false)),(.mov 6)⟩,
 ⟨(some 67),(some (63,false)),(.ixA 2 65 66)⟩,
 ⟨(some 68),(some (63,false)),(.ld 2 true 67)⟩,
 ⟨(some 69),(some (63,false)),(.callF 20 [64,68])⟩,
 ⟨(some 70),(some (63,false)),(.not 69)⟩,
 oo 71 (.pick 63 (kB true) 70)])
 (.cnd 71
 (.seq (.ops [oo 4 (.mov (kB false))])
 .ret)
 .skip))))))
 (.ops [oo 26 (.mov 6),
 oo 27 (.bin .add 26 (kI 1)),
 oo 6 (.mov 27)]))))))
 (.seq (.ops [oo 72 (.callF 13 []),
 oo 4 (.mov 72)])
 .ret)))))⟩
def hint4 (P:Program):Hint:={}
theorem lawCourses_c (G:Gm) (nums:List Int) (hw:G.ws.length<2^63) (hd:G.ds.length<2^63) (hn:nums.length<2^62):Fn0 Try.prog 4 [gmA G,.slc 1 (iR nums) .non] (fun v=>v= .bool true):=by
 have hbig:=gmBig_c G hw hd
 refine RawC.walk (H:=hint4 Try.prog) ir4 Try.func4 rfl rfl rfl ?_
 unfold ir4
 repeat' (first
  | refine advE ?_ | with_reducible refine w_alt ?_ ?_
  | with_reducible refine zI fun y hy=>?_ | refine advL ?_
  | ((with_reducible refine acall_id ?_);refine ACall.val awake_c rfl rfl ?_)
  | ((with_reducible refine acall_id ?_);(refine ACall.exb hbig rfl ?_;intro b hb))
  | ((with_reducible refine acall_id ?_);refine ACall.liftS (boxOf_s nums hn) [] (some 6) rfl rfl rfl trivial (fun _=>rfl) ?_;rintro⟨gb,w⟩ _ rfl)
  | ((with_reducible refine acall_id ?_);refine ACall.box (gameOf_c _ _ 4 6 6 (by decide) (by decide) (by decide)) rfl rfl rfl ?_;rintro _ _ ⟨M,rfl,hm⟩)
  | refine adv ?_ | with_reducible (first | intro _ | refine Rt.p (fun _=>?_) fun _=>?_)
  | ((with_reducible apply w_ixM);(focus exact rfl);(focus exact rfl);case' hk=>intro y hy) | ((with_reducible (first | apply w_val | apply q_ends));(focus exact rfl)))
 all_goals try rfl
 rename_i hbf g2
 have hsm:=hb hbf
 have hqs:∀q∈[G,M],smlG q:=by
  intro q hq
  simp only[List.mem_cons,List.not_mem_nil,or_false] at hq
  rcases hq with rfl | rfl
  · exact hsm
  · have h1:=hm.n2
    have h2:=hm.d
    exact⟨by omega,by omega,fun w hw=>by have:=(madeW_ok hm.w).2 w hw;omega⟩
 generalize hqe:[G,M]=qs at hqs
 have hpl:qs.length=2:=by rw[←hqe];rfl
 refine w_loopK [] [] (fun x:List Gm×List Gm=>qs=x.1++x.2) (fun x=>x.2.length) (fun x=>[(6,.int .i64 (x.1.length:Int)),(5,.slc 2 (qs.map fun q:Gm=>[.slc 2 (wR q.ws) .non,.slc 5 (dlR q.ds) .non]) .full)]) (fun _=>[]) ([],qs) rfl ⟨rfl,by subst hqe;rfl,trivial⟩ trivial ?_
 rintro⟨pre,post⟩ hl e σ
 dsimp only at hl ⊢
 have hlen:=congrArg List.length hl
 rw[List.length_append] at hlen
 cases post with
 | nil=>
   simp only[List.length_nil] at hlen
   repeat' (first
    | refine advE ?_ | with_reducible refine w_alt ?_ ?_
    | with_reducible refine zI fun y hy=>?_ | refine advL ?_
    | ((with_reducible refine acall_id ?_);refine ACall.val awake_c rfl rfl ?_)
    | refine adv ?_ | with_reducible (first | intro _ | refine Rt.p (fun _=>?_) fun _=>?_)
    | ((with_reducible apply w_ixM);(focus exact rfl);(focus exact rfl);case' hk=>intro y hy) | ((with_reducible (first | apply w_val | apply q_ends));(focus exact rfl)))
   all_goals first
    | (exfalso;omega)
    | rfl
 | cons q post=>
   simp only[List.length_cons] at hlen
   obtain⟨q1,q2,q3⟩:=hqs q (by rw[hl];simp)
   have hOw:=ownGame_c q (by omega) (by omega)
   have hC:=subV2 (courses_f q (invW q.ws.length) (by omega) (by omega) (fun w hw=>by have:=q3 w hw;omega) gmOK) (sub_crsA _ _)
   have hC2:=subV2 (rCourses_c q (by omega) (by omega) (fun w hw=>by have:=q3 w hw;omega)) (sub_crsA _ _)
   obtain⟨b1,b2⟩:=crsO_bd q
   obtain⟨L,hL⟩:∃L,crsO q=L:=⟨_,rfl⟩
   rw[hL] at hC hC2 b1 b2
   have hE:=eqLists_c (L.1.map (·.1)) (L.1.map (·.1)) (by rw[List.length_map];omega) (fun l hl=>by
    obtain⟨x,hx,rfl⟩:=List.mem_map.1 hl
    have:=b2 x hx;omega)
   rw[decide_eq_true rfl] at hE
   have hE2:=eq_c (L.1.map (·.2)) (L.1.map (·.2)) (by rw[List.length_map];omega)
   rw[decide_eq_true rfl] at hE2
   have hEG:=eqGames_c q q (by omega) (by omega)
   rw[decide_eq_true ⟨rfl,rfl⟩] at hEG
   repeat' (first
    | refine advE ?_ | with_reducible refine w_alt ?_ ?_
    | (first | refine w_ixP (f:=fun q:Gm=>[AV.slc 2 (wR q.ws) .non,.slc 5 (dlR q.ds) .non]) hl rfl rfl ?_)
    | with_reducible refine zI fun y hy=>?_ | refine advL ?_
    | ((with_reducible refine acall_id ?_);refine ACall.val hOw rfl rfl ?_)
    | ((with_reducible refine acall_id ?_);refine ACall.val hC rfl rfl ?_)
    | ((with_reducible refine acall_id ?_);refine ACall.val hC2 rfl rfl ?_)
    | ((with_reducible refine acall_id ?_);refine ACall.val hE rfl rfl ?_)
    | ((with_reducible refine acall_id ?_);refine ACall.val hE2 rfl rfl ?_)
    | ((with_reducible refine acall_id ?_);refine ACall.val hEG rfl rfl ?_)
    | refine adv ?_ | with_reducible (first | intro _ | refine Rt.p (fun _=>?_) fun _=>?_)
    | ((with_reducible apply w_ixM);(focus exact rfl);(focus exact rfl);case' hk=>intro y hy) | ((with_reducible (first | apply w_val | apply q_ends));(focus exact rfl)))
   all_goals first
    | (exfalso;omega)
    | exact q_loop (pre++[q],post) (by show qs=_;rw[hl];simp) (Nat.lt_succ_self _) ⟨by rw[len_snoc];rfl,rfl,trivial⟩ (by repeat' (first | exact slots_nil | apply slots_cons | rfl | (rw[map_snoc];rfl) | (rw[len_snoc];rfl) | (rw[hS];rfl) | (rw[hS,map_snoc];rfl) | (refine int_eq ?_;(try dsimp only);omega) | (refine congrArg AV.bool ?_;simp_all;done))) (by repeat' (first | exact kept_nil | apply kept_cons | rfl)) (by repeat' (first | exact kept_nil | apply kept_cons | rfl))
end Go.Abs
