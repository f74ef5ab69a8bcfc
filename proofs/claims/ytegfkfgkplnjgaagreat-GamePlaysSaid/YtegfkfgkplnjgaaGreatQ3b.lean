/- A part of the proofs of the laws of this seat: contracts of the functions that they reach, each proved of the program's form in Lean. No condition beyond those that each contract names. -/
import Derived.Test.YtegfkfgkplnjgaaGreatProg
import Derived.Test.YtegfkfgkplnjgaaGreatSnd3
import Derived.Test.YtegfkfgkplnjgaaGreatA0
import Derived.Test.YtegfkfgkplnjgaaGreatQ1a
import Derived.Test.YtegfkfgkplnjgaaGreatQ1b
import Derived.Test.YtegfkfgkplnjgaaGreatQ1c
import Derived.Test.YtegfkfgkplnjgaaGreatQ1d
import Derived.Test.YtegfkfgkplnjgaaGreatQ1e
import Derived.Test.YtegfkfgkplnjgaaGreatQ1f
import Derived.Test.YtegfkfgkplnjgaaGreatQ1g
import Derived.Test.YtegfkfgkplnjgaaGreatQ1h
import Derived.Test.YtegfkfgkplnjgaaGreatQ1i
import Derived.Test.YtegfkfgkplnjgaaGreatQ1j
import Derived.Test.YtegfkfgkplnjgaaGreatQ1k
import Derived.Test.YtegfkfgkplnjgaaGreatQ1l
import Derived.Test.YtegfkfgkplnjgaaGreatQ3a
set_option linter.unusedVariables false
set_option linter.unusedSimpArgs false
set_option maxRecDepth 20000
set_option maxHeartbeats 4000000
namespace Go.Abs
open Go.Proofs
theorem gamePlays_c (G:Gm) (picks course nums:List Int) (hw:G.ws.length<2^63) (hd:G.ds.length<2^63) (hpk:picks.length<2^62) (hcs:course.length<2^62) (hn:nums.length<2^62):Fn0 Tryz.prog 4 [gmA G,.slc 1 (iR picks) .non,.slc 1 (iR course) .non,.slc 1 (iR nums) .non] (fun v=>v= .bool true):=by
 have hbig:=gmBig_c G hw hd
 have hl1:(iR picks).length=picks.length:=List.length_map _
 have hl2:(iR course).length=course.length:=List.length_map _
 refine RawC.walk (H:=hint4 Tryz.prog) ir4 Tryz.func4 rfl rfl rfl ?_
 unfold ir4
 repeat' (first
  | with_reducible refine Rd.p ?_
  | with_reducible (first|refine zI fun y hy=>?_|refine zL ?_|refine zS ?_|refine zV ?_|refine zC ?_)
  | ((with_reducible refine aC ?_);first|(refine ACall.val awake_c rfl rfl ?_)|((refine ACall.exb hbig rfl ?_;intro b hb))|(refine ACall.liftS (boxOf_s nums hn) [] (some 6) rfl rfl rfl trivial (fun _=>rfl) ?_;rintro⟨gb,w⟩ _ rfl)|(refine ACall.box (gameOf_c _ _ 4 6 6 (by decide) (by decide) (by decide)) rfl rfl rfl ?_;rintro _ _ ⟨M,rfl,hm⟩)|(refine ACall.box (picksOf_c _ _ M hm.e) rfl rfl rfl ?_;rintro _ _ ⟨ps,rfl,hps⟩))
  | refine aX ?_|with_reducible intro _
  | with_reducible refine zJ ?_ fun y hy=>?_|refine aP ?_ ?_)
 all_goals first|(exfalso;omega)|(rfl;done) | skip
 rename_i g4 hbf hp20 hc20 w2 g10 w3
 have hsm:=hb hbf
 have h0:=hm.e
 have hG:=gm_ok h0
 have hn4:(M.ws.length:Int)≤4:=hm.n2
 have hM1:=hm.n1
 have hcn:=hG.cen
 have hsl:=szL_288 hG
 have hpl:=(allP_mem.1 hps).1
 have hws:∀w∈M.ws,w.name.size≤1000:=fun w hw=>by have:=(madeW_ok hm.w).2 w hw;omega
 obtain⟨X,hX1,hX2,hX3⟩:=playO_in h0 hps
 have hXl:=((crsG_mem hG).1 hX3).1.1
 dsimp only at hXl
 have hd24:=hm.d
 have hPw:=rPlayW_c M ps (by omega) (by omega) hws h0 X hX1 hps
 repeat' (first
  | with_reducible refine Rd.p ?_
  | (first|refine w_stEl rfl rfl (by show (g54,Res.row (renL _ (nI X)))=_;rw[renL_nI]) (by omega) rfl ?_)
  | with_reducible (first|refine zI fun y hy=>?_|refine zL ?_|refine zS ?_|refine zV ?_|refine zC ?_)
  | ((with_reducible refine aC ?_);first|(refine ACall.liftS hPw [] (some 9) rfl rfl rfl trivial (fun _=>rfl) ?_;rintro g54 _ rfl)|(refine ACall.box (one_c _ _ _ (by omega)) rfl rfl rfl ?_;rintro _ _ ⟨b2,rfl⟩)|(refine ACall.box (upp_c _ _ _ (by omega) (by omega)) rfl rfl rfl ?_;rintro _ _ ⟨k,rfl,hk0,hk1⟩))
  | refine aX ?_|with_reducible intro _
  | with_reducible refine zJ ?_ fun y hy=>?_|refine aP ?_ ?_)
 all_goals try (exfalso;omega)
 · rename_i u1 u2 u3 i hi0 hi1 u4
   obtain⟨Y,hY⟩:∃Y,X.set (i.toNat*1) k=Y:=⟨_,rfl⟩
   have hyl:Y.length=X.length:=by rw[←hY,List.length_set]
   have hfz:frzA 54 g54 (Y.map (AV.int .i64)) (.msl 54 g54 X.length 1)= .slc 1 (iR Y) .non:=by rw[←hyl];simp[frzA,chunk1]
   refine w_frzIG (t:=12) (i:=54) (g:=g54) (n:=X.length) (xs:=Y) [(1,.slc 1 (iR picks) .non),(2,.slc 1 (iR course) .non),(4,.ref 4 g4 0),(10,.ref 10 g10 0),(11,.slc 1 (iR ps) .non),(12,.slc 1 (iR Y) .non)] [(4,(g4,.row [.slc 2 (wR G.ws) .non,.slc 5 (dlR G.ds) .non])),(10,(g10,.row [.slc 2 (wR M.ws) .non,.slc 5 (dlR M.ds) .non]))] rfl (by rw[←hY];rfl) hyl ⟨rfl,rfl,rfl,rfl,rfl,hfz,trivial⟩ ⟨rfl,rfl,trivial⟩ ?_
   intro e3 σ3
   repeat' (first
    | with_reducible refine Rd.p ?_
    | with_reducible (first|refine zI fun y hy=>?_|refine zL ?_|refine zS ?_|refine zV ?_|refine zC ?_)
    | refine aX ?_|with_reducible intro _
    | with_reducible refine zJ ?_ fun y hy=>?_|refine aP ?_ ?_)
   have hqs:∀q∈[Plq.mk G picks course,Plq.mk M ps Y,Plq.mk M picks course],smlG q.g∧q.ps.length<1000∧q.cs.length<1000:=by
    intro q hq
    simp only[List.mem_cons,List.not_mem_nil,or_false] at hq
    have hsM:smlG M:=⟨by omega,by omega,fun w hw=>by have:=(madeW_ok hm.w).2 w hw;omega⟩
    rcases hq with rfl|rfl|rfl
    · exact⟨hsm,by show picks.length<1000;omega,by show course.length<1000;omega⟩
    · exact⟨hsM,by show ps.length<1000;omega,by show Y.length<1000;omega⟩
    · exact⟨hsM,by show picks.length<1000;omega,by show course.length<1000;omega⟩
   generalize hqe:[Plq.mk G picks course,Plq.mk M ps Y,Plq.mk M picks course]=qs at hqs
   have hpl2:qs.length=3:=by rw[←hqe];rfl
   refine w_loopK [] [] (fun x:List Plq×List Plq=>qs=x.1++x.2) (fun x=>x.2.length) (fun x=>[(17,.int .i64 (x.1.length:Int)),(14,.slc 2 (qs.map fun q:Plq=>[.slc 2 (wR q.g.ws) .non,.slc 5 (dlR q.g.ds) .non]) .full),(15,.slc 1 (qs.map fun q:Plq=>[.slc 1 (iR q.ps) .non]) .full),(16,.slc 1 (qs.map fun q:Plq=>[.slc 1 (iR q.cs) .non]) .full)]) (fun _=>[]) ([],qs) rfl ⟨rfl,by subst hqe;rfl,by subst hqe;rfl,by subst hqe;rfl,trivial⟩ trivial ?_
   rintro⟨pre,post⟩ hl e σ
   dsimp only at hl ⊢
   have hlen:=congrArg List.length hl
   rw[List.length_append] at hlen
   cases post with
   | nil=>
     simp only[List.length_nil] at hlen
     repeat' (first
      | with_reducible refine Rd.p ?_
      | with_reducible (first|refine zI fun y hy=>?_|refine zL ?_|refine zS ?_|refine zV ?_|refine zC ?_)
      | ((with_reducible refine aC ?_);first|(refine ACall.val awake_c rfl rfl ?_))
      | refine aX ?_|with_reducible intro _
      | with_reducible refine zJ ?_ fun y hy=>?_|refine aP ?_ ?_)
     all_goals first
      | (exfalso;omega)
      | rfl
   | cons q post=>
     simp only[List.length_cons] at hlen
     obtain⟨⟨q1,q2,q3⟩,q4,q5⟩:=hqs q (by rw[hl];simp)
     have qw:∀w∈q.g.ws,w.name.size≤1000:=fun w hw=>by have:=q3 w hw;omega
     have hOw:=ownGame_c q.g (by omega) (by omega)
     have hI1:=ints_c q.ps (by omega)
     have hI2:=ints_c q.cs (by omega)
     have hP:=subV2 (Play_c q.g q.ps (by omega) (by omega) qw (by omega)) (sub_plA _ (plO_nil _ _))
     have hP2:=subV2 (rPlay_c q.g q.ps (by omega) (by omega) qw (by omega)) (sub_plA _ (plO_nil _ _))
     have hW:=waysA_c q.g q.cs (by omega) (by omega) qw q5
     have hW2:=rWays_c q.g q.cs (by omega) (by omega) qw q5
     have hb9:=plO_bd q.g q.ps
     obtain⟨R,hR⟩:∃R,playO q.g q.ps=R:=⟨_,rfl⟩
     rw[hR] at hP hP2 hb9
     obtain⟨Z,hZ⟩:∃Z,wyF q.g q.cs=Z:=⟨_,rfl⟩
     rw[hZ] at hW hW2
     have hE:=eq_c R.1 R.1 (by omega)
     rw[decide_eq_true rfl] at hE
     have hE1:=eq_c q.ps q.ps (by omega)
     rw[decide_eq_true rfl] at hE1
     have hE2:=eq_c q.cs q.cs (by omega)
     rw[decide_eq_true rfl] at hE2
     have hEG:=eqGames_c q.g q.g (by omega) (by omega)
     rw[decide_eq_true ⟨rfl,rfl⟩] at hEG
     repeat' (first
      | with_reducible refine Rd.p ?_
      | (first|refine w_ixP (f:=fun q:Plq=>[AV.slc 2 (wR q.g.ws) .non,.slc 5 (dlR q.g.ds) .non]) hl rfl rfl ?_|refine w_ixP (f:=fun q:Plq=>[AV.slc 1 (iR q.ps) .non]) hl rfl rfl ?_|refine w_ixP (f:=fun q:Plq=>[AV.slc 1 (iR q.cs) .non]) hl rfl rfl ?_)
      | with_reducible (first|refine zI fun y hy=>?_|refine zL ?_|refine zS ?_|refine zV ?_|refine zC ?_)
      | ((with_reducible refine aC ?_);first|(refine ACall.val hOw rfl rfl ?_)|(refine ACall.val hI1 rfl rfl ?_)|(refine ACall.val hI2 rfl rfl ?_)|(refine ACall.val hP rfl rfl ?_)|(refine ACall.val hP2 rfl rfl ?_)|(refine ACall.val hW rfl rfl ?_)|(refine ACall.val hW2 rfl rfl ?_)|(refine ACall.val hE rfl rfl ?_)|(refine ACall.val hE1 rfl rfl ?_)|(refine ACall.val hE2 rfl rfl ?_)|(refine ACall.val hEG rfl rfl ?_))
      | refine aX ?_|with_reducible intro _
      | with_reducible refine zJ ?_ fun y hy=>?_|refine aP ?_ ?_)
     all_goals first
      | (exfalso;omega)
      | exact q_loop (pre++[q],post) (by show qs=_;rw[hl];simp) (Nat.lt_succ_self _) ⟨by rw[len_snoc];rfl,rfl,rfl,rfl,trivial⟩ aS aK aK
 · obtain⟨Y,hY⟩:∃Y,X=Y:=⟨_,rfl⟩
   have hyl:Y.length=X.length:=by rw[←hY]
   have hfz:frzA 54 g54 (Y.map (AV.int .i64)) (.msl 54 g54 X.length 1)= .slc 1 (iR Y) .non:=by rw[←hyl];simp[frzA,chunk1]
   refine w_frzIG (t:=12) (i:=54) (g:=g54) (n:=X.length) (xs:=Y) [(1,.slc 1 (iR picks) .non),(2,.slc 1 (iR course) .non),(4,.ref 4 g4 0),(10,.ref 10 g10 0),(11,.slc 1 (iR ps) .non),(12,.slc 1 (iR Y) .non)] [(4,(g4,.row [.slc 2 (wR G.ws) .non,.slc 5 (dlR G.ds) .non])),(10,(g10,.row [.slc 2 (wR M.ws) .non,.slc 5 (dlR M.ds) .non]))] rfl (by rw[←hY];show (g54,Res.row (renL _ (nI X)))=_;rw[renL_nI]) hyl ⟨rfl,rfl,rfl,rfl,rfl,hfz,trivial⟩ ⟨rfl,rfl,trivial⟩ ?_
   intro e3 σ3
   repeat' (first
    | with_reducible refine Rd.p ?_
    | with_reducible (first|refine zI fun y hy=>?_|refine zL ?_|refine zS ?_|refine zV ?_|refine zC ?_)
    | refine aX ?_|with_reducible intro _
    | with_reducible refine zJ ?_ fun y hy=>?_|refine aP ?_ ?_)
   have hqs:∀q∈[Plq.mk G picks course,Plq.mk M ps Y,Plq.mk M picks course],smlG q.g∧q.ps.length<1000∧q.cs.length<1000:=by
    intro q hq
    simp only[List.mem_cons,List.not_mem_nil,or_false] at hq
    have hsM:smlG M:=⟨by omega,by omega,fun w hw=>by have:=(madeW_ok hm.w).2 w hw;omega⟩
    rcases hq with rfl|rfl|rfl
    · exact⟨hsm,by show picks.length<1000;omega,by show course.length<1000;omega⟩
    · exact⟨hsM,by show ps.length<1000;omega,by show Y.length<1000;omega⟩
    · exact⟨hsM,by show picks.length<1000;omega,by show course.length<1000;omega⟩
   generalize hqe:[Plq.mk G picks course,Plq.mk M ps Y,Plq.mk M picks course]=qs at hqs
   have hpl2:qs.length=3:=by rw[←hqe];rfl
   refine w_loopK [] [] (fun x:List Plq×List Plq=>qs=x.1++x.2) (fun x=>x.2.length) (fun x=>[(17,.int .i64 (x.1.length:Int)),(14,.slc 2 (qs.map fun q:Plq=>[.slc 2 (wR q.g.ws) .non,.slc 5 (dlR q.g.ds) .non]) .full),(15,.slc 1 (qs.map fun q:Plq=>[.slc 1 (iR q.ps) .non]) .full),(16,.slc 1 (qs.map fun q:Plq=>[.slc 1 (iR q.cs) .non]) .full)]) (fun _=>[]) ([],qs) rfl ⟨rfl,by subst hqe;rfl,by subst hqe;rfl,by subst hqe;rfl,trivial⟩ trivial ?_
   rintro⟨pre,post⟩ hl e σ
   dsimp only at hl ⊢
   have hlen:=congrArg List.length hl
   rw[List.length_append] at hlen
   cases post with
   | nil=>
     simp only[List.length_nil] at hlen
     repeat' (first
      | with_reducible refine Rd.p ?_
      | with_reducible (first|refine zI fun y hy=>?_|refine zL ?_|refine zS ?_|refine zV ?_|refine zC ?_)
      | ((with_reducible refine aC ?_);first|(refine ACall.val awake_c rfl rfl ?_))
      | refine aX ?_|with_reducible intro _
      | with_reducible refine zJ ?_ fun y hy=>?_|refine aP ?_ ?_)
     all_goals first
      | (exfalso;omega)
      | rfl
   | cons q post=>
     simp only[List.length_cons] at hlen
     obtain⟨⟨q1,q2,q3⟩,q4,q5⟩:=hqs q (by rw[hl];simp)
     have qw:∀w∈q.g.ws,w.name.size≤1000:=fun w hw=>by have:=q3 w hw;omega
     have hOw:=ownGame_c q.g (by omega) (by omega)
     have hI1:=ints_c q.ps (by omega)
     have hI2:=ints_c q.cs (by omega)
     have hP:=subV2 (Play_c q.g q.ps (by omega) (by omega) qw (by omega)) (sub_plA _ (plO_nil _ _))
     have hP2:=subV2 (rPlay_c q.g q.ps (by omega) (by omega) qw (by omega)) (sub_plA _ (plO_nil _ _))
     have hW:=waysA_c q.g q.cs (by omega) (by omega) qw q5
     have hW2:=rWays_c q.g q.cs (by omega) (by omega) qw q5
     have hb9:=plO_bd q.g q.ps
     obtain⟨R,hR⟩:∃R,playO q.g q.ps=R:=⟨_,rfl⟩
     rw[hR] at hP hP2 hb9
     obtain⟨Z,hZ⟩:∃Z,wyF q.g q.cs=Z:=⟨_,rfl⟩
     rw[hZ] at hW hW2
     have hE:=eq_c R.1 R.1 (by omega)
     rw[decide_eq_true rfl] at hE
     have hE1:=eq_c q.ps q.ps (by omega)
     rw[decide_eq_true rfl] at hE1
     have hE2:=eq_c q.cs q.cs (by omega)
     rw[decide_eq_true rfl] at hE2
     have hEG:=eqGames_c q.g q.g (by omega) (by omega)
     rw[decide_eq_true ⟨rfl,rfl⟩] at hEG
     repeat' (first
      | with_reducible refine Rd.p ?_
      | (first|refine w_ixP (f:=fun q:Plq=>[AV.slc 2 (wR q.g.ws) .non,.slc 5 (dlR q.g.ds) .non]) hl rfl rfl ?_|refine w_ixP (f:=fun q:Plq=>[AV.slc 1 (iR q.ps) .non]) hl rfl rfl ?_|refine w_ixP (f:=fun q:Plq=>[AV.slc 1 (iR q.cs) .non]) hl rfl rfl ?_)
      | with_reducible (first|refine zI fun y hy=>?_|refine zL ?_|refine zS ?_|refine zV ?_|refine zC ?_)
      | ((with_reducible refine aC ?_);first|(refine ACall.val hOw rfl rfl ?_)|(refine ACall.val hI1 rfl rfl ?_)|(refine ACall.val hI2 rfl rfl ?_)|(refine ACall.val hP rfl rfl ?_)|(refine ACall.val hP2 rfl rfl ?_)|(refine ACall.val hW rfl rfl ?_)|(refine ACall.val hW2 rfl rfl ?_)|(refine ACall.val hE rfl rfl ?_)|(refine ACall.val hE1 rfl rfl ?_)|(refine ACall.val hE2 rfl rfl ?_)|(refine ACall.val hEG rfl rfl ?_))
      | refine aX ?_|with_reducible intro _
      | with_reducible refine zJ ?_ fun y hy=>?_|refine aP ?_ ?_)
     all_goals first
      | (exfalso;omega)
      | exact q_loop (pre++[q],post) (by show qs=_;rw[hl];simp) (Nat.lt_succ_self _) ⟨by rw[len_snoc];rfl,rfl,rfl,rfl,trivial⟩ aS aK aK
end Go.Abs
