/- A part of the proofs: contracts of functions. -/
import Derived.Test.YtioggblimkgioaaGreatProg
import Derived.Test.YtioggblimkgioaaGreatSnd3
import Derived.Test.YtioggblimkgioaaGreatA0
import Derived.Test.YtioggblimkgioaaGreatQ1a
import Derived.Test.YtioggblimkgioaaGreatQ1b
import Derived.Test.YtioggblimkgioaaGreatQ1c
import Derived.Test.YtioggblimkgioaaGreatQ1d
import Derived.Test.YtioggblimkgioaaGreatQ1e
import Derived.Test.YtioggblimkgioaaGreatQ1f
import Derived.Test.YtioggblimkgioaaGreatQ1g
set_option linter.unusedVariables false
set_option linter.unusedSimpArgs false
set_option maxRecDepth 20000
set_option maxHeartbeats 4000000
set_option maxHeartbeats 1000000
namespace Go.Abs
open Go.Proofs
abbrev dA(g:Dish):AV:= .agg [.int .i64 g.turn,.int .i64 g.parts,.int .i64 g.cost]
theorem vdF_1{α:Type}{p:α→Bool}{l:List α}:vdF p l=1↔ ∀x∈l,p x=true:=by
 unfold vdF vdN;rw[←List.filter_eq_self]
 constructor
 · intro h;split at h
   · rename_i h1;exact (List.filter_sublist).eq_of_length h1
   · split at h<;>exact absurd h (by decide)
 · intro h;rw[if_pos (congrArg _ h)]
theorem vdF_2{α:Type}{p:α→Bool}{l:List α}(hl:l≠[]):vdF p l=2↔ ∀x∈l,p x=false:=by
 unfold vdF vdN
 constructor
 · intro h x hx;split at h
   · exact absurd h (by decide)
   · split at h
     · rename_i h2;have h3:=List.eq_nil_of_length_eq_zero h2;cases hp:p x with
       | false=>rfl
       | true=> have:x∈l.filter p:=List.mem_filter.2 ⟨hx,hp⟩;rw[h3] at this;cases this
     · exact absurd h (by decide)
 · intro h;have h3:l.filter p=[]:=List.filter_eq_nil_iff.2 fun x hx=>by rw[h x hx];decide
   rw[h3,if_neg (fun e=>hl (List.eq_nil_of_length_eq_zero e.symm)),if_pos List.length_nil]
def pairT(L:List (List Int))(i j:Nat):Int:=vdF (fun c:List Int=>decide (c.getD i 0=c.getD j 0)) L
def pairO(M:Md):List (List Int)×Int:=if mdErr M=0 then (tabF (censG (stepsG M.g.ds)) (censG (stepsG M.g.ds)) (pairT (lfL M)),0) else ([],mdErr M)
def ir127:IFn:= ⟨14,[(4,none)],(sO [oM 4 (kB false)] (sO [oM 5 0,oL 6 1,oA 7 1 5 6,oL 8 7,oM 9 0,oL 10 2,oA 11 1 9 10,oL 12 11,oB 13 .eql 8 12,oM 4 13] .ret))⟩
def ir55:IFn:= ⟨49,[(2,none),(3,none)],(sO [oo 1 (.box 5 0),oM 2 (.k .nsl),oM 3 (kI 0)] (sO [oo 11 (.ld 5 true 1),oC 12 19 [11],oM 10 12,oE 13 0 10,oE 14 1 10,oE 15 2 10,oM 4 13,oM 5 14,oM 6 15] (.seq (sO [oM 16 6,oB 17 .neq 16 (kI 0)] (.cnd 17 (sO [oM 18 6,oM 2 (.k .nsl),oM 3 18] .ret) .skip)) (sO [oM 19 4,oo 20 (.ixA 1 19 (kI 0)),oL 21 20,oN 22 21,oo 23 (.mks 1 24 [.nsl] 22 22),oM 7 23] (.seq (sO [oM 24 7,oN 25 24,oM 26 (kI 0)] (.blk 0 (.loop (sO [oB 27 .lss 26 25] (.seq (.cnd 27 .skip (.exit 0)) (.seq (.blk 1 (sO [oM 28 26,oo 8 (.new [z0]),oS 1 8 28] (.seq (.seq (.frz 8) (.ops [oM 29 7,oN 30 29,oM 31 (kI 0)])) (.blk 2 (.loop (sO [oB 32 .lss 31 30] (.seq (.cnd 32 .skip (.exit 2)) (.seq (.blk 3 (sO [oM 33 31,oo 9 (.new [z0]),oS 1 9 33] (.seq (.frz 9) (.ops [oM 34 7,oL 35 8,oM 36 7,oL 37 8,oA 38 1 36 37,oL 39 38,oM 40 4,oo 41 (.mkf (.func 127) [] [8,9]),oC 42 114 [40,41],oK 8 35,oK 8 37,oK 38 39,oo 43 (.bsl 1 [[z0]] [(0,42)]),oo 44 (.app 1 8 39 43 44),oK 8 35,oA 45 1 34 35,oS 1 45 44])))) (.ops [oB 46 .add 31 (kI 1),oM 31 46]))))))))) (.ops [oB 47 .add 26 (kI 1),oM 26 47]))))))) (.seq (.seq (.frz 7) (.ops [oM 48 7,oM 2 48,oM 3 (kI 0)])) .ret))))))⟩
def hint55(P:Program):Hint:={site:=[],nils:=[],frz:=[(30,8),(35,9),(48,7)],mve:=[],wr:=[] }
theorem pair1_c(c:List Int)(i j:Nat)(hi:i<c.length)(hj:j<c.length)(hc:c.length<1000):FV 127 [.slc 1 (iR c) .non,.pin [.int .i64 (i:Int)],.pin [.int .i64 (j:Int)]] (.bool (decide (c.getD i 0=c.getD j 0))):=by
 have hcl:(iR c).length=c.length:=List.length_map _;obtain⟨hA,hA2⟩:=at_split (l:=c) (i:=i) (d:=0) hi;have hai:AV.int .i64 (i:Int)= .int .i64 ((c.take i).length:Int):=int_eq (by rw[hA2]);obtain⟨hB,hB2⟩:=at_split (l:=c) (i:=j) (d:=0) hj;have hbi:AV.int .i64 (j:Int)= .int .i64 ((c.take j).length:Int):=int_eq (by rw[hB2]);obtain⟨x,hx⟩:∃x,c.getD i 0=x:=⟨_,rfl⟩;obtain⟨y,hy⟩:∃y,c.getD j 0=y:=⟨_,rfl⟩;rw[hx] at hA ⊢;rw[hy] at hB ⊢;refine wk ir127 Tryz.func127 ?_;unfold ir127
 repeat' (first|refine aR ?_|(first|refine w_ixP (f:=fI) hA rfl hai ?_|refine w_ixP (f:=fI) hB rfl hbi ?_)|with_reducible refine zI fun y hy=>?_|refine aX ?_|with_reducible intro _|with_reducible refine zJ ?_ fun y hy=>?_|refine aP ?_ ?_)
 all_goals exact aZ
theorem kPairs_c(M:Md)(hw:M.g.ws.length<1000)(hd:M.g.ds.length<1000)(hs:∀w∈M.g.ws,w.name.size≤1000):FV 55 [mdA M] (lnE (pairO M)):=by
 have hLf:=kLeft_c M hw hd hs;by_cases h0:mdErr M=0
 rotate_left
 · rw[show lfO M=([],mdErr M) by unfold lfO;rw[if_neg h0]] at hLf;rw[show pairO M=([],mdErr M) by unfold pairO;rw[if_neg h0]];refine RawC.walk (H:=hint55 Tryz.prog) ir55 Tryz.func55 rfl rfl rfl ?_;unfold ir55
   repeat' (first|refine aR ?_|((with_reducible refine aC ?_);first|refine aV hLf ?_)|refine aX ?_|with_reducible intro _|refine aP ?_ ?_)
   all_goals exact aZ
 rw[show pairO M=(tabF (censG (stepsG M.g.ds)) (censG (stepsG M.g.ds)) (pairT (lfL M)),0) by unfold pairO;rw[if_pos h0]];obtain⟨hne,h5,hok⟩:=lf_ok h0;obtain⟨_,h1,_⟩:=mdErr_ok h0;obtain⟨hG,_⟩:=crsK_ok h1;have hk1:=hG.cen.1;have hk9:=hG.cen.2;have hw1:=hG.n1;have hw6:=hG.n6;rw[show (lfO M).2=0 by unfold lfO;rw[if_pos h0]] at hLf;replace hLf:FV 19 [mdA M] (.tup [.slc 1 (llR (lfL M)) .non,.slc 1 (iR ((lfO M).1.map (·.2))) .non,.int .i64 0]):=subV2 hLf (sub_crsA _ _);generalize lfL M=L at hLf hne h5 hok ⊢;generalize (lfO M).1.map (·.2)=Lw at hLf;obtain⟨k,hk⟩:∃k,censG (stepsG M.g.ds)=k:=⟨_,rfl⟩;obtain⟨W,hW⟩:∃W,M.g.ws.length=W:=⟨_,rfl⟩;have hwR:(wR M.g.ws).length=M.g.ws.length:=List.length_map _;rw[hk] at hk1 hk9 hok ⊢;rw[hW] at hok hwR hw1 hw6;try rw[hW]
 rw[show lnE (tabF k k (pairT L),0)=llE (tabF k k (pairT L),0) by unfold lnE;rw[lnV_ne (List.ne_nil_of_length_pos (by rw[tabF_len];omega))]];obtain⟨c0,L',hcc⟩:=List.exists_cons_of_ne_nil hne;have hc0:=(hok c0 (by rw[hcc];simp)).1;have hcl:(iR c0).length=c0.length:=List.length_map _
 have hV:∀i j:Nat,i<k→j<k→FV 114 [.slc 1 (llR L) .non,.clo (.func 127) [] [.pin [.int .i64 (i:Int)],.pin [.int .i64 (j:Int)]]] (.int .i64 (pairT L i j)):=fun i j hi hj=>
  verdict_c _ _ _ _ L (by omega) fun x hx=>by have:=(hok x hx).1;exact pair1_c x i j (by omega) (by omega) (by omega)
 refine RawC.walk (H:=hint55 Tryz.prog) ir55 Tryz.func55 rfl rfl rfl ?_;unfold ir55
 repeat' (first|refine aR ?_|(first|refine w_ixP (f:=fL) (pre:=[]) hcc rfl rfl ?_|(refine w_mksL (n:=c0.length) rfl (by omega) ?_;intro g23;rw[hc0]))|((with_reducible refine aC ?_);first|refine aV hLf ?_)|refine aX ?_|with_reducible intro _|refine aP ?_ ?_)
 all_goals try (exfalso;omega)
 refine w_loopK [4,7,25] [1] (fun x:List (List Int×Nat)=>x.length≤k∧x.map (·.1)=tabF x.length k (pairT L)) (fun x=>k-x.length) (fun x=>[(26,.int .i64 x.length)])
  (fun x=>[(23,(g23,.row (x.map (ownN 44)++List.replicate (k-x.length) AV.nsl)))]) [] ⟨by simp,rfl⟩ ⟨rfl,trivial⟩ ⟨rfl,trivial⟩ ?_
 rintro done ⟨hd1,hd2⟩ e1 σ1;dsimp only at hd1 hd2 ⊢;by_cases hlt:done.length<k
 case neg=>
  have hfin:done.map (ownN 44)++List.replicate (k-done.length) AV.nsl=done.map (ownN 44):=by rw[show k-done.length=0 by omega];simp
  have hdk:done.length=k:=by omega
  repeat' (first|refine aR ?_|refine aL ?_|(refine w_frzNk (k:=44) (xs:=done) rfl (show _ from congrArg (fun c=>((g23,Res.row c):Nat×Res)) hfin) (by omega) ?_)|refine aX ?_|with_reducible intro _|refine aP ?_ ?_)
  all_goals first|(exfalso;omega)|(rw[hd2,hdk];rfl)
 have hrep:List.replicate (k-done.length) AV.nsl=AV.nsl::List.replicate (k-done.length-1) AV.nsl:=by rw[show k-done.length=(k-done.length-1)+1 by omega,List.replicate_succ];simp
 have hdl:(done.map (ownN 44)).length=done.length:=by simp
 repeat' (first|refine aR ?_|refine aL ?_|(refine w_frzK (j:=23) rfl rfl rfl (by decide) rfl frzL_ow ?_)|refine aX ?_|with_reducible intro _|refine aP ?_ ?_)
 all_goals try (exfalso;omega)
 refine w_loopK [4,7,8,25,26,30] [1] (fun x:Nat×List Int×Nat=>x.1≤k∧x.2.1=(List.range x.1).map fun b=>pairT L done.length b) (fun x=>k-x.1) (fun x=>[(31,.int .i64 x.1)])
  (fun x=>[(23,(g23,.row (done.map (ownN 44)++curN 44 x.2.1 x.2.2::List.replicate (k-done.length-1) AV.nsl)))]++curSN 44 x.2.1 x.2.2) (0,[],0) ⟨Nat.zero_le _,rfl⟩ ⟨rfl,trivial⟩ (by exact⟨congrArg (fun c=>((g23,Res.row (done.map (ownN 44)++c)):Nat×Res)) hrep,trivial⟩) ?_
 rintro⟨b,cur,g46⟩ ⟨hb,hc⟩ e2 σ2;dsimp only at hb hc ⊢;have hcl:cur.length=b:=by rw[hc];simp
 by_cases hb2:b<k
 case neg=>
  have hb3:b=k:=by omega
  cases cur with
  | nil=>exfalso;simp at hcl;omega
  | cons c0 cur=>
    have hnx:done.map (ownN 44)++curN 44 (c0::cur) g46::List.replicate (k-done.length-1) AV.nsl=(done++[(c0::cur,g46)]).map (ownN 44)++List.replicate (k-(done++[(c0::cur,g46)]).length) AV.nsl:=by rw[List.map_append,List.length_append,List.append_assoc];rfl
    repeat' (first|refine aR ?_|refine aX ?_|with_reducible intro _|refine aP ?_ ?_)
    all_goals try (exfalso;omega)
    refine q_loop (done++[(c0::cur,g46)]) ?_ ?_ aS (by exact⟨congrArg (fun c=>((g23,Res.row c):Nat×Res)) hnx,trivial⟩) aK aK
    · refine⟨by simp;omega,?_⟩;rw[List.map_append,hd2,List.length_append,List.length_singleton];unfold tabF;rw[List.range_succ,List.map_append];simp only[List.map_cons,List.map_nil];rw[hc,hb3]
    · simp;omega
 have hv:=hV done.length b hlt hb2;have hcn:cur++[pairT L done.length b]=(List.range (b+1)).map fun b=>pairT L done.length b:=by rw[List.range_succ,List.map_append,←hc];rfl
 cases cur with
 | nil=>
   repeat' (first|refine aR ?_|(first|refine w_ldC rfl rfl (by rw[hdl];omega) rfl ?_|refine w_chC rfl rfl (by rw[hdl];omega) rfl rfl ?_|refine w_stC rfl rfl (by rw[hdl];omega) rfl ?_)|refine aL ?_|(refine w_frzK (j:=23) rfl rfl rfl (by decide) rfl frzL_ow2 ?_)|((with_reducible refine aC ?_);first|refine aV hv ?_)|refine aX ?_|with_reducible intro _|refine aP ?_ ?_)
   all_goals try (exfalso;omega)
   all_goals
    refine q_loop (b+1,[_],_) ?_ ?_ aS aS aK aK
    · exact⟨by dsimp only;omega,hcn⟩
    · dsimp only;omega
 | cons c0 cur=>
   repeat' (first|refine aR ?_|(first|refine w_ldC rfl rfl (by rw[hdl];omega) rfl ?_|refine w_chC rfl rfl (by rw[hdl];omega) rfl rfl ?_|refine w_stC rfl rfl (by rw[hdl];omega) rfl ?_)|refine aL ?_|(refine w_frzK (j:=23) rfl rfl rfl (by decide) rfl frzL_ow2 ?_)|((with_reducible refine aC ?_);first|refine aV hv ?_)|refine aX ?_|with_reducible intro _|refine aP ?_ ?_)
   all_goals try (exfalso;omega)
   all_goals
    refine q_loop (b+1,c0::cur++[_],_) ?_ ?_ aS aS aK aK
    · exact⟨by dsimp only;omega,hcn⟩
    · dsimp only;omega
def plcI(x:List Int):List (List Int)→Int→Int
 | [],_=> -1
 | y::r,k=>if y=x then k else plcI x r (k+1)
theorem plcI_mem{x:List Int}:∀{l:List (List Int)} {k:Int},x∈l→ ∃i:Nat,l[i]?=some x∧plcI x l k=k+i
 | y::r,k,h=>by
   rw[plcI];by_cases e:y=x
   · rw[if_pos e];exact⟨0,by rw[e];rfl,by omega⟩
   · rw[if_neg e];obtain⟨i,h1,h2⟩:=plcI_mem (k:=k+1) ((List.mem_cons.1 h).resolve_left fun h=>e h.symm);exact⟨i+1,by simpa using h1,by rw[h2];omega⟩
end Go.Abs
set_option linter.unusedVariables false
set_option linter.unusedSimpArgs false
set_option maxRecDepth 20000
set_option maxHeartbeats 2000000
namespace Go.Abs
open Go.Proofs
def ir56:IFn:= ⟨19,[(4,none)],(sO [oM 4 (kI 0)] (.seq (sO [oM 5 (kI 0)] (.blk 0 (.loop (.seq (sO [oM 6 5,oM 7 0,oN 8 7,oB 9 .lss 6 8] (.cnd 9 .skip (.exit 0))) (.seq (.blk 1 (sO [oM 12 0,oM 13 5,oA 14 1 12 13,oL 15 14,oM 16 1,oC 17 21 [15,16]] (.cnd 17 (sO [oM 18 5,oM 4 18] .ret) .skip))) (.ops [oM 10 5,oB 11 .add 10 (kI 1),oM 5 11])))))) (sO [oo 4 (.mov (.k (.int .i64 (-1))))] .ret)))⟩
def ir10:IFn:= ⟨176,[(2,none)],(sO [oM 2 (kB false)] (sO [oM 20 0,oC 21 15 [20],oC 22 16 [21,(kI 3),(kI 5),(kI 5)],oM 19 22,oE 23 0 19,oE 24 1 19,oo 3 (.new [.nsl,.nsl,.nsl,.nsl,.nsl]),oS 5 3 23,oM 4 24] (sO [oo 26 (.ld 5 true 3),oC 27 19 [26],oM 25 27,oE 28 0 25,oE 29 1 25,oE 30 2 25,oM 5 28,oM 6 29,oM 7 30] (sO [oo 32 (.ld 5 true 3),oC 33 47 [32],oM 31 33,oE 34 0 31,oE 35 1 31,oM 8 34,oM 9 35] (sO [oo 37 (.ld 5 true 3),oC 38 55 [37],oM 36 38,oE 39 0 36,oE 40 1 36,oM 10 39,oM 11 40] (sO [oM 41 5,oM 42 4,oC 43 56 [41,42],oM 12 43] (sO [oM 44 4,oN 45 44,oM 13 45] (.seq (sO [oM 46 7,oB 47 .neq 46 (kI 0),oM 48 47,⟨(some 49),(some (48,false)),(.mov 9)⟩,⟨(some 50),(some (48,false)),(.bin .neq 49 (kI 0))⟩,oo 51 (.pick 48 (kB true) 50),oM 52 51,⟨(some 53),(some (52,false)),(.mov 11)⟩,⟨(some 54),(some (52,false)),(.bin .neq 53 (kI 0))⟩,oo 55 (.pick 52 (kB true) 54),oM 56 55,⟨(some 57),(some (56,false)),(.mov 6)⟩,⟨(some 58),(some (56,false)),(.len false 57)⟩,⟨(some 59),(some (56,false)),(.mov 5)⟩,⟨(some 60),(some (56,false)),(.len false 59)⟩,⟨(some 61),(some (56,false)),(.bin .neq 58 60)⟩,oo 62 (.pick 56 (kB true) 61),oM 63 62,⟨(some 64),(some (63,false)),(.mov 12)⟩,⟨(some 65),(some (63,false)),(.bin .lss 64 (kI 0))⟩,oo 66 (.pick 63 (kB true) 65),oM 67 66,⟨(some 68),(some (67,false)),(.mov 6)⟩,⟨(some 69),(some (67,false)),(.mov 12)⟩,⟨(some 70),(some (67,false)),(.ixA 1 68 69)⟩,⟨(some 71),(some (67,false)),(.ld 1 false 70)⟩,⟨(some 72),(some (67,false)),(.bin .lss 71 (kI 1))⟩,oo 73 (.pick 67 (kB true) 72),oM 74 73,⟨(some 75),(some (74,false)),(.mov 8)⟩,⟨(some 76),(some (74,false)),(.mov 13)⟩,⟨(some 77),(some (74,false)),(.flA 0 3)⟩,⟨(some 78),(some (74,false)),(.flA 0 77)⟩,⟨(some 79),(some (74,false)),(.ld 1 false 78)⟩,⟨(some 80),(some (74,false)),(.len false 79)⟩,⟨(some 81),(some (74,false)),(.callF 48 [75,76,80])⟩,⟨(some 82),(some (74,false)),(.not 81)⟩,oo 83 (.pick 74 (kB true) 82),oM 84 83,⟨(some 85),(some (84,false)),(.mov 10)⟩,⟨(some 86),(some (84,false)),(.mov 13)⟩,⟨(some 87),(some (84,false)),(.mov 13)⟩,⟨(some 88),(some (84,false)),(.callF 48 [85,86,87])⟩,⟨(some 89),(some (84,false)),(.not 88)⟩,oo 90 (.pick 84 (kB true) 89)] (.cnd 90 (sO [oM 2 (kB false)] .ret) .skip)) (.seq (sO [oM 14 (kI 0)] (.blk 0 (.loop (.seq (sO [oM 91 14,oM 92 13,oB 93 .lss 91 92] (.cnd 93 .skip (.exit 0))) (.seq (.blk 1 (.seq (sO [oM 15 (kI 0)] (.blk 2 (.loop (.seq (sO [oM 96 15,oM 97 8,oM 98 14,oA 99 1 97 98,oL 100 99,oN 101 100,oB 102 .lss 96 101] (.cnd 102 .skip (.exit 2))) (.seq (.blk 3 (sO [oM 105 4,oM 106 14,oA 107 1 105 106,oL 108 107,oM 109 15,oB 110 .eql 108 109,oM 16 110] (sO [oM 111 8,oM 112 14,oA 113 1 111 112,oL 114 113,oM 115 15,oA 116 1 114 115,oL 117 116,oB 118 .eql 117 (kI 1),oM 119 118,⟨(some 120),(some (119,true)),(.mov 16)⟩,⟨(some 121),(some (119,true)),(.not 120)⟩,oo 122 (.pick 119 121 (kB false)),oM 123 122,⟨(some 124),(some (123,false)),(.mov 8)⟩,⟨(some 125),(some (123,false)),(.mov 14)⟩,⟨(some 126),(some (123,false)),(.ixA 1 124 125)⟩,⟨(some 127),(some (123,false)),(.ld 1 false 126)⟩,⟨(some 128),(some (123,false)),(.mov 15)⟩,⟨(some 129),(some (123,false)),(.ixA 1 127 128)⟩,⟨(some 130),(some (123,false)),(.ld 1 false 129)⟩,⟨(some 131),(some (123,false)),(.bin .eql 130 (kI 2))⟩,⟨(some 132),(some (123,false)),(.mov 131)⟩,⟨(some 133),(some (132,true)),(.mov 16)⟩,⟨(some 134),(some (123,false)),(.pick 132 133 (kB false))⟩,oo 135 (.pick 123 (kB true) 134)] (.cnd 135 (sO [oM 2 (kB false)] .ret) .skip)))) (.ops [oM 103 15,oB 104 .add 103 (kI 1),oM 15 104])))))) (sO [oM 17 (kI 0)] (.blk 4 (.loop (.seq (sO [oM 136 17,oM 137 13,oB 138 .lss 136 137] (.cnd 138 .skip (.exit 4))) (.seq (.blk 5 (sO [oM 141 4,oM 142 14,oA 143 1 141 142,oL 144 143,oM 145 4,oM 146 17,oA 147 1 145 146,oL 148 147,oB 149 .eql 144 148,oM 18 149] (sO [oM 150 10,oM 151 14,oA 152 1 150 151,oL 153 152,oM 154 17,oA 155 1 153 154,oL 156 155,oB 157 .eql 156 (kI 1),oM 158 157,⟨(some 159),(some (158,true)),(.mov 18)⟩,⟨(some 160),(some (158,true)),(.not 159)⟩,oo 161 (.pick 158 160 (kB false)),oM 162 161,⟨(some 163),(some (162,false)),(.mov 10)⟩,⟨(some 164),(some (162,false)),(.mov 14)⟩,⟨(some 165),(some (162,false)),(.ixA 1 163 164)⟩,⟨(some 166),(some (162,false)),(.ld 1 false 165)⟩,⟨(some 167),(some (162,false)),(.mov 17)⟩,⟨(some 168),(some (162,false)),(.ixA 1 166 167)⟩,⟨(some 169),(some (162,false)),(.ld 1 false 168)⟩,⟨(some 170),(some (162,false)),(.bin .eql 169 (kI 2))⟩,⟨(some 171),(some (162,false)),(.mov 170)⟩,⟨(some 172),(some (171,true)),(.mov 18)⟩,⟨(some 173),(some (162,false)),(.pick 171 172 (kB false))⟩,oo 174 (.pick 162 (kB true) 173)] (.cnd 174 (sO [oM 2 (kB false)] .ret) .skip)))) (.ops [oM 139 17,oB 140 .add 139 (kI 1),oM 17 140])))))))) (.ops [oM 94 14,oB 95 .add 94 (kI 1),oM 14 95])))))) (sO [oC 175 22 [],oM 2 175] .ret))))))))))⟩
theorem kplace_c(l:List (List Int))(x:List Int)(hl:l.length<1000000)(hx:∀y∈l,y.length<1000000):FV 56 [.slc 1 (llR l) .non,.slc 1 (iR x) .non] (.int .i64 (plcI x l 0)):=by
 have hL:(llR l).length=l.length:=List.length_map _;refine wk ir56 Tryz.func56 ?_;unfold ir56
 repeat' (first|refine aR ?_|with_reducible refine zI fun y hy=>?_|refine aX ?_|with_reducible intro _|with_reducible refine zJ ?_ fun y hy=>?_|refine aP ?_ ?_)
 all_goals try (exfalso;omega)
 refine w_loopK [0,1] [] (fun q:List (List Int)×List (List Int)=>l=q.1++q.2∧plcI x q.2 (q.1.length:Int)=plcI x l 0) (fun q=>q.2.length) (fun q=>[(5,.int .i64 (q.1.length:Int))]) (fun _=>[]) ([],l) ⟨rfl,rfl⟩ ⟨rfl,trivial⟩ trivial ?_;rintro⟨pre,post⟩ ⟨hl2,hp⟩ e σ;dsimp only at hl2 hp ⊢;have hlen:=congrArg List.length hl2;rw[List.length_append] at hlen;cases post with
 | nil=>
   simp only[List.length_nil] at hlen;rw[←hp]
   repeat' (first|refine aR ?_|with_reducible refine zI fun y hy=>?_|refine aX ?_|with_reducible intro _|with_reducible refine zJ ?_ fun y hy=>?_|refine aP ?_ ?_)
   all_goals first|(exfalso;omega)|rfl
 | cons y post=>
   simp only[List.length_cons] at hlen;have hy:=hx y (by rw[hl2];simp);have hE:=eq_c y x (by omega);rw[plcI] at hp;by_cases hyx:y=x
   · rw[if_pos hyx] at hp;rw[decide_eq_true hyx] at hE;rw[←hp]
     repeat' (first|refine aR ?_|(first|refine w_ixP hl2 rfl rfl ?_)|with_reducible refine zI fun y hy=>?_|((with_reducible refine aC ?_);first|refine aV hE ?_)|refine aX ?_|with_reducible intro _|with_reducible refine zJ ?_ fun y hy=>?_|refine aP ?_ ?_)
     all_goals exact aZ
   · rw[if_neg hyx] at hp;rw[decide_eq_false hyx] at hE
     repeat' (first|refine aR ?_|(first|refine w_ixP hl2 rfl rfl ?_)|with_reducible refine zI fun y hy=>?_|((with_reducible refine aC ?_);first|refine aV hE ?_)|refine aX ?_|with_reducible intro _|with_reducible refine zJ ?_ fun y hy=>?_|refine aP ?_ ?_)
     all_goals first|(exfalso;omega)|exact q_loop (pre++[y],post) ⟨by show l=_;rw[hl2];simp,by dsimp only;rw[len_snoc,←hp];simp⟩ (Nat.lt_succ_self _) ⟨by rw[len_snoc];rfl,trivial⟩ aS aK aK
theorem lf_pos2{M:Md}{y:List Int×Int}(h:y∈(lfO M).1):0<y.2:=by
 unfold lfO at h;split at h
 · unfold lfF at h;exact of_decide_eq_true (List.mem_filter.1 h).2
 · cases h
theorem knowTruth_c(nums:List Int)(hn:nums.length<2^62):FV 10 [.slc 1 (iR nums) .non] (.bool true):=by
 refine wk ir10 Tryz.func10 ?_;unfold ir10
 repeat' (first|refine aR ?_|with_reducible refine zI fun y hy=>?_|((with_reducible refine aC ?_);first|(refine ACall.liftS (boxOf_s nums hn) [] (some 6) rfl rfl rfl trivial (fun _=>rfl) ?_;rintro⟨gb,w⟩ _ rfl)|(refine ACall.box (guest_c _ _ 5 5 (by decide) (by decide)) rfl rfl rfl ?_;rintro _ _ ⟨M,c,rfl,hg⟩))|refine aX ?_|with_reducible intro _|with_reducible refine zJ ?_ fun y hy=>?_|refine aP ?_ ?_)
 have hgm:=hg.g;have hw3:=hgm.n2;have hd24:=hgm.d;have hws:∀w∈M.g.ws,w.name.size≤1000:=fun w hw=>by have:=(madeW_ok hgm.w).2 w hw;omega
 have hE:=guest_err hg (by decide);obtain⟨hne,h5,hok⟩:=lf_ok hE;have hLf:=subV2 (kLeft_c M (by omega) (by omega) hws) (sub_crsA _ _);have hSu:=subV2 (kSure_c M (by omega) (by omega) hws) (sub_lnE _);have hPa:=subV2 (kPairs_c M (by omega) (by omega) hws) (sub_lnE _);have hG:=gm_ok hgm.e;have hw1:=hG.n1;obtain⟨gl1,gl2,gl3⟩:=guest_len hg;have hcen:=hG.cen;have hmem:(c,wtF M c (cwG M.g c))∈(lfO M).1:=by rw[guest_lfO hg (by decide)];exact guest_left hg
 have hpos:=fun y=>lf_pos2 (M:=M) (y:=y);rw[show sureO M=(tabF (censG (stepsG M.g.ds)) M.g.ws.length (sureT (lfL M)),0) by unfold sureO;rw[if_pos hE]] at hSu;rw[show pairO M=(tabF (censG (stepsG M.g.ds)) (censG (stepsG M.g.ds)) (pairT (lfL M)),0) by unfold pairO;rw[if_pos hE]] at hPa;rw[show (lfO M).2=0 by unfold lfO;rw[if_pos hE]] at hLf;obtain⟨k,hk⟩:∃k,censG (stepsG M.g.ds)=k:=⟨_,rfl⟩;obtain⟨W,hW⟩:∃W,M.g.ws.length=W:=⟨_,rfl⟩;have hwR:(wR M.g.ws).length=M.g.ws.length:=List.length_map _;have hcR:(iR c).length=c.length:=List.length_map _;rw[hk] at hSu hPa hok gl1 hcen;rw[hW] at hSu hok hwR gl2 hw1 hw3;obtain⟨A,hA⟩:∃A,(lfO M).1=A:=⟨_,rfl⟩;have hLA:lfL M=A.map (·.1):=by rw[←hA]
 rw[hLA] at hSu hPa hne h5 hok;rw[hA] at hLf hmem hpos;have hcA:c∈A.map (·.1):=List.mem_map.2 ⟨_,hmem,rfl⟩;have hLl:(A.map (·.1)).length=A.length:=List.length_map _;have hLw:(A.map (·.2)).length=A.length:=List.length_map _;obtain⟨n,hn1,hn2⟩:=plcI_mem (k:=0) hcA;have hPl:=kplace_c (A.map (·.1)) c (by omega) (fun y hy=>by have:=(hok y hy).1;omega);rw[hn2,Int.zero_add] at hPl;obtain⟨y,hy1,hy2⟩:∃y,(A.map (·.2))[n]?=some y∧0<y:=by rw[List.getElem?_map] at hn1 ⊢;obtain⟨z,hz1,_⟩:=Option.map_eq_some_iff.1 hn1;exact⟨z.2,by rw[hz1];rfl,hpos z (List.mem_of_getElem? hz1)⟩
 have hnA:n<(A.map (·.2)).length:=(List.getElem?_eq_some_iff.1 hy1).1;obtain⟨hS1,hS2⟩:=at_split (l:=A.map (·.2)) (i:=n) (d:=0) hnA;rw[List.getD_eq_getElem?_getD,hy1,Option.getD_some] at hS1;have hni:AV.int .i64 (n:Int)= .int .i64 ((((A.map (·.2)).take n).length:Nat):Int):=int_eq (by rw[hS2]);have hsq1:=square_c (tabF k W (sureT (A.map (·.1)))) c.length M.g.ws.length (by rw[tabF_len,gl1]) (by omega) (fun y hy=>by rw[hW];exact tabF_row hy);have hsq2:=square_c (tabF k k (pairT (A.map (·.1)))) c.length c.length (by rw[tabF_len,gl1]) (by omega) (fun y hy=>by rw[gl1];exact tabF_row hy);have hT1:=fun i w=>(vdF_1 (p:=fun c:List Int=>decide (c.getD i 0=((w:Nat):Int))) (l:=A.map (·.1)))
 have hF1:∀i w:Nat,(sureT (A.map (·.1)) i w=1→c.getD i 0=(w:Int))∧(sureT (A.map (·.1)) i w=2→c.getD i 0≠(w:Int)):=fun i w=>
  ⟨fun h=>of_decide_eq_true (vdF_1.1 h c hcA),fun h=>of_decide_eq_false ((vdF_2 hne).1 h c hcA)⟩
 have hF2:∀i j:Nat,(pairT (A.map (·.1)) i j=1→c.getD i 0=c.getD j 0)∧(pairT (A.map (·.1)) i j=2→c.getD i 0≠c.getD j 0):=fun i j=>
  ⟨fun h=>of_decide_eq_true (vdF_1.1 h c hcA),fun h=>of_decide_eq_false ((vdF_2 hne).1 h c hcA)⟩
 have haw:=kawake_c;generalize A.map (·.2)=AW at hLf hS1 hS2 hni hLw hnA;generalize A.map (·.1)=L at hLf hSu hPa hPl hsq1 hsq2 hF1 hF2 hLl;generalize sureT L=f1 at hSu hsq1 hF1;generalize pairT L=f2 at hPa hsq2 hF2;have hlR:(llR L).length=L.length:=List.length_map _;have hwR2:(iR AW).length=AW.length:=List.length_map _
 repeat' (first|refine aR ?_|(first|refine w_ixP (f:=fI) hS1 rfl hni ?_)|with_reducible refine zI fun y hy=>?_|((with_reducible refine aC ?_);first|refine aV hLf ?_|refine aV hSu ?_|refine aV hPa ?_|refine aV hPl ?_|refine aV hsq1 ?_|refine aV hsq2 ?_)|refine aX ?_|with_reducible intro _|with_reducible refine zJ ?_ fun y hy=>?_|refine aP ?_ ?_)
 all_goals try (exfalso;omega)
 refine w_loopK [4,8,10,13] [3] (fun i:Nat=>i≤k) (fun i=>k-i) (fun i=>[(14,.int .i64 (i:Int))]) (fun _=>[]) 0 (Nat.zero_le _) ⟨rfl,trivial⟩ trivial ?_;intro i hi e σ;by_cases hik:i<k
 rotate_left
 · repeat' (first
    | with_reducible (first|refine Rd.p ?_|refine w_alt ?_ ?_|refine zE ?_|refine zE0 ?_)
    | with_reducible (first|refine zI fun y hy=>?_|refine zL ?_|refine zS ?_|refine zA fun _=>?_|refine zV ?_|refine zC ?_|refine zG ?_|refine zU ?_|refine zG0 ?_|refine zU0 ?_|refine zF ?_)
    | ((with_reducible refine acall_id ?_);refine ACall.val haw rfl rfl ?_)
    | with_reducible (first|refine zX ?_|refine zD fun _=>?_|refine zD0 ?_|refine zN ?_|refine zF0 ?_|refine zX0 ?_|refine z1 ?_|refine z2 ?_|refine z3 ?_|refine z4 ?_|refine z5 ?_|refine z6 ?_|refine z7 ?_|refine z8 ?_|refine y1 ?_|refine y2 ?_|refine y3 ?_|refine y4 ?_|refine y5 ?_|refine y6 ?_|refine y7 ?_|refine y8 ?_|refine Rt.p (fun _=>?_) fun _=>?_)
    | ((with_reducible apply w_ixM);(focus exact rfl);(focus exact rfl);case' hk=>intro y hy)|((with_reducible (first | apply w_val | apply q_ends));(focus exact rfl)))
   all_goals exact aZ
 obtain⟨cA,cB⟩:=at_split (l:=c) (i:=i) (d:=0) (by omega);have cI:AV.int .i64 (i:Int)= .int .i64 (((c.take i).length:Nat):Int):=int_eq (by rw[cB])
 repeat' (first|refine aR ?_|with_reducible refine zI fun y hy=>?_|refine aX ?_|with_reducible intro _|with_reducible refine zJ ?_ fun y hy=>?_|refine aP ?_ ?_)
 all_goals try (exfalso;omega)
 refine w_loopK [4,8,10,13,14] [3] (fun w:Nat=>w≤W) (fun w=>W-w) (fun w=>[(15,.int .i64 (w:Int))]) (fun _=>[]) 0 (Nat.zero_le _) ⟨rfl,trivial⟩ trivial ?_;intro w hw e2 σ2;by_cases hwW:w<W
 · obtain⟨p1,q1,r1,s1,t1,hA1,hA2,hA3,hA4,hA5⟩:=tabF_at (f:=f1) hik hwW;have hI1:AV.int .i64 (i:Int)= .int .i64 ((p1.length:Nat):Int):=int_eq (by rw[hA2]);have hI2:AV.int .i64 (w:Int)= .int .i64 ((s1.length:Nat):Int):=int_eq (by rw[hA5]);have hrl:(iR r1).length=r1.length:=List.length_map _;obtain⟨k1,k2⟩:=hF1 i w;generalize f1 i w=v at hA4 k1 k2;generalize c.getD i 0=ci at cA k1 k2
   repeat' (first|refine aR ?_|(first|refine w_ixP (f:=fI) cA rfl cI ?_|refine w_ixP (f:=fL) hA1 rfl hI1 ?_|refine w_ixP (f:=fI) hA4 rfl hI2 ?_)|with_reducible refine zI fun y hy=>?_|refine aX ?_|with_reducible intro _|with_reducible refine zJ ?_ fun y hy=>?_|refine aP ?_ ?_)
   all_goals first|(exfalso;omega)|exact q_loop (w+1) (by show w+1≤W;omega) (by show W-(w+1)<W-w;omega) aS aS aK aK
 obtain⟨p1,q1,r1,hA1,hA2,hA3⟩:=tabF_rw (n:=W) (f:=f1) hik;have hI1:AV.int .i64 (i:Int)= .int .i64 ((p1.length:Nat):Int):=int_eq (by rw[hA2]);have hrl:(iR r1).length=r1.length:=List.length_map _
 repeat' (first|refine aR ?_|(first|refine w_ixP (f:=fL) hA1 rfl hI1 ?_)|with_reducible refine zI fun y hy=>?_|refine aX ?_|with_reducible intro _|with_reducible refine zJ ?_ fun y hy=>?_|refine aP ?_ ?_)
 all_goals try (exfalso;omega)
 refine w_loopK [4,8,10,13,14] [3] (fun w:Nat=>w≤k) (fun w=>k-w) (fun w=>[(17,.int .i64 (w:Int))]) (fun _=>[]) 0 (Nat.zero_le _) ⟨rfl,trivial⟩ trivial ?_;intro j hj e3 σ3;by_cases hjk:j<k
 · obtain⟨p1,q1,r1,s1,t1,hA1,hA2,hA3,hA4,hA5⟩:=tabF_at (f:=f2) hik hjk;obtain⟨dA,dB⟩:=at_split (l:=c) (i:=j) (d:=0) (by omega);have dI:AV.int .i64 (j:Int)= .int .i64 (((c.take j).length:Nat):Int):=int_eq (by rw[dB]);have hI1:AV.int .i64 (i:Int)= .int .i64 ((p1.length:Nat):Int):=int_eq (by rw[hA2]);have hI2:AV.int .i64 (j:Int)= .int .i64 ((s1.length:Nat):Int):=int_eq (by rw[hA5]);have hrl:(iR r1).length=r1.length:=List.length_map _;obtain⟨k1,k2⟩:=hF2 i j;generalize f2 i j=v at hA4 k1 k2;generalize c.getD i 0=ci at cA k1 k2;generalize c.getD j 0=cj at dA k1 k2
   repeat' (first|refine aR ?_|(first|refine w_ixP (f:=fI) cA rfl cI ?_|refine w_ixP (f:=fI) dA rfl dI ?_|refine w_ixP (f:=fL) hA1 rfl hI1 ?_|refine w_ixP (f:=fI) hA4 rfl hI2 ?_)|with_reducible refine zI fun y hy=>?_|refine aX ?_|with_reducible intro _|with_reducible refine zJ ?_ fun y hy=>?_|refine aP ?_ ?_)
   all_goals first|(exfalso;omega)|exact q_loop (j+1) (by show j+1≤k;omega) (by show k-(j+1)<k-j;omega) aS aS aK aK
 · repeat' (first
    | with_reducible (first|refine Rd.p ?_|refine w_alt ?_ ?_|refine zE ?_|refine zE0 ?_)
    | with_reducible (first|refine zI fun y hy=>?_|refine zL ?_|refine zS ?_|refine zA fun _=>?_|refine zV ?_|refine zC ?_|refine zG ?_|refine zU ?_|refine zG0 ?_|refine zU0 ?_|refine zF ?_)
    | with_reducible (first|refine zX ?_|refine zD fun _=>?_|refine zD0 ?_|refine zN ?_|refine zF0 ?_|refine zX0 ?_|refine z1 ?_|refine z2 ?_|refine z3 ?_|refine z4 ?_|refine z5 ?_|refine z6 ?_|refine z7 ?_|refine z8 ?_|refine y1 ?_|refine y2 ?_|refine y3 ?_|refine y4 ?_|refine y5 ?_|refine y6 ?_|refine y7 ?_|refine y8 ?_|refine Rt.p (fun _=>?_) fun _=>?_)
    | ((with_reducible apply w_ixM);(focus exact rfl);(focus exact rfl);case' hk=>intro y hy)|((with_reducible (first | apply w_val | apply q_ends));(focus exact rfl)))
   all_goals first|(exfalso;omega)|exact q_loop (i+1) (by show i+1≤k;omega) (by show k-(i+1)<k-i;omega) aS aS aK aK
end Go.Abs
