/- A part of the proofs: contracts of functions. -/
import Derived.Test.YtioggblimkgioaaGreatProg
import Derived.Test.YtioggblimkgioaaGreatSnd3
import Derived.Test.YtioggblimkgioaaGreatA0
import Derived.Test.YtioggblimkgioaaGreatQ1g
set_option linter.unusedVariables false
set_option linter.unusedSimpArgs false
set_option maxRecDepth 20000
set_option maxHeartbeats 2000000
namespace Go.Abs
open Go.Proofs
theorem vdF_1{α:Type}{p:α→Bool}{l:List α}:vdF p l=1↔ ∀x∈l,p x=true:=by
 unfold vdF vdN;rw[←List.filter_eq_self]
 constructor
 · intro h;split at h
   · rename_i h1;exact (List.filter_sublist).eq_of_length h1
   · split at h<;>exact absurd h (by decide)
 · intro h;rw[if_pos (congrArg _ h)]
theorem vdF_2{α:Type}{p:α→Bool}{l:List α}(hl:l≠[]):vdF p l=2↔ ∀x∈l,p x=false:=by
 unfold vdF vdN
 constructor
 · intro h x hx;split at h
   · exact absurd h (by decide)
   · split at h
     · rename_i h2;have h3:=List.eq_nil_of_length_eq_zero h2;cases hp:p x with
       | false=>rfl
       | true=> have:x∈l.filter p:=List.mem_filter.2 ⟨hx,hp⟩;rw[h3] at this;cases this
     · exact absurd h (by decide)
 · intro h;have h3:l.filter p=[]:=List.filter_eq_nil_iff.2 fun x hx=>by rw[h x hx];decide
   rw[h3,if_neg (fun e=>hl (List.eq_nil_of_length_eq_zero e.symm)),if_pos List.length_nil]
theorem vdN_bd(c n:Nat):1≤vdN c n∧vdN c n≤3:=by unfold vdN;split<;>(try split)<;>omega
theorem vdF_bd{α:Type}(p:α→Bool)(l:List α):1≤vdF p l∧vdF p l≤3:=vdN_bd _ _
def pairT(L:List (List Int))(i j:Nat):Int:=vdF (fun c:List Int=>decide (c.getD i 0=c.getD j 0)) L
def pairO(M:Md):List (List Int)×Int:=if mdErr M=0 then (tabF (censG (stepsG M.g.ds)) (censG (stepsG M.g.ds)) (pairT (lfL M)),0) else ([],mdErr M)
def ir127:IFn:= ⟨14,[(4,none)],(sO [oM 4 (kB false)] (sO [oM 5 0,oL 6 1,oA 7 1 5 6,oL 8 7,oM 9 0,oL 10 2,oA 11 1 9 10,oL 12 11,oB 13 .eql 8 12,oM 4 13] .ret))⟩
def ir55:IFn:= ⟨49,[(2,none),(3,none)],(sO [oo 1 (.box 5 0),oM 2 (.k .nsl),oM 3 (kI 0)] (sO [oo 11 (.ld 5 true 1),oC 12 19 [11],oM 10 12,oE 13 0 10,oE 14 1 10,oE 15 2 10,oM 4 13,oM 5 14,oM 6 15] (.seq (sO [oM 16 6,oB 17 .neq 16 (kI 0)] (.cnd 17 (sO [oM 18 6,oM 2 (.k .nsl),oM 3 18] .ret) .skip)) (sO [oM 19 4,oo 20 (.ixA 1 19 (kI 0)),oL 21 20,oN 22 21,oo 23 (.mks 1 24 [.nsl] 22 22),oM 7 23] (.seq (sO [oM 24 7,oN 25 24,oM 26 (kI 0)] (.blk 0 (.loop (sO [oB 27 .lss 26 25] (.seq (.cnd 27 .skip (.exit 0)) (.seq (.blk 1 (sO [oM 28 26,oo 8 (.new [z0]),oS 1 8 28] (.seq (.seq (.frz 8) (.ops [oM 29 7,oN 30 29,oM 31 (kI 0)])) (.blk 2 (.loop (sO [oB 32 .lss 31 30] (.seq (.cnd 32 .skip (.exit 2)) (.seq (.blk 3 (sO [oM 33 31,oo 9 (.new [z0]),oS 1 9 33] (.seq (.frz 9) (.ops [oM 34 7,oL 35 8,oM 36 7,oL 37 8,oA 38 1 36 37,oL 39 38,oM 40 4,oo 41 (.mkf (.func 127) [] [8,9]),oC 42 114 [40,41],oK 8 35,oK 8 37,oK 38 39,oo 43 (.bsl 1 [[z0]] [(0,42)]),oo 44 (.app 1 8 39 43 44),oK 8 35,oA 45 1 34 35,oS 1 45 44])))) (.ops [oB 46 .add 31 (kI 1),oM 31 46]))))))))) (.ops [oB 47 .add 26 (kI 1),oM 26 47]))))))) (.seq (.seq (.frz 7) (.ops [oM 48 7,oM 2 48,oM 3 (kI 0)])) .ret))))))⟩
def hint55(P:Program):Hint:={site:=[],nils:=[],frz:=[(30,8),(35,9),(48,7)],mve:=[],wr:=[] }
theorem pair1_c(c:List Int)(i j:Nat)(hi:i<c.length)(hj:j<c.length)(hc:c.length<1000):FV 127 [.slc 1 (iR c) .non,.pin [.int .i64 (i:Int)],.pin [.int .i64 (j:Int)]] (.bool (decide (c.getD i 0=c.getD j 0))):=by
 have hcl:(iR c).length=c.length:=List.length_map _;obtain⟨hA,hA2⟩:=at_split (l:=c) (i:=i) (d:=0) hi;have hai:AV.int .i64 (i:Int)= .int .i64 ((c.take i).length:Int):=int_eq (by rw[hA2]);obtain⟨hB,hB2⟩:=at_split (l:=c) (i:=j) (d:=0) hj;have hbi:AV.int .i64 (j:Int)= .int .i64 ((c.take j).length:Int):=int_eq (by rw[hB2]);obtain⟨x,hx⟩:∃x,c.getD i 0=x:=⟨_,rfl⟩;obtain⟨y,hy⟩:∃y,c.getD j 0=y:=⟨_,rfl⟩;rw[hx] at hA ⊢;rw[hy] at hB ⊢;refine wk ir127 Tryz.func127 ?_;unfold ir127
 repeat' (first|refine aR ?_|(first|refine w_ixP (f:=fI) hA rfl hai ?_|refine w_ixP (f:=fI) hB rfl hbi ?_)|with_reducible refine zI fun y hy=>?_|refine aX ?_|with_reducible intro _|with_reducible refine zJ ?_ fun y hy=>?_|refine aP ?_ ?_)
 all_goals exact aZ
theorem kPairs_c(M:Md)(hw:M.g.ws.length<1000)(hd:M.g.ds.length<1000)(hs:∀w∈M.g.ws,w.name.size≤1000):FV 55 [mdA M] (lnE (pairO M)):=by
 have hLf:=kLeft_c M hw hd hs;by_cases h0:mdErr M=0
 rotate_left
 · rw[show lfO M=([],mdErr M) by unfold lfO;rw[if_neg h0]] at hLf;rw[show pairO M=([],mdErr M) by unfold pairO;rw[if_neg h0]];refine RawC.walk (H:=hint55 Tryz.prog) ir55 Tryz.func55 rfl rfl rfl ?_;unfold ir55
   repeat' (first|refine aR ?_|((with_reducible refine aC ?_);first|refine aV hLf ?_)|refine aX ?_|with_reducible intro _|refine aP ?_ ?_)
   all_goals exact aZ
 rw[show pairO M=(tabF (censG (stepsG M.g.ds)) (censG (stepsG M.g.ds)) (pairT (lfL M)),0) by unfold pairO;rw[if_pos h0]];obtain⟨hne,h5,hok⟩:=lf_ok h0;obtain⟨_,h1,_⟩:=mdErr_ok h0;obtain⟨hG,_⟩:=crsK_ok h1;have hk1:=hG.cen.1;have hk9:=hG.cen.2;have hw1:=hG.n1;have hw6:=hG.n6;rw[show (lfO M).2=0 by unfold lfO;rw[if_pos h0]] at hLf;replace hLf:FV 19 [mdA M] (.tup [.slc 1 (llR (lfL M)) .non,.slc 1 (iR ((lfO M).1.map (·.2))) .non,.int .i64 0]):=subV2 hLf (sub_crsA _ _);generalize lfL M=L at hLf hne h5 hok ⊢;generalize (lfO M).1.map (·.2)=Lw at hLf;obtain⟨k,hk⟩:∃k,censG (stepsG M.g.ds)=k:=⟨_,rfl⟩;obtain⟨W,hW⟩:∃W,M.g.ws.length=W:=⟨_,rfl⟩;have hwR:(wR M.g.ws).length=M.g.ws.length:=List.length_map _;rw[hk] at hk1 hk9 hok ⊢;rw[hW] at hok hwR hw1 hw6;try rw[hW]
 rw[show lnE (tabF k k (pairT L),0)=llE (tabF k k (pairT L),0) by unfold lnE;rw[lnV_ne (List.ne_nil_of_length_pos (by rw[tabF_len];omega))]];obtain⟨c0,L',hcc⟩:=List.exists_cons_of_ne_nil hne;have hc0:=(hok c0 (by rw[hcc];simp)).1;have hcl:(iR c0).length=c0.length:=List.length_map _
 have hV:∀i j:Nat,i<k→j<k→FV 114 [.slc 1 (llR L) .non,.clo (.func 127) [] [.pin [.int .i64 (i:Int)],.pin [.int .i64 (j:Int)]]] (.int .i64 (pairT L i j)):=fun i j hi hj=>
  verdict_c _ _ _ _ L (by omega) fun x hx=>by have:=(hok x hx).1;exact pair1_c x i j (by omega) (by omega) (by omega)
 refine RawC.walk (H:=hint55 Tryz.prog) ir55 Tryz.func55 rfl rfl rfl ?_;unfold ir55
 repeat' (first|refine aR ?_|(first|refine w_ixP (f:=fL) (pre:=[]) hcc rfl rfl ?_|(refine w_mksL (n:=c0.length) rfl (by omega) ?_;intro g23;rw[hc0]))|((with_reducible refine aC ?_);first|refine aV hLf ?_)|refine aX ?_|with_reducible intro _|refine aP ?_ ?_)
 all_goals try (exfalso;omega)
 refine w_loopK [4,7,25] [1] (fun x:List (List Int×Nat)=>x.length≤k∧x.map (·.1)=tabF x.length k (pairT L)) (fun x=>k-x.length) (fun x=>[(26,.int .i64 x.length)])
  (fun x=>[(23,(g23,.row (x.map (ownN 44)++List.replicate (k-x.length) AV.nsl)))]) [] ⟨by simp,rfl⟩ ⟨rfl,trivial⟩ ⟨rfl,trivial⟩ ?_
 rintro done ⟨hd1,hd2⟩ e1 σ1;dsimp only at hd1 hd2 ⊢;by_cases hlt:done.length<k
 case neg=>
  have hfin:done.map (ownN 44)++List.replicate (k-done.length) AV.nsl=done.map (ownN 44):=by rw[show k-done.length=0 by omega];simp
  have hdk:done.length=k:=by omega
  repeat' (first|refine aR ?_|refine aL ?_|(refine w_frzNk (k:=44) (xs:=done) rfl (show _ from congrArg (fun c=>((g23,Res.row c):Nat×Res)) hfin) (by omega) ?_)|refine aX ?_|with_reducible intro _|refine aP ?_ ?_)
  all_goals first|(exfalso;omega)|(rw[hd2,hdk];rfl)
 have hrep:List.replicate (k-done.length) AV.nsl=AV.nsl::List.replicate (k-done.length-1) AV.nsl:=by rw[show k-done.length=(k-done.length-1)+1 by omega,List.replicate_succ];simp
 have hdl:(done.map (ownN 44)).length=done.length:=by simp
 repeat' (first|refine aR ?_|refine aL ?_|(refine w_frzK (j:=23) rfl rfl rfl (by decide) rfl frzL_ow ?_)|refine aX ?_|with_reducible intro _|refine aP ?_ ?_)
 all_goals try (exfalso;omega)
 refine w_loopK [4,7,8,25,26,30] [1] (fun x:Nat×List Int×Nat=>x.1≤k∧x.2.1=(List.range x.1).map fun b=>pairT L done.length b) (fun x=>k-x.1) (fun x=>[(31,.int .i64 x.1)])
  (fun x=>[(23,(g23,.row (done.map (ownN 44)++curN 44 x.2.1 x.2.2::List.replicate (k-done.length-1) AV.nsl)))]++curSN 44 x.2.1 x.2.2) (0,[],0) ⟨Nat.zero_le _,rfl⟩ ⟨rfl,trivial⟩ (by exact⟨congrArg (fun c=>((g23,Res.row (done.map (ownN 44)++c)):Nat×Res)) hrep,trivial⟩) ?_
 rintro⟨b,cur,g46⟩ ⟨hb,hc⟩ e2 σ2;dsimp only at hb hc ⊢;have hcl:cur.length=b:=by rw[hc];simp
 by_cases hb2:b<k
 case neg=>
  have hb3:b=k:=by omega
  cases cur with
  | nil=>exfalso;simp at hcl;omega
  | cons c0 cur=>
    have hnx:done.map (ownN 44)++curN 44 (c0::cur) g46::List.replicate (k-done.length-1) AV.nsl=(done++[(c0::cur,g46)]).map (ownN 44)++List.replicate (k-(done++[(c0::cur,g46)]).length) AV.nsl:=by rw[List.map_append,List.length_append,List.append_assoc];rfl
    repeat' (first|refine aR ?_|refine aX ?_|with_reducible intro _|refine aP ?_ ?_)
    all_goals try (exfalso;omega)
    refine q_loop (done++[(c0::cur,g46)]) ?_ ?_ aS (by exact⟨congrArg (fun c=>((g23,Res.row c):Nat×Res)) hnx,trivial⟩) aK aK
    · refine⟨by simp;omega,?_⟩;rw[List.map_append,hd2,List.length_append,List.length_singleton];unfold tabF;rw[List.range_succ,List.map_append];simp only[List.map_cons,List.map_nil];rw[hc,hb3]
    · simp;omega
 have hv:=hV done.length b hlt hb2;have hcn:cur++[pairT L done.length b]=(List.range (b+1)).map fun b=>pairT L done.length b:=by rw[List.range_succ,List.map_append,←hc];rfl
 rcases cur with _ | ⟨c0,cur⟩
 all_goals
  repeat' (first|refine aR ?_|(first|refine w_ldC rfl rfl (by rw[hdl];omega) rfl ?_|refine w_chC rfl rfl (by rw[hdl];omega) rfl rfl ?_|refine w_stC rfl rfl (by rw[hdl];omega) rfl ?_)|refine aL ?_|(refine w_frzK (j:=23) rfl rfl rfl (by decide) rfl frzL_ow2 ?_)|((with_reducible refine aC ?_);first|refine aV hv ?_)|refine aX ?_|with_reducible intro _|refine aP ?_ ?_)
 all_goals try (exfalso;omega)
 all_goals first|exact q_loop (b+1,[_],_) ⟨hb2,hcn⟩ (by dsimp only;omega) aS aS aK aK|exact q_loop (b+1,c0::cur++[_],_) ⟨hb2,hcn⟩ (by dsimp only;omega) aS aS aK aK
end Go.Abs
set_option linter.unusedVariables false
set_option linter.unusedSimpArgs false
set_option maxRecDepth 20000
set_option maxHeartbeats 2000000
namespace Go.Abs
open Go.Proofs
def ir42:IFn:= ⟨45,[(4,some (1,false)),(5,some (1,false)),(6,some (1,false))],(sO [oo 2 (.box 5 0),oo 3 (.box 2 1),oo 4 (.new [.nsl]),oo 5 (.new [(.bool false)]),oo 6 (.new [z0])] (sO [oo 13 (.ld 5 true 2),oC 14 72 [13],oM 12 14,oE 15 0 12,oE 16 1 12,oo 7 (.new [.nsl,.nsl,.nsl,.nsl]),oS 4 7 15,oS 1 6 16] (.seq (sO [oL 17 6,oB 18 .neq 17 (kI 0)] (.cnd 18 (sO [oL 19 6,⟨none,none,(.st 1 4 (.k .nsl))⟩,oK 6 19,oS 1 5 (kB false),oK 6 19,oS 1 6 19] .ret) .skip)) (.seq (sO [oo 20 (.ld 4 true 7),oo 21 (.ld 2 true 3),oC 22 101 [20,21],oM 8 22] (sO [oM 23 8,oB 24 .neq 23 (kI 0)] (.cnd 24 (sO [oM 25 8,⟨none,none,(.st 1 4 (.k .nsl))⟩,oS 1 5 (kB false),oS 1 6 25] .ret) .skip))) (sO [oo 9 (.new [(.bool false)]),oS 1 9 (kB true)] (.seq (sO [oo 26 (.ld 4 true 7),oo 27 (.ld 5 true 2),oC 28 73 [26,27]] (.blk 0 (.rf 28 [29,30] (.ops [oM 10 29]) (.blk 1 (sO [oo 31 (.ld 4 true 7),oo 32 (.ld 2 true 3),oM 33 10,oC 34 102 [31,32,33],oM 11 34] (.seq (sO [oL 35 9,oo 36 (.not 35),oM 37 36,⟨(some 38),(some (37,true)),(.mov 11)⟩,⟨(some 39),(some (37,true)),(.ld 1 false 4)⟩,⟨(some 40),(some (37,true)),(.callF 103 [38,39])⟩,⟨(some 41),(some (37,true)),(.not 40)⟩,oo 42 (.pick 37 41 (kB false))] (.cnd 42 (sO [⟨none,none,(.st 1 4 (.k .nsl))⟩,oS 1 5 (kB false),oS 1 6 (kI 0)] .ret) .skip)) (.ops [oM 43 11,oS 1 4 43,oS 1 9 (kB false)]))))))) (sO [oL 44 4,oS 1 4 44,oS 1 5 (kB true),oS 1 6 (kI 0)] .ret)))))))⟩
def decG:Option (List Int)→List (List Int)→Option (List Int)
 | o,[]=>o
 | none,d::r=>decG (some d) r
 | some x,d::r=>if d=x then decG (some x) r else none
abbrev decF(D:List (List Int)):Option (List Int):=decG none D
def decO(M:Md)(a:Aq):Option (List Int)×Int:=if mdErr M=0 then (if askErr M.g.ws.length a=0 then (decF ((lfL M).map (dueF M.g a)),0) else (none,askErr M.g.ws.length a)) else (none,mdErr M)
def decV:Option (List Int)→AV
 | none=> .nsl
 | some x=> .slc 1 (iR x) .non
def decB:Option (List Int)→AV
 | none=> .bool true
 | some _=> .bool false
def decA(x:Option (List Int)×Int):AV:= .tup [decV x.1,.bool x.1.isSome,.int .i64 x.2]
theorem kDecided_c(M:Md)(a:Aq)(hw:M.g.ws.length<1000)(hd:M.g.ds.length<1000)(hs:∀w∈M.g.ws,w.name.size≤1000):FV 42 [mdA M,aqA a] (decA (decO M a)):=by
 have hck:=checked_c M hw hd hs;by_cases h0:mdErr M=0
 rotate_left
 · rw[show decO M a=(none,mdErr M) from if_neg h0];refine wk ir42 Tryz.func42 ?_;unfold ir42
   repeat' (first|refine aR ?_|with_reducible refine zI fun y hy=>?_|((with_reducible refine aC ?_);first|refine aV hck ?_)|refine aX ?_|with_reducible intro _|with_reducible refine zJ ?_ fun y hy=>?_|refine aP ?_ ?_)
   all_goals exact aZ
 obtain⟨hne,h5,hok⟩:=lf_ok h0;obtain⟨hM,h1,hne2⟩:=mdErr_ok h0;obtain⟨hG,hg0,hC1,hC2,hC3⟩:=crsK_ok h1;have hcl:=hG.cen;have hw6:=hG.n6;have hLe:lfL M=(lfF M (crsG M.g)).map (·.1):=by unfold lfL lfO;rw[if_pos h0,hC1]
 rw[h0,hC1] at hck;obtain⟨c0,C',hcc⟩:=List.exists_cons_of_ne_nil hC3;have hc0:=hC2.c c0 (by rw[hcc];simp);have hca:=tcheckAsk_c M.g a c0 C' hw hd hs (by omega);rw[(duO_ok hg0 hc0.1 hc0.2.1).1,←hcc] at hca;by_cases h2:askErr M.g.ws.length a=0
 rotate_left
 · rw[show decO M a=(none,askErr M.g.ws.length a) by unfold decO;rw[if_pos h0,if_neg h2]];refine wk ir42 Tryz.func42 ?_;unfold ir42
   repeat' (first|refine aR ?_|with_reducible refine zI fun y hy=>?_|((with_reducible refine aC ?_);first|refine aV hck ?_|refine aV hca ?_)|refine aX ?_|with_reducible intro _|with_reducible refine zJ ?_ fun y hy=>?_|refine aP ?_ ?_)
   all_goals exact aZ
 rw[h2] at hca;have hdu:∀c∈lfL M,FV 102 [tbA M.g (crsG M.g),aqA a,.slc 1 (iR c) .non] (.slc 1 (iR (dueF M.g a c)) .non):=fun c hc=>by obtain⟨q1,q2⟩:=hok c hc;have:=tdue_c M.g a (crsG M.g) c hw hd hs (by omega);rw[(duO_ok hg0 q1 q2).2 h2] at this;exact this
 have hdl:∀c∈lfL M,(dueF M.g a c).length≤100:=fun c hc=>by have:=dueF_len M.g a c;have:=(hok c hc).1;omega
 have hit:=left_it M (crsG M.g) hM (by omega) hG.n6 hC2;have hlf:=tleft_c M (crsG M.g);rw[show decO M a=(decF (((lfF M (crsG M.g)).map (·.1)).map (dueF M.g a)),0) by unfold decO;rw[if_pos h0,if_pos h2,hLe]];rw[hLe] at hdu hdl hne;generalize lfF M (crsG M.g)=L at hit hdu hdl hne ⊢;generalize dueF M.g a=du at hdu hdl ⊢;obtain⟨R,hR⟩:∃R,decF ((L.map (·.1)).map du)=R:=⟨_,rfl⟩;rw[hR];refine wk ir42 Tryz.func42 ?_;unfold ir42
 repeat' (first|refine aR ?_|with_reducible refine zI fun y hy=>?_|((with_reducible refine aC ?_);first|refine aV hck ?_|refine aV hca ?_|refine aV hlf ?_)|refine aX ?_|with_reducible intro _|with_reducible refine zJ ?_ fun y hy=>?_|refine aP ?_ ?_)
 all_goals try (exfalso;omega)
 rename_i g2 g3 g4 g5 g6 g7 g9;refine w_rfM encC L rfl hit (fun _=>rfl) [2,3,5,6,7] (fun (rest:List (List Int×Int)) (y:Option (List Int))=>decG y ((rest.map (·.1)).map du)=R∧(y=none→rest≠[])∧(∀c∈rest,c.1∈L.map (·.1))∧ ∀d,y=some d→d.length≤100) (fun y=>[(4,(g4,.row [decV y])),(9,(g9,.row [decB y]))]) none ⟨hR,fun _ h=>hne (by rw[h];rfl),fun c hc=>List.mem_map.2 ⟨c,hc,rfl⟩,fun d h=>by cases h⟩ ⟨rfl,rfl,trivial⟩ ?_ ?_
 · rintro⟨c,n⟩ rest y ⟨hr,hy,hm,hyl⟩ σ';have hcm:=hm (c,n) (by simp);have hdc:=hdu c hcm;have hdcl:=hdl c hcm;have hm':∀x∈rest,x.1∈L.map (·.1):=fun x hx=>hm x (by simp[hx]);rw[List.map_cons,List.map_cons] at hr;dsimp only at hr;cases y with
   | none=>
     repeat' (first|refine aR ?_|with_reducible refine zI fun y hy=>?_|((with_reducible refine aC ?_);first|refine aV hdc ?_)|refine aX ?_|with_reducible intro _|with_reducible refine zJ ?_ fun y hy=>?_|refine aP ?_ ?_)
     all_goals first|(exfalso;omega)|exact q_rnd (some (du c)) ⟨hr,(fun h=>by cases h),hm',(fun d h=>by cases h;exact hdcl)⟩ aS aK
   | some x=>
     have hxl:=hyl x rfl;have hEq:=eqlK_c (du c) x (by omega);rw[decG] at hr;by_cases hx:du c=x
     · rw[if_pos hx] at hr;rw[decide_eq_true hx] at hEq
       repeat' (first|refine aR ?_|with_reducible refine zI fun y hy=>?_|((with_reducible refine aC ?_);first|refine aV hdc ?_|refine aV hEq ?_)|refine aX ?_|with_reducible intro _|with_reducible refine zJ ?_ fun y hy=>?_|refine aP ?_ ?_)
       all_goals first|(exfalso;omega)|exact q_rnd (some x) ⟨hr,(fun h=>by cases h),hm',hyl⟩ ⟨by rw[hx];rfl,rfl,trivial⟩ aK
     · rw[if_neg hx] at hr;rw[decide_eq_false hx] at hEq;subst hr
       repeat' (first|refine aR ?_|with_reducible refine zI fun y hy=>?_|((with_reducible refine aC ?_);first|refine aV hdc ?_|refine aV hEq ?_)|refine aX ?_|with_reducible intro _|with_reducible refine zJ ?_ fun y hy=>?_|refine aP ?_ ?_)
       all_goals exact aZ
 · rintro y ⟨hr,hy,_,_⟩ σ';cases y with
   | none=>exact absurd rfl (hy rfl)
   | some x=>
     have hr2:R=some x:=hr.symm;subst hr2
     repeat' (first|refine aR ?_|with_reducible refine zI fun y hy=>?_|refine aX ?_|with_reducible intro _|with_reducible refine zJ ?_ fun y hy=>?_|refine aP ?_ ?_)
     all_goals exact aZ
theorem decG_some:∀{D:List (List Int)} {x y:List Int},decG (some x) D=some y↔x=y∧ ∀d∈D,d=x
 | [],x,y=>by simp[decG]
 | d::r,x,y=>by
   rw[decG];by_cases h:d=x
   · rw[if_pos h,decG_some]
     constructor
     · rintro⟨h1,h2⟩;exact⟨h1,fun z hz=>(List.mem_cons.1 hz).elim (fun e=>e.trans h) (h2 z)⟩
     · rintro⟨h1,h2⟩;exact⟨h1,fun z hz=>h2 z (by simp[hz])⟩
   · rw[if_neg h]
     constructor
     · intro h2;cases h2
     · rintro⟨_,h2⟩;exact absurd (h2 d (by simp)) h
theorem decF_cons{D:List (List Int)}{x y:List Int}:decF (x::D)=some y↔x=y∧ ∀d∈D,d=x:=decG_some
end Go.Abs
set_option linter.unusedVariables false
set_option linter.unusedSimpArgs false
set_option maxRecDepth 20000
set_option maxHeartbeats 2000000
namespace Go.Abs
open Go.Proofs
def fsD:List Int→List Int→List Int
 | o,[]=>o
 | o,x::r=>if x∈o then fsD o r else fsD (o++[x]) r
theorem numF_mapK{f:Int→Int}:∀(l met:List Int),(∀a b,a∈met++l→b∈met++l→f a=f b→a=b)→numF (met.map f) (l.map f)=numF met l
 | [],_,_=>rfl
 | x::r,met,h=>by
   have hm:f x∈met.map f↔x∈met:=by
    constructor
    · intro hx;obtain⟨y,hy,e⟩:=List.mem_map.1 hx;rw[←h y x (by simp[hy]) (by simp) e];exact hy
    · exact fun hx=>List.mem_map.2 ⟨x,hx,rfl⟩
   have hi:x∈met→(met.map f).idxOf (f x)=met.idxOf x:=by
    have key:∀m:List Int,(∀y∈m,f y=f x→y=x)→x∈m→(m.map f).idxOf (f x)=m.idxOf x:=by
     intro m;induction m with
     | nil=>intro _ hx;cases hx
     | cons a m ih=>
       intro hy hx;rw[List.map_cons,List.idxOf_cons,List.idxOf_cons];by_cases e:a=x
       · subst e;simp
       · have e2:f a≠f x:=fun e2=>e (hy a (by simp) e2);rw[show (f a == f x)=false by simpa using e2,show (a == x)=false by simpa using e];have:=ih (fun y hy'=>hy y (by simp[hy'])) ((List.mem_cons.1 hx).resolve_left fun h=>e h.symm);rw[this]
    exact key met fun y hy e=>h y x (by simp[hy]) (by simp) e
   rw[List.map_cons,numF,numF];by_cases hx:x∈met
   · rw[if_pos hx,if_pos (hm.2 hx),hi hx,numF_mapK r met fun a b ha hb=>h a b (by rcases List.mem_append.1 ha with q | q<;>simp[q]) (by rcases List.mem_append.1 hb with q | q<;>simp[q])]
   · rw[if_neg hx,if_neg (fun e=>hx (hm.1 e)),List.length_map];have:=numF_mapK r (met++[x]) fun a b ha hb=>h a b (by simpa using ha) (by simpa using hb);rw[List.map_append] at this;show _::numF (met.map f++[f x]) (r.map f)=_
     rw[←this];rfl
theorem fsD_pre:∀(l o:List Int),∃t,fsD o l=o++t
 | [],o=>⟨[],by rw[fsD,List.append_nil]⟩
 | x::r,o=>by
   rw[fsD];split
   · exact fsD_pre r o
   · obtain⟨t,ht⟩:=fsD_pre r (o++[x]);exact⟨x::t,by rw[ht,List.append_assoc];rfl⟩
theorem idxOf_left{a t:List Int}{x:Int}(h:x∈a):(a++t).idxOf x=a.idxOf x:=by rw[List.idxOf_append,if_pos h]
theorem idxOf_end{a t:List Int}{x:Int}(h:x∉a):(a++x::t).idxOf x=a.length:=by rw[List.idxOf_append,if_neg h,List.idxOf_cons_self,Nat.zero_add]
theorem idxOf_inj'{a:List Int}{x y:Int}(h:x∈a)(e:a.idxOf x=a.idxOf y):x=y:=by have h1:=List.idxOf_lt_length_iff.2 h;have e1:=List.getElem_idxOf h1;have e2:=List.getElem_idxOf (xs:=a) (x:=y) (by rw[←e];exact h1);simp only[e] at e1;exact e1.symm.trans e2
theorem fsD_all:∀(l o:List Int),∀x∈l,x∈fsD o l
 | y::r,o,x,h=>by
   rw[fsD];split
   · rename_i hy;rcases List.mem_cons.1 h with rfl | h
     · obtain⟨t,ht⟩:=fsD_pre r o;rw[ht];exact List.mem_append_left _ hy
     · exact fsD_all r o x h
   · rcases List.mem_cons.1 h with rfl | h
     · obtain⟨t,ht⟩:=fsD_pre r (o++[x]);rw[ht];simp
     · exact fsD_all r (o++[y]) x h
theorem numF_idx:∀(l met:List Int),numF met l=l.map fun x=>((fsD met l).idxOf x:Int)
 | [],_=>rfl
 | x::r,met=>by
   rw[numF,fsD,List.map_cons];by_cases hx:x∈met
   · rw[if_pos hx,if_pos hx,numF_idx r met];obtain⟨t,ht⟩:=fsD_pre r met;rw[ht,idxOf_left hx]
   · rw[if_neg hx,if_neg hx,numF_idx r (met++[x])];obtain⟨t,ht⟩:=fsD_pre r (met++[x]);have:((met++[x])++t).idxOf x=met.length:=by rw[List.append_assoc];exact idxOf_end hx
     rw[ht,this]
theorem getD_map_int{f:Int→Int}{l:List Int}{i:Nat}(h:i<l.length):(l.map f).getD i 0=f (l.getD i 0):=by simp[List.getD_eq_getElem?_getD,List.getElem?_map,List.getElem?_eq_getElem h]
theorem numF_part{c:List Int}{i j:Nat}(hi:i<c.length)(hj:j<c.length):(numF [] c).getD i 0=(numF [] c).getD j 0↔c.getD i 0=c.getD j 0:=by
 rw[numF_idx,getD_map_int hi,getD_map_int hj]
 constructor
 · intro h;exact idxOf_inj' (fsD_all c [] _ (getD_mem hi)) (by omega)
 · intro h;rw[h]
theorem numF_same{c d:List Int}(hl:d.length=c.length)(h:∀i j:Nat,i<c.length→j<c.length→(c.getD i 0=c.getD j 0↔d.getD i 0=d.getD j 0)):numF [] d=numF [] c:=by
 have hid:∀i:Nat,i<c.length→c.idxOf (c.getD i 0)<c.length∧c.getD (c.idxOf (c.getD i 0)) 0=c.getD i 0:=fun i hi=>by have h1:=List.idxOf_lt_length_iff.2 (getD_mem (d:=(0:Int)) hi);refine⟨h1,?_⟩;rw[List.getD_eq_getElem?_getD,List.getElem?_eq_getElem h1,Option.getD_some];exact List.getElem_idxOf h1
 have e:d=c.map fun x=>d.getD (c.idxOf x) 0:=by
  refine List.ext_getElem (by rw[List.length_map,hl]) fun i h1 h2=>?_;have hi:i<c.length:=by omega
  obtain⟨k1,k2⟩:=hid i hi;have h3:=(h _ i k1 hi).1 k2;rw[List.getElem_map];have e1:c[i]=c.getD i 0:=by rw[List.getD_eq_getElem?_getD,List.getElem?_eq_getElem hi];rfl
  have e2:d[i]=d.getD i 0:=by rw[List.getD_eq_getElem?_getD,List.getElem?_eq_getElem h1];rfl
  rw[e1,e2,h3]
 rw[e];refine numF_mapK (f:=fun x=>d.getD (c.idxOf x) 0) c [] fun a b ha hb hab=>?_;rw[List.nil_append] at ha hb;have ia:=List.idxOf_lt_length_iff.2 ha;have ib:=List.idxOf_lt_length_iff.2 hb;have e1:c.getD (c.idxOf a) 0=a:=by rw[List.getD_eq_getElem?_getD,List.getElem?_eq_getElem ia,Option.getD_some];exact List.getElem_idxOf ia
 have e2:c.getD (c.idxOf b) 0=b:=by rw[List.getD_eq_getElem?_getD,List.getElem?_eq_getElem ib,Option.getD_some];exact List.getElem_idxOf ib
 have:=(h _ _ ia ib).2 hab;rw[e1,e2] at this;exact this
def labG(f:Nat→Nat→Int)(i:Nat):Nat→Int→Int
 | 0,x=>x
 | k+1,x=>labG f i k (if f i k=1 then (k:Int) else x)
def clrG(f:Nat→Nat→Int)(i:Nat):Nat→Bool→Bool
 | 0,b=>b
 | k+1,b=>clrG f i k (b && !decide (f i k=3))
def clrH(f:Nat→Nat→Int)(n:Nat):Nat→Bool→Bool
 | 0,b=>b
 | i+1,b=>clrG f i n (clrH f n i b)
theorem clrG_iff(f:Nat→Nat→Int)(i:Nat):∀(k:Nat) (b:Bool),clrG f i k b=true↔b=true∧ ∀j,j<k→f i j≠3
 | 0,b=>by simp[clrG]
 | k+1,b=>by
   rw[clrG,clrG_iff f i k]
   constructor
   · rintro⟨h1,h2⟩;rw[Bool.and_eq_true] at h1;refine⟨h1.1,fun j hj=>?_⟩;rcases Nat.lt_succ_iff_lt_or_eq.1 hj with h|rfl
     · exact h2 j h
     · have:=h1.2;simpa using this
   · rintro⟨h1,h2⟩;exact⟨by rw[h1];simpa using h2 k (Nat.lt_succ_self _),fun j hj=>h2 j (by omega)⟩
theorem clrH_iff(f:Nat→Nat→Int)(n:Nat):∀(m:Nat) (b:Bool),clrH f n m b=true↔b=true∧ ∀i j,i<m→j<n→f i j≠3
 | 0,b=>by simp[clrH]
 | m+1,b=>by
   rw[clrH,clrG_iff,clrH_iff f n m]
   constructor
   · rintro⟨⟨h1,h2⟩,h3⟩;refine⟨h1,fun i j hi hj=>?_⟩;rcases Nat.lt_succ_iff_lt_or_eq.1 hi with h|rfl
     · exact h2 i j h hj
     · exact h3 j hj
   · rintro⟨h1,h2⟩;exact⟨⟨h1,fun i j hi hj=>h2 i j (by omega) hj⟩,fun j hj=>h2 m j (by omega) hj⟩
theorem labG_spec{f:Nat→Nat→Int}{i:Nat}:∀{k:Nat} {x:Int},(∀j,j<k→f i j≠1)∧labG f i k x=x∨ ∃j,j<k∧f i j=1∧(∀j',j'<j→f i j'≠1)∧labG f i k x=(j:Int)
 | 0,x=> .inl ⟨fun j h=>absurd h (by omega),rfl⟩
 | k+1,x=>by
   rw[labG];rcases labG_spec (f:=f) (i:=i) (k:=k) (x:=if f i k=1 then (k:Int) else x) with⟨h1,h2⟩ | ⟨j,h1,h2,h3,h4⟩
   · by_cases hk:f i k=1
     · rw[if_pos hk] at h2;exact .inr ⟨k,by omega,hk,h1,by rw[if_pos hk];exact h2⟩
     · rw[if_neg hk] at h2;refine .inl ⟨fun j hj=>?_,by rw[if_neg hk];exact h2⟩;rcases Nat.lt_succ_iff_lt_or_eq.1 hj with h|rfl
       · exact h1 j h
       · exact hk
   · exact .inr ⟨j,by omega,h2,h3,h4⟩
def labL(f:Nat→Nat→Int)(n:Nat):List Int:=(List.range n).map fun i=>labG f i n (i:Int)
theorem labL_len(f:Nat→Nat→Int)(n:Nat):(labL f n).length=n:=by simp[labL]
theorem labL_get{f:Nat→Nat→Int}{n i:Nat}(h:i<n):(labL f n).getD i 0=labG f i n (i:Int):=by simp[labL,List.getD_eq_getElem?_getD,List.getElem?_map,List.getElem?_range h]
theorem lab_part{L:List (List Int)}{n:Nat}{c:List Int}(hne:L≠[])(hc:c∈L)(hcl:c.length=n)(h:∀i j,i<n→j<n→pairT L i j≠3):numF [] (labL (pairT L) n)=numF [] c:=by
 have h1:∀i j,i<n→j<n→(pairT L i j=1↔c.getD i 0=c.getD j 0):=fun i j hi hj=>by
  constructor
  · intro e;exact of_decide_eq_true (vdF_1.1 e c hc)
  · intro e;have hb:=vdF_bd (fun c:List Int=>decide (c.getD i 0=c.getD j 0)) L;have h3:=h i j hi hj;have h2:pairT L i j≠2:=fun e2=>of_decide_eq_false ((vdF_2 hne).1 e2 c hc) e;unfold pairT at h2 h3 ⊢;omega
 have hlab:∀i,i<n→ ∃j,j<n∧c.getD i 0=c.getD j 0∧(∀j',j'<j→c.getD i 0≠c.getD j' 0)∧(labL (pairT L) n).getD i 0=(j:Int):=fun i hi=>by
  rw[labL_get hi];rcases labG_spec (f:=pairT L) (i:=i) (k:=n) (x:=(i:Int)) with⟨k1,_⟩ | ⟨j,k1,k2,k3,k4⟩
  · exact absurd ((h1 i i hi hi).2 rfl) (k1 i hi)
  · exact⟨j,k1,(h1 i j hi k1).1 k2,fun j' hj' e=>k3 j' hj' ((h1 i j' hi (by omega)).2 e),k4⟩
 refine numF_same (by rw[labL_len,hcl]) fun i j hi hj=>?_;rw[hcl] at hi hj;obtain⟨a,a1,a2,a3,a4⟩:=hlab i hi;obtain⟨b,b1,b2,b3,b4⟩:=hlab j hj;rw[a4,b4]
 constructor
 · intro e;have hab:a=b:=by
    rcases Nat.lt_trichotomy a b with q | q | q
    · exact absurd (e.symm.trans a2) (b3 a q)
    · exact q
    · exact absurd (e.trans b2) (a3 b q)
   rw[hab]
 · intro e;have hab:a=b:=by omega
   rw[a2,b2,hab]
theorem dec_iff{L:List (List Int)}{n:Nat}{c:List Int}(hne:L≠[])(hc:c∈L)(hl:∀d∈L,d.length=n):(∀d∈L,numF [] d=numF [] c)↔ ∀i j,i<n→j<n→pairT L i j≠3:=by
 constructor
 · intro h i j hi hj;have hall:∀d∈L,(d.getD i 0=d.getD j 0↔c.getD i 0=c.getD j 0):=fun d hd=>by rw[←numF_part (by rw[hl d hd];exact hi) (by rw[hl d hd];exact hj),h d hd,numF_part (by rw[hl c hc];exact hi) (by rw[hl c hc];exact hj)]
   by_cases e:c.getD i 0=c.getD j 0
   · have:pairT L i j=1:=vdF_1.2 fun d hd=>decide_eq_true ((hall d hd).2 e);omega
   · have:pairT L i j=2:=(vdF_2 hne).2 fun d hd=>decide_eq_false fun h=>e ((hall d hd).1 h);omega
 · intro h d hd;rw[←lab_part hne hd (hl d hd) h,lab_part hne hc (hl c hc) h]
end Go.Abs
set_option linter.unusedVariables false
set_option linter.unusedSimpArgs false
set_option maxRecDepth 20000
set_option maxHeartbeats 2000000
namespace Go.Abs
open Go.Proofs
def ir11:IFn:= ⟨109,[(2,none)],(sO [oM 2 (kB false)] (sO [oM 19 0,oC 20 15 [19],oC 21 16 [20,(kI 3),(kI 5),(kI 5)],oM 18 21,oE 22 0 18,oE 23 1 18,oo 3 (.new [.nsl,.nsl,.nsl,.nsl,.nsl]),oS 5 3 22,oM 4 23] (sO [oo 25 (.ld 5 true 3),oC 26 55 [25],oM 24 26,oE 27 0 24,oE 28 1 24,oM 5 27,oM 6 28] (sO [oo 30 (.ld 5 true 3),oC 31 57 [(kI 1)],⟨none,none,(.chk 5 true 3 30)⟩,oC 32 42 [30,31],oM 29 32,oE 33 0 29,oE 34 1 29,oE 35 2 29,oM 7 33,oM 8 34,oM 9 35] (sO [oM 36 4,oN 37 36,oM 10 37] (.seq (sO [oM 38 6,oB 39 .neq 38 (kI 0),oM 40 39,⟨(some 41),(some (40,false)),(.mov 9)⟩,⟨(some 42),(some (40,false)),(.bin .neq 41 (kI 0))⟩,oo 43 (.pick 40 (kB true) 42),oM 44 43,⟨(some 45),(some (44,false)),(.mov 5)⟩,⟨(some 46),(some (44,false)),(.mov 10)⟩,⟨(some 47),(some (44,false)),(.mov 10)⟩,⟨(some 48),(some (44,false)),(.callF 48 [45,46,47])⟩,⟨(some 49),(some (44,false)),(.not 48)⟩,oo 50 (.pick 44 (kB true) 49)] (.cnd 50 (sO [oM 2 (kB false)] .ret) .skip)) (sO [oM 11 (kB true)] (sO [oo 12 (.nil 1 12)] (.seq (sO [oM 13 (kI 0)] (.blk 0 (.loop (.seq (sO [oM 51 13,oM 52 10,oB 53 .lss 51 52] (.cnd 53 .skip (.exit 0))) (.seq (.blk 1 (sO [oM 56 13,oM 14 56] (.seq (sO [oM 57 10,oB 58 .sub 57 (kI 1),oM 15 58] (.blk 2 (.loop (.seq (sO [oM 59 15,oB 60 .geq 59 (kI 0)] (.cnd 60 .skip (.exit 2))) (.seq (.blk 3 (sO [oM 63 11,oM 64 63,⟨(some 65),(some (64,true)),(.mov 5)⟩,⟨(some 66),(some (64,true)),(.mov 13)⟩,⟨(some 67),(some (64,true)),(.ixA 1 65 66)⟩,⟨(some 68),(some (64,true)),(.ld 1 false 67)⟩,⟨(some 69),(some (64,true)),(.mov 15)⟩,⟨(some 70),(some (64,true)),(.ixA 1 68 69)⟩,⟨(some 71),(some (64,true)),(.ld 1 false 70)⟩,⟨(some 72),(some (64,true)),(.bin .neq 71 (kI 3))⟩,oo 73 (.pick 64 72 (kB false)),oM 11 73] (sO [oM 74 5,oM 75 13,oA 76 1 74 75,oL 77 76,oM 78 15,oA 79 1 77 78,oL 80 79,oB 81 .eql 80 (kI 1)] (.cnd 81 (.ops [oM 82 15,oM 14 82]) .skip)))) (.ops [oM 61 15,oB 62 .sub 61 (kI 1),oM 15 62])))))) (.ops [oM 83 12,oM 84 14,oo 85 (.bsl 1 [[z0]] [(0,84)]),oo 86 (.app 1 8 83 85 12),oM 12 86])))) (.ops [oM 54 13,oB 55 .add 54 (kI 1),oM 13 55])))))) (sO [oM 88 12,oC 89 58 [88],oM 87 89,oE 90 0 87,oE 91 1 87,oM 16 90,oM 17 91] (.seq (sO [oM 92 11,oM 93 8,oo 94 (.eqn .bool true 92 93),oM 95 94,⟨(some 96),(some (95,false)),(.mov 17)⟩,⟨(some 97),(some (95,false)),(.bin .neq 96 (kI 0))⟩,oo 98 (.pick 95 (kB true) 97),oM 99 98,⟨(some 100),(some (99,false)),(.mov 8)⟩,⟨(some 101),(some (99,false)),(.mov 100)⟩,⟨(some 102),(some (101,true)),(.mov 7)⟩,⟨(some 103),(some (101,true)),(.mov 16)⟩,⟨(some 104),(some (101,true)),(.callF 21 [102,103])⟩,⟨(some 105),(some (101,true)),(.not 104)⟩,⟨(some 106),(some (99,false)),(.pick 101 105 (kB false))⟩,oo 107 (.pick 99 (kB true) 106)] (.cnd 107 (sO [oM 2 (kB false)] .ret) .skip)) (sO [oC 108 22 [],oM 2 108] .ret))))))))))))⟩
def hint11(P:Program):Hint:={site:=[(86,12)],nils:=[(12,1)],frz:=[],mve:=[],wr:=[] }
theorem labL_succ(f:Nat→Nat→Int)(n i:Nat):(List.range (i+1)).map (fun i=>labG f i n (i:Int))=(List.range i).map (fun i=>labG f i n (i:Int))++[labG f i n (i:Int)]:=by rw[List.range_succ,List.map_append];rfl
theorem knowCharts_c(nums:List Int)(hn:nums.length<2^62):FV 11 [.slc 1 (iR nums) .non] (.bool true):=by
 refine RawC.walk (H:=hint11 Tryz.prog) ir11 Tryz.func11 rfl rfl rfl ?_;unfold ir11
 repeat' (first|refine aR ?_|with_reducible refine zI fun y hy=>?_|((with_reducible refine aC ?_);first|(refine ACall.liftS (boxOf_s nums hn) [] (some 6) rfl rfl rfl trivial (fun _=>rfl) ?_;rintro⟨gb,w⟩ _ rfl)|(refine ACall.box (guest_c _ _ 5 5 (by decide) (by decide)) rfl rfl rfl ?_;rintro _ _ ⟨M,c,rfl,hg⟩))|refine aX ?_|with_reducible intro _|with_reducible refine zJ ?_ fun y hy=>?_|refine aP ?_ ?_)
 have hgm:=hg.g;have hw3:=hgm.n2;have hd24:=hgm.d;have hws:∀w∈M.g.ws,w.name.size≤1000:=fun w hw=>by have:=(madeW_ok hgm.w).2 w hw;omega
 have hE:=guest_err hg (by decide);obtain⟨hne,h5,hok⟩:=lf_ok hE;have hPa:=subV2 (kPairs_c M (by omega) (by omega) hws) (sub_lnE _);have hDe:=kDecided_c M ⟨1,0⟩ (by omega) (by omega) hws;obtain⟨gl1,gl2,gl3⟩:=guest_len hg;have hcen:=(gm_ok hgm.e).cen;have hask:askErr M.g.ws.length ⟨1,0⟩=0:=rfl;have hdu:∀L:List (List Int),L.map (dueF M.g ⟨1,0⟩)=L.map (numF []):=fun L=>List.map_congr_left fun x _=>by unfold dueF;rw[if_pos rfl]
 rw[show pairO M=(tabF (censG (stepsG M.g.ds)) (censG (stepsG M.g.ds)) (pairT (lfL M)),0) by unfold pairO;rw[if_pos hE]] at hPa;rw[show decO M ⟨1,0⟩=(decF ((lfL M).map (numF [])),0) by unfold decO;rw[if_pos hE,if_pos hask,hdu]] at hDe;obtain⟨n,hk⟩:∃n,censG (stepsG M.g.ds)=n:=⟨_,rfl⟩;rw[hk] at hPa hok gl1 hcen;have hcR:(iR c).length=c.length:=List.length_map _;generalize lfL M=L at hPa hDe hne h5 hok;have hsq:=square_c (tabF n n (pairT L)) c.length c.length (by rw[tabF_len,gl1]) (by omega) (fun y hy=>by rw[gl1];exact tabF_row hy);obtain⟨c0,L',hcc⟩:=List.exists_cons_of_ne_nil hne;have hc0:c0∈L:=by rw[hcc];simp
 have hln:=fun d hd=>(hok d hd).1;have hdi:=dec_iff hne hc0 hln;have hlp:=fun h=>lab_part hne hc0 (hln c0 hc0) h;have hci:=clrH_iff (pairT L) n n true;have hb3:∀i j,1≤pairT L i j∧pairT L i j≤3:=fun i j=>vdF_bd _ _;have hC0:=chartOf_c (labL (pairT L) n) (by rw[labL_len];omega) (by rw[labL_len];omega);have haw:=kawake_c;have hres:(clrH (pairT L) n n true=true∧decF (L.map (numF []))=some (numF [] c0)∧numF [] (labL (pairT L) n)=numF [] c0)∨(clrH (pairT L) n n true=false∧decF (L.map (numF []))=none):=by
  rw[show L.map (numF [])=numF [] c0::L'.map (numF []) by rw[hcc];rfl];cases hq:clrH (pairT L) n n true with
  | true=> have h2:=(hci.1 hq).2;refine .inl ⟨rfl,decF_cons.2 ⟨rfl,fun d hd=>?_⟩,hlp h2⟩;obtain⟨x,hx,rfl⟩:=List.mem_map.1 hd;exact hdi.2 h2 x (by rw[hcc];simp[hx])
  | false=>
    cases hd:decF (numF [] c0::L'.map (numF [])) with
    | none=>exact .inr ⟨rfl,rfl⟩
    | some y=>
      have h3:=(decF_cons.1 hd).2;rw[hci.2 ⟨rfl,hdi.1 fun d hd=>?_⟩] at hq
      · cases hq
      · rw[hcc] at hd;rcases List.mem_cons.1 hd with rfl | hd
        · rfl
        · exact h3 _ (List.mem_map.2 ⟨d,hd,rfl⟩)
 generalize decF (L.map (numF []))=dx at hDe hres;generalize hfe:pairT L=f at hPa hsq hC0 hres hb3;have hlab:labL f n=(List.range n).map fun i=>labG f i n (i:Int):=rfl;have hnl:(numF [] c0).length=n:=by rw[numF_len];exact hln c0 hc0
 replace hDe:FV 42 [mdA M,aqA ⟨1,0⟩] (.tup [.slc 1 (iR (dx.getD [])) .non,.bool dx.isSome,.int .i64 0]):=subV2 hDe (by
  cases dx with
  | none=>exact Sub.tupM (.cons Sub.nil (.cons (Sub.refl _) (.cons (Sub.refl _) .nil)))
  | some y=>exact Sub.refl _)
 repeat' (first|refine aR ?_|with_reducible refine zI fun y hy=>?_|((with_reducible refine aC ?_);first|refine aV (kask_c 1) ?_|refine aV hPa ?_|refine aV hDe ?_|refine aV hsq ?_)|refine aX ?_|with_reducible intro _|with_reducible refine zJ ?_ fun y hy=>?_|refine aP ?_ ?_)
 all_goals try (exfalso;omega)
 rename_i g12;refine w_loopK [5,7,8,10] [] (fun x:Nat×Nat=>x.1≤n) (fun x=>n-x.1) (fun x=>[(11,.bool (clrH f n x.1 true)),(12,.slc 1 (iR ((List.range x.1).map fun i=>labG f i n (i:Int))) (.own 12 x.2)),(13,.int .i64 (x.1:Int))]) (fun x=>[(12,(x.2,.row []))]) (0,g12) (Nat.zero_le _) ⟨rfl,rfl,rfl,trivial⟩ ⟨rfl,trivial⟩ ?_;rintro⟨i,g⟩ hi e σ;dsimp only at hi ⊢;have hll2:((List.range i).map fun i=>labG f i n (i:Int)).length=i:=by simp
 by_cases hin:i<n
 · repeat' (first
    | with_reducible (first|refine Rd.p ?_|refine w_alt ?_ ?_|refine zE ?_|refine zE0 ?_)
    | with_reducible (first|refine zI fun y hy=>?_|refine zL ?_|refine zS ?_|refine zA fun _=>?_|refine zV ?_|refine zC ?_|refine zG ?_|refine zU ?_|refine zG0 ?_|refine zU0 ?_|refine zF ?_)
    | with_reducible (first|refine zX ?_|refine zD fun _=>?_|refine zD0 ?_|refine zN ?_|refine zF0 ?_|refine zX0 ?_|refine z1 ?_|refine z2 ?_|refine z3 ?_|refine z4 ?_|refine z5 ?_|refine z6 ?_|refine z7 ?_|refine z8 ?_|refine y1 ?_|refine y2 ?_|refine y3 ?_|refine y4 ?_|refine y5 ?_|refine y6 ?_|refine y7 ?_|refine y8 ?_|refine Rt.p (fun _=>?_) fun _=>?_)
    | ((with_reducible apply w_ixM);(focus exact rfl);(focus exact rfl);case' hk=>intro y hy)|((with_reducible (first | apply w_val | apply q_ends));(focus exact rfl)))
   all_goals try (exfalso;omega)
   have hls:=labL_succ f n i;have hcs:clrH f n (i+1) true=clrG f i n (clrH f n i true):=rfl;generalize clrH f n i true=b0 at hcs;refine w_loopK [5,7,8,10,12,13] [12] (fun x:Nat×Bool×Int=>x.1≤n∧clrG f i x.1 x.2.1=clrH f n (i+1) true∧labG f i x.1 x.2.2=labG f i n (i:Int)) (fun x=>x.1) (fun x=>[(11,.bool x.2.1),(14,.int .i64 x.2.2),(15,.int .i64 ((x.1:Int)-1))]) (fun _=>[]) (n,b0,(i:Int)) ⟨Nat.le_refl _,hcs.symm,rfl⟩ ⟨rfl,rfl,by show AV.int .i64 ((c.length:Int)-1)= .int .i64 ((n:Int)-1);rw[gl1],trivial⟩ trivial ?_;rintro⟨k,b,fs⟩ ⟨hkn,hb,hfs⟩ e2 σ2;dsimp only at hkn hb hfs ⊢;cases k with
   | succ k=>
     obtain⟨p,q,r,s,t,hA1,hA2,hA3,hA4,hA5⟩:=tabF_at (f:=f) hin (show k<n by omega);have hI1:AV.int .i64 (i:Int)= .int .i64 (p.length:Nat):=int_eq (by rw[hA2]);have hI2:AV.int .i64 (((k+1:Nat):Int)-1)= .int .i64 (s.length:Nat):=int_eq (by rw[hA5];omega);have hrl:(iR r).length=r.length:=List.length_map _;obtain⟨v1,v3⟩:=hb3 i k;have hk1:(((k+1:Nat):Int)-1)=(k:Int):=by omega
     rw[clrG] at hb;rw[labG] at hfs;generalize f i k=v at hA4 hb hfs v1 v3;rcases (show v=1∨v=2∨v=3 by omega) with rfl|rfl|rfl<;>cases b
     all_goals
      repeat' (first|refine aR ?_|(first|refine w_ixP (f:=fL) hA1 rfl hI1 ?_|refine w_ixP (f:=fI) hA4 rfl hI2 ?_)|with_reducible refine zI fun y hy=>?_|refine aX ?_|with_reducible intro _|with_reducible refine zJ ?_ fun y hy=>?_|refine aP ?_ ?_)
     all_goals first|(exfalso;omega)|exact q_loop (k,true,(((k+1:Nat):Int)-1)) ⟨by omega,hb,by rw[hk1];exact hfs⟩ (Nat.lt_succ_self _) aS aS aK aK|exact q_loop (k,false,(((k+1:Nat):Int)-1)) ⟨by omega,hb,by rw[hk1];exact hfs⟩ (Nat.lt_succ_self _) aS aS aK aK|exact q_loop (k,true,fs) ⟨by omega,hb,hfs⟩ (Nat.lt_succ_self _) aS aS aK aK|exact q_loop (k,false,fs) ⟨by omega,hb,hfs⟩ (Nat.lt_succ_self _) aS aS aK aK
   | zero=>
     have hb':b=clrH f n (i+1) true:=hb;have hfs':fs=labG f i n (i:Int):=hfs
     repeat' (first|refine aR ?_|with_reducible refine zI fun y hy=>?_|refine aX ?_|with_reducible intro _|with_reducible refine zJ ?_ fun y hy=>?_|refine aP ?_ ?_)
     all_goals try (exfalso;omega)
     all_goals
      rename_i g';exact q_loop (i+1,g') (by show i+1≤n;omega) (by show n-(i+1)<n-i;omega) ⟨by show AV.bool b=_;rw[hb'],congrArg (fun z=>AV.slc 1 z (.own 12 g')) (by rw[hls,←hfs']<;>simp),by dsimp only;rfl,trivial⟩ aS aK aK
 have hin2:i=n:=by omega
 subst hin2;rcases hres with⟨hq,rfl,hlq⟩ | ⟨hq,rfl⟩
 all_goals rw[hq,←hlab]
 · rw[hlq] at hC0;have hEq:=eq_c (numF [] c0) (numF [] c0) (by omega);rw[decide_eq_true rfl] at hEq
   repeat' (first|refine aR ?_|with_reducible refine zI fun y hy=>?_|((with_reducible refine aC ?_);first|refine aV hC0 ?_|refine aV hEq ?_|refine aV haw ?_)|refine aX ?_|with_reducible intro _|with_reducible refine zJ ?_ fun y hy=>?_|refine aP ?_ ?_)
   all_goals first|(exfalso;omega)|(exfalso;rename_i hz;exact Bool.false_ne_true hz)|rfl
 · repeat' (first
    | with_reducible (first|refine Rd.p ?_|refine w_alt ?_ ?_|refine zE ?_|refine zE0 ?_)
    | with_reducible (first|refine zI fun y hy=>?_|refine zL ?_|refine zS ?_|refine zA fun _=>?_|refine zV ?_|refine zC ?_|refine zG ?_|refine zU ?_|refine zG0 ?_|refine zU0 ?_|refine zF ?_)
    | ((with_reducible refine acall_id ?_);refine ACall.val hC0 rfl rfl ?_)
    | ((with_reducible refine acall_id ?_);refine ACall.val haw rfl rfl ?_)
    | with_reducible (first|refine zX ?_|refine zD fun _=>?_|refine zD0 ?_|refine zN ?_|refine zF0 ?_|refine zX0 ?_|refine z1 ?_|refine z2 ?_|refine z3 ?_|refine z4 ?_|refine z5 ?_|refine z6 ?_|refine z7 ?_|refine z8 ?_|refine y1 ?_|refine y2 ?_|refine y3 ?_|refine y4 ?_|refine y5 ?_|refine y6 ?_|refine y7 ?_|refine y8 ?_|refine Rt.p (fun _=>?_) fun _=>?_)
    | ((with_reducible apply w_ixM);(focus exact rfl);(focus exact rfl);case' hk=>intro y hy)|((with_reducible (first | apply w_val | apply q_ends));(focus exact rfl)))
   all_goals first|(exfalso;omega)|(exfalso;rename_i hz;exact Bool.false_ne_true hz)|rfl
end Go.Abs
