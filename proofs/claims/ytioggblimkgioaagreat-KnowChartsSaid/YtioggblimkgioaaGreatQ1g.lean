/- A part of the proofs: contracts of functions. -/
import Derived.Test.YtioggblimkgioaaGreatProg
import Derived.Test.YtioggblimkgioaaGreatSnd3
import Derived.Test.YtioggblimkgioaaGreatA0
import Derived.Test.YtioggblimkgioaaGreatQ1a
import Derived.Test.YtioggblimkgioaaGreatQ1b
import Derived.Test.YtioggblimkgioaaGreatQ1c
import Derived.Test.YtioggblimkgioaaGreatQ1d
import Derived.Test.YtioggblimkgioaaGreatQ1e
import Derived.Test.YtioggblimkgioaaGreatQ1f
set_option linter.unusedVariables false
set_option linter.unusedSimpArgs false
set_option maxRecDepth 20000
set_option maxHeartbeats 4000000
namespace Go.Abs
open Go.Proofs
theorem kawake_c:FV 22 [] (.bool true):=by
 have h1:=subV2 (kLeft_c mAll (by decide) (by decide) (by decide)) (sub_crsA _ _);have h2:=kBest_c mTwo ⟨1,0⟩ 1 ptW (by decide) (by decide) (by decide) (fun _ _ _ x hx c hc=>⟨worth1_c _ _ _ _ (by
  obtain⟨z,hz,rfl⟩:=List.mem_map.1 hx;have:=(ansO_bd mTwo.g ⟨1,0⟩).2 z hz;have h3:mTwo.g.ws.length=3:=rfl;omega),by unfold ptW; split<;>decide, by unfold ptW;split  <;>decide  ⟩)
 rw[mAll_lf] at h1;rw[mTwo_bs] at h2;have hA:=subV2 kall_c (mdN mAll rfl);have hB:=subV2 ktwo_c (mdN mTwo rfl);have e1:=eq_c [980,420,420] [980,420,420] (by decide);have e2:=eq_c [0,1,2] [0,1,2] (by decide);refine wk ir22 Tryz.func22 ?_;unfold ir22
 repeat' (first|refine aR ?_|((with_reducible refine aC ?_);first|refine aV hA ?_|refine aV hB ?_|refine aV (kask_c 1) ?_|refine aV h1 ?_|refine aV h2 ?_|refine aV e1 ?_|refine aV e2 ?_)|refine aX ?_|with_reducible intro _|refine aP ?_ ?_)
 all_goals first|rfl
end Go.Abs
set_option linter.unusedVariables false
set_option linter.unusedSimpArgs false
set_option maxRecDepth 20000
set_option maxHeartbeats 4000000
namespace Go.Abs
open Go.Proofs
def ir24:IFn:= ⟨42,[(6,none)],(sO [oo 4 (.box 1 1),oM 6 (kI 0)] (sO [oM 9 0,oC 10 38 [9,(kI 10)],oM 7 10] (.seq (sO [oM 8 (kI 0)] (.blk 0 (.loop (.seq (sO [oM 11 8,oF 12 0 4,oL 13 12,oM 14 2,oA 15 1 13 14,oL 16 15,oN 17 16,oB 18 .lss 11 17] (.cnd 18 .skip (.exit 0))) (.seq (.blk 1 (.seq (sO [oM 21 7,oF 22 0 4,oL 23 22,oM 24 2,oA 25 1 23 24,oL 26 25,oM 27 8,oA 28 1 26 27,oL 29 28,oB 30 .lss 21 29] (.cnd 30 (sO [oM 31 8,oM 6 31] .ret) .skip)) (.ops [oM 32 7,oF 33 0 4,oL 34 33,oM 35 2,oA 36 1 34 35,oL 37 36,oM 38 8,oA 39 1 37 38,oL 40 39,oB 41 .sub 32 40,oM 7 41]))) (.ops [oM 19 8,oB 20 .add 19 (kI 1),oM 8 20])))))) (sO [oM 6 (kI 0)] .ret))))⟩
def ir59:IFn:= ⟨59,[(6,some (3,true))],(sO [oo 6 (.new [z0,z0,z0])] (sO [oM 10 0,oM 11 1,oN 12 11,oC 13 38 [10,12],oo 14 (.bld [z0,z0,z0] [(0,1,(kI 1)),(1,1,13)]),oo 7 (.new [z0,z0,z0]),oS 3 7 14] (.seq (sO [oM 15 0,oM 16 1,oN 17 16,oC 18 38 [15,17],oM 8 18] (sO [oM 19 8,oF 20 1 7,oL 21 20,oB 22 .neq 19 21,oM 23 22,⟨(some 24),(some (23,true)),(.mov 0)⟩,⟨(some 25),(some (23,true)),(.callF 36 [24,(kI 2)])⟩,oo 26 (.pick 23 25 (kB false))] (.cnd 26 (sO [oM 27 8,oF 28 0 7,oS 1 28 (kI 3),oF 29 2 7,oS 1 29 27] (.seq (sO [oM 30 1,oM 31 8,oA 32 1 30 31,oL 33 32,oM 34 1,oF 35 1 7,oL 36 35,oA 37 1 34 36,oL 38 37,oB 39 .neq 33 38] (.cnd 39 (.ops [oF 40 0 7,oS 1 40 (kI 4)]) .skip)) (sO [oo 41 (.ld 3 true 7),oS 3 6 41] .ret))) .skip))) (sO [oM 42 1,oF 43 1 7,oL 44 43,oA 45 1 42 44,oL 46 45,oF 47 2 7,oS 1 47 46] (.seq (sO [oM 48 0,oM 49 2,oC 50 38 [48,49],oM 9 50] (sO [oM 51 9,oF 52 2 7,oL 53 52,oB 54 .neq 51 53] (.cnd 54 (.ops [oM 55 9,oF 56 0 7,oS 1 56 (kI 2),oF 57 2 7,oS 1 57 55]) .skip))) (sO [oo 58 (.ld 3 true 7),oS 3 6 58] .ret))))))⟩
def ir74:IFn:= ⟨32,[(4,none)],(sO [oM 4 (.k .nsl)] (sO [oM 9 1,oo 10 (.mks 1 8 [z0] 9 9),oM 5 10] (.seq (sO [oM 6 (kI 10)] (.blk 0 (.loop (.seq (sO [oM 11 6,oB 12 .gtr 11 (kI 0)] (.cnd 12 .skip (.exit 0))) (.blk 1 (sO [oM 13 0,oM 14 6,oC 15 37 [13,(kI 1),14],oM 7 15] (sO [oM 16 0,oM 17 1,oC 18 38 [16,17],oM 8 18] (.ops [oM 19 5,oM 20 8,oM 21 5,oM 22 8,oA 23 1 21 22,oL 24 23,oM 25 7,oB 26 .add 24 25,oM 27 6,oM 28 7,oB 29 .sub 27 28,oA 30 1 19 20,oS 1 30 26,oM 6 29])))))))) (.seq (.seq (.frz 5) (.ops [oM 31 5,oM 4 31])) .ret))))⟩
def hint74(P:Program):Hint:={site:=[],nils:=[],frz:=[(31,5)],mve:=[],wr:=[] }
def ir23:IFn:= ⟨24,[(4,some (1,true))],(sO [oo 4 (.new [.nsl])] (sO [oo 5 (.new [.nsl])] (sO [oM 8 0,oM 9 1,oC 10 74 [8,9],oM 6 10] (.seq (sO [oM 7 (kI 0)] (.blk 0 (.loop (.seq (sO [oM 11 7,oM 12 1,oB 13 .lss 11 12] (.cnd 13 .skip (.exit 0))) (.seq (.blk 1 (.ops [oF 16 0 5,oL 17 16,oM 18 6,oC 19 39 [18],oK 16 17,oo 20 (.bsl 1 [[.nsl]] [(0,19)]),oo 21 (.app 1 24 17 20 21),oF 22 0 5,oS 1 22 21])) (.ops [oM 14 7,oB 15 .add 14 (kI 1),oM 7 15])))))) (sO [oo 23 (.ld 1 true 5),oS 1 4 23] .ret)))))⟩
theorem smells_c(g:Nat)(w:Int)(N:List (List Int))(wd:Int){W:Nat}(hN:NoOK W N)(hW:W<1000)(h0:0≤wd∧wd<W):RawC Tryz.prog 24 [.ref 1000 g 0,noA N,.int .i64 wd] (BoxS g w) (BoxR g fun av=>∃s:Int,av= .int .i64 s∧0≤s∧s<W∧0<(N.getD wd.toNat []).getD s.toNat 0):=by
 have hNl:=hN.l;obtain⟨rA,rB⟩:=at_split (l:=N) (i:=wd.toNat) (d:=[]) (by omega);have rI:AV.int .i64 wd= .int .i64 ((N.take wd.toNat).length:Int):=int_eq (by rw[rB];omega);have hrow:=hN.r _ (getD_mem (l:=N) (i:=wd.toNat) (d:=[]) (by omega));obtain⟨row,hrw⟩:∃row,N.getD wd.toNat []=row:=⟨_,rfl⟩;rw[hrw] at rA hrow ⊢;obtain⟨hrl,hrk,hrs⟩:=hrow;have hrl2:(iR row).length=row.length:=List.length_map _;refine wk ir24 Tryz.func24 ?_;unfold ir24
 repeat' (first|refine aR ?_|with_reducible refine zI fun y hy=>?_|((with_reducible refine aC ?_);first|(refine ACall.box (upp_c _ _ _ (by decide) (by decide)) rfl rfl rfl ?_;rintro _ _ ⟨p,rfl,hp0,hp1⟩))|refine aX ?_|with_reducible intro _|with_reducible refine zJ ?_ fun y hy=>?_|refine aP ?_ ?_)
 rename_i g4 w2;obtain⟨k1,k2⟩:=pickF_lt (R:=row) hp0 (by rw[hrs];exact hp1);refine w_loopK [2,4] [4,1000] (fun x:List Int×List Int×Int=>row=x.1++x.2.1∧(0≤x.2.2∧x.2.2<x.2.1.sum)∧x.1.length+pickF x.2.1 x.2.2=pickF row p∧x.2.2≤10) (fun x=>x.2.1.length) (fun x=>[(8,.int .i64 (x.1.length:Int)),(7,.int .i64 x.2.2)]) (fun _=>[]) ([],row,p) ⟨rfl,⟨hp0,by rw[hrs];exact hp1⟩,Nat.zero_add _,by show p≤10;omega⟩ ⟨rfl,rfl,trivial⟩ trivial ?_;rintro⟨pre,post,k⟩ ⟨hl,hk,hpk,hk10⟩ e σ;dsimp only at hl hk hpk hk10 ⊢;have hlen:=congrArg List.length hl;rw[List.length_append] at hlen;cases post with
 | nil=>rw[List.sum_nil] at hk;omega
 | cons x post=>
   simp only[List.length_cons] at hlen;rw[pickF] at hpk;rw[List.sum_cons] at hk;have hx:=hrk x (by rw[hl];simp);by_cases hkx:k<x
   · rw[if_pos hkx] at hpk;have hpw:pickF row p=pre.length:=by omega
     rw[hpw] at k1 k2
     repeat' (first|refine aR ?_|(first|refine w_ixP rA rfl rI ?_|refine w_ixP (f:=fI) hl rfl rfl ?_)|with_reducible refine zI fun y hy=>?_|refine aX ?_|with_reducible intro _|with_reducible refine zJ ?_ fun y hy=>?_|refine aP ?_ ?_)
     all_goals first|(exfalso;omega)|exact⟨_,⟨_,rfl,Int.natCast_nonneg _,by omega,by rw[Int.toNat_natCast];exact k2⟩,rfl⟩
   · rw[if_neg hkx] at hpk
     repeat' (first|refine aR ?_|(first|refine w_ixP rA rfl rI ?_|refine w_ixP (f:=fI) hl rfl rfl ?_)|with_reducible refine zI fun y hy=>?_|refine aX ?_|with_reducible intro _|with_reducible refine zJ ?_ fun y hy=>?_|refine aP ?_ ?_)
     all_goals first|(exfalso;omega)|exact q_loop (pre++[x],post,k-x) ⟨by show row=_;rw[hl];simp,by dsimp only;omega,by dsimp only;rw[len_snoc];omega,by dsimp only;omega⟩ (Nat.lt_succ_self _) ⟨by rw[len_snoc];rfl,rfl,trivial⟩ aS aK aK
theorem fact_fin{c:List Int}{W:Nat}{f:Fa}(hk:1≤f.kind∧f.kind≤4)(ha:0≤f.a∧f.a<c.length)(hb:0≤f.b∧f.b<(fcM c.length W f:Nat))(hab:3≤f.kind→f.a≠f.b):faErr c.length W f=0:=by unfold faErr;rw[if_pos (inB_t.2 hk),if_pos ⟨inB_t.2 (by omega),inB_t.2 (by omega)⟩,if_neg (fun h=>hab h.1 h.2)]
theorem at_getD{c:List Int}{i:Int}{y:Int}(h:c[i.toNat]?=some y):c.getD i.toNat 0=y:=by rw[List.getD_eq_getElem?_getD,h];rfl
theorem fact1{c:List Int}{W:Nat}(hc:∀x∈c,0≤x∧x<(W:Int)){i y:Int}(hi:0≤i∧i<c.length)(hy:c[i.toNat]?=some y):faErr c.length W ⟨1,i,y⟩=0∧agF c ⟨1,i,y⟩=true:=by have hm:=hc y (List.mem_of_getElem? hy);refine⟨fact_fin (by show (1:Int)≤1∧(1:Int)≤4;decide) hi hm fun h=>absurd h (show ¬(3:Int)≤1 by decide),?_⟩;unfold agF;rw[if_pos rfl];exact decide_eq_true (at_getD hy)
theorem fact2{c:List Int}{W:Nat}{i y x:Int}(hi:0≤i∧i<c.length)(hy:c[i.toNat]?=some y)(hx:0≤x∧x<(W:Int))(hn:x≠y):faErr c.length W ⟨2,i,x⟩=0∧agF c ⟨2,i,x⟩=true:=by
 refine⟨fact_fin (by show (1:Int)≤2∧(2:Int)≤4;decide) hi hx fun h=>absurd h (show ¬(3:Int)≤2 by decide),?_⟩;unfold agF;rw[if_neg (show ¬(2:Int)=1 by decide),if_pos rfl];refine decide_eq_true ?_;show c.getD i.toNat 0≠x
 rw[at_getD hy];exact Ne.symm hn
theorem fact3{c:List Int}{W:Nat}{i k y z:Int}(hi:0≤i∧i<c.length)(hk:0≤k∧k<c.length)(hik:k≠i)(hy:c[i.toNat]?=some y)(hz:c[k.toNat]?=some z)(he:z=y):faErr c.length W ⟨3,i,k⟩=0∧agF c ⟨3,i,k⟩=true:=by
 refine⟨fact_fin (by show (1:Int)≤3∧(3:Int)≤4;decide) hi hk fun _=>Ne.symm hik,?_⟩;unfold agF;rw[if_neg (show ¬(3:Int)=1 by decide),if_neg (show ¬(3:Int)=2 by decide),if_pos rfl];refine decide_eq_true ?_;show c.getD i.toNat 0=c.getD k.toNat 0
 rw[at_getD hy,at_getD hz,he]
theorem fact4{c:List Int}{W:Nat}{i k y z:Int}(hi:0≤i∧i<c.length)(hk:0≤k∧k<c.length)(hik:k≠i)(hy:c[i.toNat]?=some y)(hz:c[k.toNat]?=some z)(he:z≠y):faErr c.length W ⟨4,i,k⟩=0∧agF c ⟨4,i,k⟩=true:=by
 refine⟨fact_fin (by show (1:Int)≤4∧(4:Int)≤4;decide) hi hk fun _=>Ne.symm hik,?_⟩;unfold agF;rw[if_neg (show ¬(4:Int)=1 by decide),if_neg (show ¬(4:Int)=2 by decide),if_neg (show ¬(4:Int)=3 by decide)];refine decide_eq_true ?_;show c.getD i.toNat 0≠c.getD k.toNat 0
 rw[at_getD hy,at_getD hz];exact Ne.symm he
theorem factOf_c(g:Nat)(w:Int)(c:List Int)(W:Nat)(h1:1≤c.length)(h9:c.length≤9)(hW:W<1000)(hc:∀x∈c,0≤x∧x<(W:Int)):RawC Tryz.prog 59 [.ref 1000 g 0,.slc 1 (iR c) .non,.int .i64 (W:Nat)] (BoxS g w) (BoxR g fun av=>∃f,av=faA f∧faErr c.length W f=0∧agF c f=true):=by
 have hcl:(iR c).length=c.length:=List.length_map _;have hW1:0<(W:Int):=by have:=hc _ (getD_mem (l:=c) (i:=0) (d:=0) h1);omega
 refine wk ir59 Tryz.func59 ?_;unfold ir59
 repeat' (first|refine aR ?_|with_reducible refine zI fun y hy=>?_|((with_reducible refine aC ?_);first|(refine ACall.box (upp_c _ _ _ (by omega) (by omega)) rfl rfl rfl ?_;rintro _ _ ⟨i,rfl,hi0,hi1⟩)|(refine ACall.box (one_c _ _ _ (by omega)) rfl rfl rfl ?_;rintro _ _ ⟨b,rfl⟩))|refine aX ?_|with_reducible intro _|with_reducible refine zJ ?_ fun y hy=>?_|refine aP ?_ ?_)
 all_goals first|(exfalso;omega)|exact⟨_,⟨⟨1,_,_⟩,rfl,fact1 hc (by omega) (by assumption)⟩,rfl⟩|exact⟨_,⟨⟨2,_,_⟩,rfl,fact2 (by omega) (by assumption) (by omega) (by assumption)⟩,rfl⟩|exact⟨_,⟨⟨3,_,_⟩,rfl,fact3 (by omega) (by omega) (by assumption) (by assumption) (by assumption) (by omega)⟩,rfl⟩|exact⟨_,⟨⟨4,_,_⟩,rfl,fact4 (by omega) (by omega) (by assumption) (by assumption) (by assumption) (by assumption)⟩,rfl⟩
theorem sum_ge:∀{l:List Int},(∀x∈l,0≤x)→ ∀k∈l,k≤l.sum
 | [],_,k,hk=>by cases hk
 | x::r,h,k,hk=>by
   have h1:=sum_nn (l:=r) fun y hy=>h y (by simp[hy]);have h2:=h x (by simp);rw[List.sum_cons];rcases List.mem_cons.1 hk with rfl | hk
   · omega
   · have:=sum_ge (l:=r) (fun y hy=>h y (by simp[hy])) k hk;omega
theorem sum_rep0:∀n:Nat,(List.replicate n (0:Int)).sum=0
 | 0=>rfl
 | n+1=>by rw[List.replicate_succ,List.sum_cons,sum_rep0 n];rfl
theorem takes_c(g:Nat)(w:Int)(W:Nat)(hW:1≤W∧W<1000):RawC Tryz.prog 74 [.ref 1000 g 0,.int .i64 (W:Nat)] (BoxS g w) (BoxR g fun av=>∃r,av= .slc 1 (iR r) .non∧r.length=W∧(∀k∈r,0≤k∧k≤10)∧r.sum=10):=by
 refine RawC.walk (H:=hint74 Tryz.prog) ir74 Tryz.func74 rfl rfl rfl ?_;unfold ir74
 repeat' (first|refine aR ?_|(refine w_mksI rfl (by omega) ?_;intro g10)|refine aX ?_|with_reducible intro _|refine aP ?_ ?_)
 all_goals try (exfalso;omega)
 refine w_loopK [0,1,5] [] (fun x:List Int×Int×Int=>x.1.length=W∧(∀k∈x.1,0≤k)∧x.1.sum+x.2.1=10∧0≤x.2.1) (fun x=>x.2.1.toNat) (fun x=>[(6,.int .i64 x.2.1)]) (fun x=>[(1000,(g,.row [.int .u64 x.2.2])),(10,(g10,.row (x.1.map (AV.int .i64))))]) (List.replicate W 0,10,w) ⟨List.length_replicate,fun k hk=>by rw[(List.mem_replicate.1 hk).2];exact Int.le_refl _,by show (List.replicate W (0:Int)).sum+10=10;rw[sum_rep0];rfl,(show (0:Int)≤10 by decide)⟩ ⟨rfl,trivial⟩ ⟨rfl,rfl,trivial⟩ ?_;rintro⟨xs,left,w1⟩ ⟨hl,hn,hs,h0⟩ e σ;dsimp only at hl hn hs h0 ⊢;have hsn:=sum_nn hn;by_cases hz:left=0
 · subst hz;have hb:∀k∈xs,0≤k∧k≤10:=fun k hk=>⟨hn k hk,by have:=sum_ge hn k hk;omega⟩
   repeat' (first|refine aR ?_|refine aX ?_|with_reducible intro _|refine aP ?_ ?_)
   all_goals try (exfalso;omega)
   have hfz:frzA 10 g10 (xs.map (AV.int .i64)) (.msl 10 g10 W 1)= .slc 1 (iR xs) .non:=by rw[←hl];simp[frzA,chunk1]
   refine w_frzIG [(0,.ref 1000 g 0),(5,.slc 1 (iR xs) .non)] [(1000,(g,.row [.int .u64 w1]))] rfl rfl hl ⟨rfl,hfz,trivial⟩ ⟨rfl,trivial⟩ ?_;intro e2 σ2
   repeat' (first|refine aR ?_|refine aX ?_|with_reducible intro _|refine aP ?_ ?_)
   all_goals first|exact⟨_,⟨xs,rfl,hl,hb,by omega⟩,rfl⟩
 · have hgi:∀j:Nat,0≤xs.getD j 0∧xs.getD j 0≤xs.sum:=fun j=>by
    by_cases hj:j<xs.length
    · have:=getD_mem (d:=(0:Int)) hj;exact⟨hn _ this,sum_ge hn _ this⟩
    · rw[List.getD_eq_getElem?_getD,List.getElem?_eq_none (by omega)];exact⟨Int.le_refl _,hsn⟩
   repeat' (first|refine aR ?_|(first|refine w_ldEl (p:=Int.toNat _) rfl (Nat.mul_one _) rfl (by omega) ?_|refine w_stEl (p:=Int.toNat _) rfl (Nat.mul_one _) rfl (by omega) rfl ?_)|((with_reducible refine aC ?_);first|(refine ACall.box (any_c _ _ _ _ (by omega) (by omega) (by omega) (by omega)) rfl rfl rfl ?_;rintro _ _ ⟨n,rfl,hn0,hn1⟩)|(refine ACall.box (upp_c _ _ _ (by omega) (by omega)) rfl rfl rfl ?_;rintro _ _ ⟨i,rfl,hi0,hi1⟩;have hgj:=hgi i.toNat))|refine aX ?_|with_reducible intro _|refine aP ?_ ?_)
   all_goals first
    | (exfalso;omega)
    | exact q_loop (xs.set i.toNat (xs.getD i.toNat 0+n),left-n,_) ⟨by dsimp only;rw[List.length_set];exact hl,fun k hk=>by
       dsimp only at hk;rcases List.mem_or_eq_of_mem_set hk with h | h
       · exact hn k h
       · omega,by dsimp only;rw[sum_setI _ _ _ (by omega)];omega,by dsimp only;omega⟩ (by show (left-n).toNat<left.toNat;omega) ⟨rfl,trivial⟩ ⟨rfl,rfl,trivial⟩ aK aK
def dqV(l:List (List Int))(g:Nat):AV:=match l with
 | []=> .nsl
 | _::_=> .slc 1 (llR l) (.own 21 g)
def dqX(l:List (List Int))(g:Nat):Nat×Res:=match l with
 | []=>(0,.dead)
 | _::_=>(g,.row [])
theorem dull_c(g:Nat)(w:Int)(W:Nat)(hW:1≤W∧W<1000):RawC Tryz.prog 23 [.ref 1000 g 0,.int .i64 (W:Nat)] (BoxS g w) (BoxR g fun av=>∃r,av=noA (List.replicate W r)∧r.length=W∧(∀k∈r,0≤k∧k≤10)∧r.sum=10):=by
 refine wk ir23 Tryz.func23 ?_;unfold ir23
 repeat' (first|refine aR ?_|with_reducible refine zI fun y hy=>?_|((with_reducible refine aC ?_);first|(refine ACall.box (takes_c _ _ W hW) rfl rfl rfl ?_;rintro _ _ ⟨r,rfl,hr1,hr2,hr3⟩))|refine aX ?_|with_reducible intro _|with_reducible refine zJ ?_ fun y hy=>?_|refine aP ?_ ?_)
 all_goals try (exfalso;omega)
 rename_i g4 g5 w1;have hI:=ints_c r (by omega);refine w_loopK [1,4,5,6] [4,1000] (fun x:Nat×Nat=>x.1≤W) (fun x=>W-x.1) (fun x=>[(7,.int .i64 (x.1:Int))]) (fun x=>[(5,(g5,.row [dqV (List.replicate x.1 r) x.2])),(21,dqX (List.replicate x.1 r) x.2)]) (0,0) (Nat.zero_le _) ⟨rfl,trivial⟩ ⟨rfl,rfl,trivial⟩ ?_;rintro⟨j,gq⟩ hj e σ;dsimp only at hj ⊢;have hjl:(List.replicate j r).length=j:=List.length_replicate;by_cases hjW:j=W
 · subst hjW;cases j with
   | zero=>exfalso;omega
   | succ j=>
     repeat' (first|refine aR ?_|with_reducible refine zI fun y hy=>?_|refine aX ?_|with_reducible intro _|with_reducible refine zJ ?_ fun y hy=>?_|refine aP ?_ ?_)
     all_goals first|(exfalso;omega)|exact⟨_,⟨r,rfl,hr1,hr2,hr3⟩,rfl⟩
 · cases j with
   | zero=>
     repeat' (first|refine aR ?_|with_reducible refine zI fun y hy=>?_|((with_reducible refine aC ?_);first|refine aV hI ?_)|refine aX ?_|with_reducible intro _|with_reducible refine zJ ?_ fun y hy=>?_|refine aP ?_ ?_)
     all_goals first|(exfalso;omega)|exact q_loop (1,_) (by show 1≤W;omega) (by show W-1<W-0;omega) ⟨rfl,trivial⟩ ⟨rfl,rfl,trivial⟩ aK aK
   | succ j=>
     have hyl:(llR (List.replicate (j+1) r)).length=j+1:=by rw[List.length_map];exact hjl
     repeat' (first|refine aR ?_|with_reducible refine zI fun y hy=>?_|((with_reducible refine aC ?_);first|refine aV hI ?_)|refine aX ?_|with_reducible intro _|with_reducible refine zJ ?_ fun y hy=>?_|refine aP ?_ ?_)
     all_goals try (exfalso;omega)
     all_goals
      rename_i g6;have e1:llR (List.replicate (j+1) r++[r])=llR (List.replicate (j+1+1) r):=by rw[List.replicate_succ' (n:=j+1)]
      exact q_loop (j+1+1,g6) (by show j+1+1≤W;omega) (by show W-(j+1+1)<W-(j+1);omega) ⟨int_eq (by simp),trivial⟩ ⟨by first|rfl|exact congrArg (fun z=>(g5,Res.row [AV.slc 1 z (.own 21 g6)])) e1,rfl,trivial⟩ aK aK
end Go.Abs
set_option linter.unusedVariables false
set_option linter.unusedSimpArgs false
set_option maxRecDepth 20000
set_option maxHeartbeats 4000000
namespace Go.Abs
open Go.Proofs
def ir54v:IFn:= ⟨23,[(2,some (1,true))],(sO [oo 2 (.new [.nsl])] (sO [oo 3 (.new [.nsl])] (.seq (sO [oM 4 (kI 0)] (.blk 0 (.loop (.seq (sO [oM 6 4,oM 7 0,oB 8 .lss 6 7] (.cnd 8 .skip (.exit 0))) (.seq (.blk 1 (sO [oM 11 0,oo 12 (.mks 1 8 [z0] 11 11),oM 5 12] (sO [oM 13 5,oM 14 4,oA 15 1 13 14,oS 1 15 (kI 10)] (.ops [oF 16 0 3,oL 17 16,oM 18 5,oo 19 (.bsm 1 [[.nsl]] [(0,18)]),oo 20 (.apm 1 24 17 19 20),oF 21 0 3,oS 1 21 20])))) (.seq (.mve 5) (.ops [oM 9 4,oB 10 .add 9 (kI 1),oM 4 10]))))))) (sO [oo 22 (.ld 1 true 3),oS 1 2 22] .ret))))⟩
def hint54v(P:Program):Hint:={site:=[],nils:=[],frz:=[],mve:=[(9,5)],wr:=[19,20] }
theorem w_mveQ{P:Program}{Q:Post}{e:Nat→AV}{σ:Sig}{t i g n sz:Nat}{c:List AV}(j:Nat)(F:Nat→List (Nat×AV))(S:Nat→List (Nat×(Nat×Res)))(h1:e t= .msl i g n sz)(hσ:σ i=(g,.row c))(hj:j≠YS∧j≠i)(hF:∀h,slots (F h) (mvE i g j h e))(hS:∀h,slots (S h) (mvS i g j h σ))(hk:∀h e' σ',Q .nor (updL (F h) e') (updL (S h) σ')):awp P (.mve (.t t)) Q e σ:=by
 show mveW (e t) e σ (Q .nor)
 rw[h1];show (match σ i with|(g',.row _)=>g=g'∧ ∃j,j≠YS∧j≠i∧ ∀h,Q .nor (mvE i g j h e) (mvS i g j h σ) | _=>False)
 rw[hσ];refine⟨rfl,j,hj.1,hj.2,fun h=>?_⟩;have:=hk h (mvE i g j h e) (mvS i g j h σ);rw[updL_slots (hF h),updL_slots (hS h)] at this;exact this
section
variable {P:Program} {K:(Nat→AV)→Sig→Prop} {e:Nat→AV} {σ:Sig} {x y:IOpd} {r:List IStep}
theorem w_apmC0{d i j h m:Nat}(hx:x.ev e= .nsl)(hy:y.ev e= .msl j h 1 1){a:AV}(hσ:σ j=(h,.row [a]))(ha:a.scal=true)(hk:∀g,stepsW P r K (upd e d (.msl i g 1 1)) (newS σ i g [a])):stepsW P (⟨some d,none,.apm 1 24 x y i⟩::r) K e σ:=by
 refine w_det (p:=True∧(h=h∧1=1∧1*1≤[a].length∧[a].length=1*1∧[a].all AV.scal=true∧0<1)∧(0+1)*24≤140737488355328) (v:=fun g=> .msl i g (0+1) 1) (σ':=fun g=>newS σ i g ([]++[a])) (fun g=>?_) ⟨trivial,⟨rfl,rfl,by simp,by simp,by simp[ha],by decide⟩,by decide⟩ hk;show (match baseM 1 σ (x.ev e),rowsO 1 (y.ev e) with
  | some (p,n,c,σ'),some (q,ys)=>(match ys with
    | []=>some (p∧q,x.ev e,σ)
    | _::_=>some (p∧q∧(n+ys.length)*24≤140737488355328,AV.msl i g (n+ys.length) 1,newS σ' i g (c++ys.flatten)))
  | some (p,n,c,σ'),none=>(match rowsM 1 σ (y.ev e) with
    | some (q,m,ys)=>some (p∧q∧(n+m)*24≤140737488355328,AV.msl i g (n+m) 1,newS σ' i g (c++ys))
    | none=>none)
  | _,_=>none)=_
 rw[hx,hy];simp only[baseM,rowsO,rowsM,hσ]
theorem w_apmC1{d i i' g' j h n:Nat}{a:AV}{cs:List AV}(hx:x.ev e= .msl i' g' n 1)(hσx:σ i'=(g',.row cs))(hn:cs.length=n)(hn2:n≤1000000)(hy:y.ev e= .msl j h 1 1)(hσ:σ j=(h,.row [a]))(ha:a.scal=true)(hk:∀g,stepsW P r K (upd e d (.msl i g (n+1) 1)) (newS (upd σ i' (g',.dead)) i g (cs++[a]))):stepsW P (⟨some d,none,.apm 1 24 x y i⟩::r) K e σ:=by
 refine w_det (p:=(g'=g'∧1=1∧cs.length=n*1)∧(h=h∧1=1∧1*1≤[a].length∧[a].length=1*1∧[a].all AV.scal=true∧0<1)∧(n+1)*24≤140737488355328) (v:=fun g=> .msl i g (n+1) 1) (σ':=fun g=>newS (upd σ i' (g',.dead)) i g (cs++[a])) (fun g=>?_) ⟨⟨rfl,rfl,by omega⟩,⟨rfl,rfl,by simp,by simp,by simp[ha],by decide⟩,by omega⟩ hk;show (match baseM 1 σ (x.ev e),rowsO 1 (y.ev e) with
  | some (p,n,c,σ'),some (q,ys)=>(match ys with
    | []=>some (p∧q,x.ev e,σ)
    | _::_=>some (p∧q∧(n+ys.length)*24≤140737488355328,AV.msl i g (n+ys.length) 1,newS σ' i g (c++ys.flatten)))
  | some (p,n,c,σ'),none=>(match rowsM 1 σ (y.ev e) with
    | some (q,m,ys)=>some (p∧q∧(n+m)*24≤140737488355328,AV.msl i g (n+m) 1,newS σ' i g (c++ys))
    | none=>none)
  | _,_=>none)=_
 rw[hx,hy];simp only[baseM,rowsO,rowsM,hσ,hσx]
end
theorem mvS_rowK{i g j h k x:Nat}{σ:Sig}{c c':List AV}(hs:σ k=(x,.row c))(h1:k≠j)(h2:k≠i)(hc:mvL i g j h c=c'):mvS i g j h σ k=(x,.row c'):=by simp[mvS,h1,h2,hs,mvR,hc]
theorem cells_mv2{i g h n a:Nat}{hs:Nat→Nat}(hi:i<5000):mvL i g (5000+a) h (cellsR n a hs++[.msl i g n 1])=cellsR n (a+1) (upd hs a h):=by
 rw[mvL_map,List.map_append,cellsR,cellsR,List.range_succ,List.map_append,List.map_map]
 congr 1
 · refine List.map_congr_left fun k hk=>?_;have hk':k<a:=by simpa using hk
   simp only[Function.comp,cellR,mvA];rw[if_neg (by omega),upd_eq,if_neg (by omega)]
 · simp only[mvA,List.map_cons,List.map_nil,cellR,upd_eq,and_self,if_true]
def clF(k y:Nat):Int:=if y=k then 10 else 0
abbrev nsS(W n g:Nat)(hs:Nat→Nat)(f:Nat→Nat→Int):List (Nat×(Nat×Res)):=(20,(g,.row (cellsR W n hs)))::rowsS n W hs f
abbrev nsV(W n g:Nat):AV:= .agg [.msl 20 g n 1]
theorem clear1_c:RawC Tryz.prog 54 [.int .i64 1] (sg []) (SR (fun (x:Nat×(Nat→Nat)) v=>v=nsV 1 1 x.1) (fun x=>nsS 1 1 x.1 x.2 clF)):=by
 refine RawC.walk (H:=hint54v Tryz.prog) ir54v Tryz.func54 rfl rfl rfl ?_;unfold ir54v
 repeat' (first|refine aR ?_|with_reducible refine zI fun y hy=>?_|refine aX ?_|with_reducible intro _|with_reducible refine zJ ?_ fun y hy=>?_|refine aP ?_ ?_)
 rename_i g2 g3;refine w_loopK [0,2,3] [] (fun x:Nat×Nat×(Nat→Nat)=>x.1≤1) (fun x=>1-x.1) (fun x=>[(4,.int .i64 x.1)]) (fun x=>(2,(g2,.row [.nsl]))::(3,(g3,.row [match x.1 with | 0=> .nsl | n+1=> .msl 20 x.2.1 (n+1) 1]))::(match x.1 with | 0=>[] | n+1=>nsS 1 (n+1) x.2.1 x.2.2 clF)) (0,0,fun _=>0) (Nat.zero_le _) ⟨rfl,trivial⟩ ⟨rfl,rfl,trivial⟩ ?_;rintro⟨a,g20,hs⟩ ha e σ;dsimp only at ha ⊢;obtain rfl|rfl:a=0∨a=1:=by omega
 · repeat' (first
    | with_reducible (first|refine Rd.p ?_|refine w_alt ?_ ?_|refine zE ?_|refine zE0 ?_)
    | (first|(refine w_mksI (n:=1) rfl (by decide) ?_;intro g12)|(refine w_apmC0 (m:=0) rfl rfl rfl rfl ?_;intro g20'))
    | with_reducible (first|refine zI fun y hy=>?_|refine zL ?_|refine zS ?_|refine zA fun _=>?_|refine zV ?_|refine zC ?_|refine zG ?_|refine zU ?_|refine zG0 ?_|refine zU0 ?_|refine zF ?_)
    | with_reducible (first|refine zX ?_|refine zD fun _=>?_|refine zD0 ?_|refine zN ?_|refine zF0 ?_|refine zX0 ?_|refine z1 ?_|refine z2 ?_|refine z3 ?_|refine z4 ?_|refine z5 ?_|refine z6 ?_|refine z7 ?_|refine z8 ?_|refine y1 ?_|refine y2 ?_|refine y3 ?_|refine y4 ?_|refine y5 ?_|refine y6 ?_|refine y7 ?_|refine y8 ?_|refine Rt.p (fun _=>?_) fun _=>?_)
    | ((with_reducible apply w_ixM);(focus exact rfl);(focus exact rfl);case' hk=>intro y hy)|((with_reducible (first | apply w_val | apply q_ends));(focus exact rfl)))
   refine w_mveQ 5000 (fun _=>[(0,.int .i64 1),(2,.ref 2 g2 0),(3,.ref 3 g3 0),(4,.int .i64 0)]) (fun h=>(2,(g2,.row [.nsl]))::(3,(g3,.row [.msl 20 g20' 1 1]))::nsS 1 1 g20' (upd hs 0 h) clF) rfl rfl ⟨by decide,by decide⟩ (fun h=>⟨mvE_keep rfl rfl,mvE_keep rfl rfl,mvE_keep rfl rfl,mvE_keep rfl rfl,trivial⟩) (fun h=>⟨rfl,rfl,mvS_rowK rfl (by decide) (by decide) (cells_mv2 (n:=1) (a:=0) (hs:=hs) (by decide)),mvS_at rfl (mvL_row ..),trivial⟩) ?_;intro h e2 σ2
   repeat' (first|refine aR ?_|with_reducible refine zI fun y hy=>?_|refine aX ?_|with_reducible intro _|with_reducible refine zJ ?_ fun y hy=>?_|refine aP ?_ ?_)
   exact q_loop (1,g20',upd hs 0 h) (by show 1≤1;decide) (by show 1-1<1-0;decide) ⟨rfl,trivial⟩ aS aK aK
 · repeat' (first
    | with_reducible (first|refine Rd.p ?_|refine w_alt ?_ ?_|refine zE ?_|refine zE0 ?_)
    | with_reducible (first|refine zI fun y hy=>?_|refine zL ?_|refine zS ?_|refine zA fun _=>?_|refine zV ?_|refine zC ?_|refine zG ?_|refine zU ?_|refine zG0 ?_|refine zU0 ?_|refine zF ?_)
    | with_reducible (first|refine zX ?_|refine zD fun _=>?_|refine zD0 ?_|refine zN ?_|refine zF0 ?_|refine zX0 ?_|refine z1 ?_|refine z2 ?_|refine z3 ?_|refine z4 ?_|refine z5 ?_|refine z6 ?_|refine z7 ?_|refine z8 ?_|refine y1 ?_|refine y2 ?_|refine y3 ?_|refine y4 ?_|refine y5 ?_|refine y6 ?_|refine y7 ?_|refine y8 ?_|refine Rt.p (fun _=>?_) fun _=>?_)
    | ((with_reducible apply w_ixM);(focus exact rfl);(focus exact rfl);case' hk=>intro y hy)|((with_reducible (first | apply w_val | apply q_ends));(focus exact rfl)))
   exact⟨(g20,hs),rfl,rfl,rfl,trivial⟩
theorem clear2_c:RawC Tryz.prog 54 [.int .i64 2] (sg []) (SR (fun (x:Nat×(Nat→Nat)) v=>v=nsV 2 2 x.1) (fun x=>nsS 2 2 x.1 x.2 clF)):=by
 refine RawC.walk (H:=hint54v Tryz.prog) ir54v Tryz.func54 rfl rfl rfl ?_;unfold ir54v
 repeat' (first|refine aR ?_|with_reducible refine zI fun y hy=>?_|refine aX ?_|with_reducible intro _|with_reducible refine zJ ?_ fun y hy=>?_|refine aP ?_ ?_)
 rename_i g2 g3;refine w_loopK [0,2,3] [] (fun x:Nat×Nat×(Nat→Nat)=>x.1≤2) (fun x=>2-x.1) (fun x=>[(4,.int .i64 x.1)]) (fun x=>(2,(g2,.row [.nsl]))::(3,(g3,.row [match x.1 with | 0=> .nsl | n+1=> .msl 20 x.2.1 (n+1) 1]))::(match x.1 with | 0=>[] | n+1=>nsS 2 (n+1) x.2.1 x.2.2 clF)) (0,0,fun _=>0) (Nat.zero_le _) ⟨rfl,trivial⟩ ⟨rfl,rfl,trivial⟩ ?_;rintro⟨a,g20,hs⟩ ha e σ;dsimp only at ha ⊢;obtain rfl|rfl|rfl:a=0∨a=1∨a=2:=by omega
 · repeat' (first
    | with_reducible (first|refine Rd.p ?_|refine w_alt ?_ ?_|refine zE ?_|refine zE0 ?_)
    | (first|(refine w_mksI (n:=2) rfl (by decide) ?_;intro g12)|(refine w_apmC0 (m:=0) rfl rfl rfl rfl ?_;intro g20'))
    | with_reducible (first|refine zI fun y hy=>?_|refine zL ?_|refine zS ?_|refine zA fun _=>?_|refine zV ?_|refine zC ?_|refine zG ?_|refine zU ?_|refine zG0 ?_|refine zU0 ?_|refine zF ?_)
    | with_reducible (first|refine zX ?_|refine zD fun _=>?_|refine zD0 ?_|refine zN ?_|refine zF0 ?_|refine zX0 ?_|refine z1 ?_|refine z2 ?_|refine z3 ?_|refine z4 ?_|refine z5 ?_|refine z6 ?_|refine z7 ?_|refine z8 ?_|refine y1 ?_|refine y2 ?_|refine y3 ?_|refine y4 ?_|refine y5 ?_|refine y6 ?_|refine y7 ?_|refine y8 ?_|refine Rt.p (fun _=>?_) fun _=>?_)
    | ((with_reducible apply w_ixM);(focus exact rfl);(focus exact rfl);case' hk=>intro y hy)|((with_reducible (first | apply w_val | apply q_ends));(focus exact rfl)))
   refine w_mveQ 5000 (fun _=>[(0,.int .i64 2),(2,.ref 2 g2 0),(3,.ref 3 g3 0),(4,.int .i64 0)]) (fun h=>(2,(g2,.row [.nsl]))::(3,(g3,.row [.msl 20 g20' 1 1]))::nsS 2 1 g20' (upd hs 0 h) clF) rfl rfl ⟨by decide,by decide⟩ (fun h=>⟨mvE_keep rfl rfl,mvE_keep rfl rfl,mvE_keep rfl rfl,mvE_keep rfl rfl,trivial⟩) (fun h=>⟨rfl,rfl,mvS_rowK rfl (by decide) (by decide) (cells_mv2 (n:=2) (a:=0) (hs:=hs) (by decide)),mvS_at rfl (mvL_row ..),trivial⟩) ?_;intro h e2 σ2
   repeat' (first|refine aR ?_|with_reducible refine zI fun y hy=>?_|refine aX ?_|with_reducible intro _|with_reducible refine zJ ?_ fun y hy=>?_|refine aP ?_ ?_)
   exact q_loop (1,g20',upd hs 0 h) (by show 1≤2;decide) (by show 2-1<2-0;decide) ⟨rfl,trivial⟩ aS aK aK
 · repeat' (first
    | with_reducible (first|refine Rd.p ?_|refine w_alt ?_ ?_|refine zE ?_|refine zE0 ?_)
    | (first|(refine w_mksI (n:=2) rfl (by decide) ?_;intro g12)|(refine w_apmC1 rfl rfl rfl (by decide) rfl rfl rfl ?_;intro g20'))
    | with_reducible (first|refine zI fun y hy=>?_|refine zL ?_|refine zS ?_|refine zA fun _=>?_|refine zV ?_|refine zC ?_|refine zG ?_|refine zU ?_|refine zG0 ?_|refine zU0 ?_|refine zF ?_)
    | with_reducible (first|refine zX ?_|refine zD fun _=>?_|refine zD0 ?_|refine zN ?_|refine zF0 ?_|refine zX0 ?_|refine z1 ?_|refine z2 ?_|refine z3 ?_|refine z4 ?_|refine z5 ?_|refine z6 ?_|refine z7 ?_|refine z8 ?_|refine y1 ?_|refine y2 ?_|refine y3 ?_|refine y4 ?_|refine y5 ?_|refine y6 ?_|refine y7 ?_|refine y8 ?_|refine Rt.p (fun _=>?_) fun _=>?_)
    | ((with_reducible apply w_ixM);(focus exact rfl);(focus exact rfl);case' hk=>intro y hy)|((with_reducible (first | apply w_val | apply q_ends));(focus exact rfl)))
   refine w_mveQ 5001 (fun _=>[(0,.int .i64 2),(2,.ref 2 g2 0),(3,.ref 3 g3 0),(4,.int .i64 1)]) (fun h=>(2,(g2,.row [.nsl]))::(3,(g3,.row [.msl 20 g20' 2 1]))::nsS 2 2 g20' (upd hs 1 h) clF) rfl rfl ⟨by decide,by decide⟩ (fun h=>⟨mvE_keep rfl rfl,mvE_keep rfl rfl,mvE_keep rfl rfl,mvE_keep rfl rfl,trivial⟩) (fun h=>⟨rfl,rfl,mvS_rowK rfl (by decide) (by decide) (cells_mv2 (n:=2) (a:=1) (hs:=hs) (by decide)),mvS_keep rfl (by decide) (by decide) rfl,mvS_at rfl (mvL_row ..),trivial⟩) ?_;intro h e2 σ2
   repeat' (first|refine aR ?_|with_reducible refine zI fun y hy=>?_|refine aX ?_|with_reducible intro _|with_reducible refine zJ ?_ fun y hy=>?_|refine aP ?_ ?_)
   exact q_loop (2,g20',upd hs 1 h) (by show 2≤2;decide) (by show 2-2<2-1;decide) ⟨rfl,trivial⟩ aS aK aK
 · repeat' (first
    | with_reducible (first|refine Rd.p ?_|refine w_alt ?_ ?_|refine zE ?_|refine zE0 ?_)
    | with_reducible (first|refine zI fun y hy=>?_|refine zL ?_|refine zS ?_|refine zA fun _=>?_|refine zV ?_|refine zC ?_|refine zG ?_|refine zU ?_|refine zG0 ?_|refine zU0 ?_|refine zF ?_)
    | with_reducible (first|refine zX ?_|refine zD fun _=>?_|refine zD0 ?_|refine zN ?_|refine zF0 ?_|refine zX0 ?_|refine z1 ?_|refine z2 ?_|refine z3 ?_|refine z4 ?_|refine z5 ?_|refine z6 ?_|refine z7 ?_|refine z8 ?_|refine y1 ?_|refine y2 ?_|refine y3 ?_|refine y4 ?_|refine y5 ?_|refine y6 ?_|refine y7 ?_|refine y8 ?_|refine Rt.p (fun _=>?_) fun _=>?_)
    | ((with_reducible apply w_ixM);(focus exact rfl);(focus exact rfl);case' hk=>intro y hy)|((with_reducible (first | apply w_val | apply q_ends));(focus exact rfl)))
   exact⟨(g20,hs),rfl,rfl,rfl,rfl,trivial⟩
theorem clear3_c:RawC Tryz.prog 54 [.int .i64 3] (sg []) (SR (fun (x:Nat×(Nat→Nat)) v=>v=nsV 3 3 x.1) (fun x=>nsS 3 3 x.1 x.2 clF)):=by
 refine RawC.walk (H:=hint54v Tryz.prog) ir54v Tryz.func54 rfl rfl rfl ?_;unfold ir54v
 repeat' (first|refine aR ?_|with_reducible refine zI fun y hy=>?_|refine aX ?_|with_reducible intro _|with_reducible refine zJ ?_ fun y hy=>?_|refine aP ?_ ?_)
 rename_i g2 g3;refine w_loopK [0,2,3] [] (fun x:Nat×Nat×(Nat→Nat)=>x.1≤3) (fun x=>3-x.1) (fun x=>[(4,.int .i64 x.1)]) (fun x=>(2,(g2,.row [.nsl]))::(3,(g3,.row [match x.1 with | 0=> .nsl | n+1=> .msl 20 x.2.1 (n+1) 1]))::(match x.1 with | 0=>[] | n+1=>nsS 3 (n+1) x.2.1 x.2.2 clF)) (0,0,fun _=>0) (Nat.zero_le _) ⟨rfl,trivial⟩ ⟨rfl,rfl,trivial⟩ ?_;rintro⟨a,g20,hs⟩ ha e σ;dsimp only at ha ⊢;obtain rfl|rfl|rfl|rfl:a=0∨a=1∨a=2∨a=3:=by omega
 · repeat' (first
    | with_reducible (first|refine Rd.p ?_|refine w_alt ?_ ?_|refine zE ?_|refine zE0 ?_)
    | (first|(refine w_mksI (n:=3) rfl (by decide) ?_;intro g12)|(refine w_apmC0 (m:=0) rfl rfl rfl rfl ?_;intro g20'))
    | with_reducible (first|refine zI fun y hy=>?_|refine zL ?_|refine zS ?_|refine zA fun _=>?_|refine zV ?_|refine zC ?_|refine zG ?_|refine zU ?_|refine zG0 ?_|refine zU0 ?_|refine zF ?_)
    | with_reducible (first|refine zX ?_|refine zD fun _=>?_|refine zD0 ?_|refine zN ?_|refine zF0 ?_|refine zX0 ?_|refine z1 ?_|refine z2 ?_|refine z3 ?_|refine z4 ?_|refine z5 ?_|refine z6 ?_|refine z7 ?_|refine z8 ?_|refine y1 ?_|refine y2 ?_|refine y3 ?_|refine y4 ?_|refine y5 ?_|refine y6 ?_|refine y7 ?_|refine y8 ?_|refine Rt.p (fun _=>?_) fun _=>?_)
    | ((with_reducible apply w_ixM);(focus exact rfl);(focus exact rfl);case' hk=>intro y hy)|((with_reducible (first | apply w_val | apply q_ends));(focus exact rfl)))
   refine w_mveQ 5000 (fun _=>[(0,.int .i64 3),(2,.ref 2 g2 0),(3,.ref 3 g3 0),(4,.int .i64 0)]) (fun h=>(2,(g2,.row [.nsl]))::(3,(g3,.row [.msl 20 g20' 1 1]))::nsS 3 1 g20' (upd hs 0 h) clF) rfl rfl ⟨by decide,by decide⟩ (fun h=>⟨mvE_keep rfl rfl,mvE_keep rfl rfl,mvE_keep rfl rfl,mvE_keep rfl rfl,trivial⟩) (fun h=>⟨rfl,rfl,mvS_rowK rfl (by decide) (by decide) (cells_mv2 (n:=3) (a:=0) (hs:=hs) (by decide)),mvS_at rfl (mvL_row ..),trivial⟩) ?_;intro h e2 σ2
   repeat' (first|refine aR ?_|with_reducible refine zI fun y hy=>?_|refine aX ?_|with_reducible intro _|with_reducible refine zJ ?_ fun y hy=>?_|refine aP ?_ ?_)
   exact q_loop (1,g20',upd hs 0 h) (by show 1≤3;decide) (by show 3-1<3-0;decide) ⟨rfl,trivial⟩ aS aK aK
 · repeat' (first
    | with_reducible (first|refine Rd.p ?_|refine w_alt ?_ ?_|refine zE ?_|refine zE0 ?_)
    | (first|(refine w_mksI (n:=3) rfl (by decide) ?_;intro g12)|(refine w_apmC1 rfl rfl rfl (by decide) rfl rfl rfl ?_;intro g20'))
    | with_reducible (first|refine zI fun y hy=>?_|refine zL ?_|refine zS ?_|refine zA fun _=>?_|refine zV ?_|refine zC ?_|refine zG ?_|refine zU ?_|refine zG0 ?_|refine zU0 ?_|refine zF ?_)
    | with_reducible (first|refine zX ?_|refine zD fun _=>?_|refine zD0 ?_|refine zN ?_|refine zF0 ?_|refine zX0 ?_|refine z1 ?_|refine z2 ?_|refine z3 ?_|refine z4 ?_|refine z5 ?_|refine z6 ?_|refine z7 ?_|refine z8 ?_|refine y1 ?_|refine y2 ?_|refine y3 ?_|refine y4 ?_|refine y5 ?_|refine y6 ?_|refine y7 ?_|refine y8 ?_|refine Rt.p (fun _=>?_) fun _=>?_)
    | ((with_reducible apply w_ixM);(focus exact rfl);(focus exact rfl);case' hk=>intro y hy)|((with_reducible (first | apply w_val | apply q_ends));(focus exact rfl)))
   refine w_mveQ 5001 (fun _=>[(0,.int .i64 3),(2,.ref 2 g2 0),(3,.ref 3 g3 0),(4,.int .i64 1)]) (fun h=>(2,(g2,.row [.nsl]))::(3,(g3,.row [.msl 20 g20' 2 1]))::nsS 3 2 g20' (upd hs 1 h) clF) rfl rfl ⟨by decide,by decide⟩ (fun h=>⟨mvE_keep rfl rfl,mvE_keep rfl rfl,mvE_keep rfl rfl,mvE_keep rfl rfl,trivial⟩) (fun h=>⟨rfl,rfl,mvS_rowK rfl (by decide) (by decide) (cells_mv2 (n:=3) (a:=1) (hs:=hs) (by decide)),mvS_keep rfl (by decide) (by decide) rfl,mvS_at rfl (mvL_row ..),trivial⟩) ?_;intro h e2 σ2
   repeat' (first|refine aR ?_|with_reducible refine zI fun y hy=>?_|refine aX ?_|with_reducible intro _|with_reducible refine zJ ?_ fun y hy=>?_|refine aP ?_ ?_)
   exact q_loop (2,g20',upd hs 1 h) (by show 2≤3;decide) (by show 3-2<3-1;decide) ⟨rfl,trivial⟩ aS aK aK
 · repeat' (first
    | with_reducible (first|refine Rd.p ?_|refine w_alt ?_ ?_|refine zE ?_|refine zE0 ?_)
    | (first|(refine w_mksI (n:=3) rfl (by decide) ?_;intro g12)|(refine w_apmC1 rfl rfl rfl (by decide) rfl rfl rfl ?_;intro g20'))
    | with_reducible (first|refine zI fun y hy=>?_|refine zL ?_|refine zS ?_|refine zA fun _=>?_|refine zV ?_|refine zC ?_|refine zG ?_|refine zU ?_|refine zG0 ?_|refine zU0 ?_|refine zF ?_)
    | with_reducible (first|refine zX ?_|refine zD fun _=>?_|refine zD0 ?_|refine zN ?_|refine zF0 ?_|refine zX0 ?_|refine z1 ?_|refine z2 ?_|refine z3 ?_|refine z4 ?_|refine z5 ?_|refine z6 ?_|refine z7 ?_|refine z8 ?_|refine y1 ?_|refine y2 ?_|refine y3 ?_|refine y4 ?_|refine y5 ?_|refine y6 ?_|refine y7 ?_|refine y8 ?_|refine Rt.p (fun _=>?_) fun _=>?_)
    | ((with_reducible apply w_ixM);(focus exact rfl);(focus exact rfl);case' hk=>intro y hy)|((with_reducible (first | apply w_val | apply q_ends));(focus exact rfl)))
   refine w_mveQ 5002 (fun _=>[(0,.int .i64 3),(2,.ref 2 g2 0),(3,.ref 3 g3 0),(4,.int .i64 2)]) (fun h=>(2,(g2,.row [.nsl]))::(3,(g3,.row [.msl 20 g20' 3 1]))::nsS 3 3 g20' (upd hs 2 h) clF) rfl rfl ⟨by decide,by decide⟩ (fun h=>⟨mvE_keep rfl rfl,mvE_keep rfl rfl,mvE_keep rfl rfl,mvE_keep rfl rfl,trivial⟩) (fun h=>⟨rfl,rfl,mvS_rowK rfl (by decide) (by decide) (cells_mv2 (n:=3) (a:=2) (hs:=hs) (by decide)),mvS_keep rfl (by decide) (by decide) rfl,mvS_keep rfl (by decide) (by decide) rfl,mvS_at rfl (mvL_row ..),trivial⟩) ?_;intro h e2 σ2
   repeat' (first|refine aR ?_|with_reducible refine zI fun y hy=>?_|refine aX ?_|with_reducible intro _|with_reducible refine zJ ?_ fun y hy=>?_|refine aP ?_ ?_)
   exact q_loop (3,g20',upd hs 2 h) (by show 3≤3;decide) (by show 3-3<3-2;decide) ⟨rfl,trivial⟩ aS aK aK
 · repeat' (first
    | with_reducible (first|refine Rd.p ?_|refine w_alt ?_ ?_|refine zE ?_|refine zE0 ?_)
    | with_reducible (first|refine zI fun y hy=>?_|refine zL ?_|refine zS ?_|refine zA fun _=>?_|refine zV ?_|refine zC ?_|refine zG ?_|refine zU ?_|refine zG0 ?_|refine zU0 ?_|refine zF ?_)
    | with_reducible (first|refine zX ?_|refine zD fun _=>?_|refine zD0 ?_|refine zN ?_|refine zF0 ?_|refine zX0 ?_|refine z1 ?_|refine z2 ?_|refine z3 ?_|refine z4 ?_|refine z5 ?_|refine z6 ?_|refine z7 ?_|refine z8 ?_|refine y1 ?_|refine y2 ?_|refine y3 ?_|refine y4 ?_|refine y5 ?_|refine y6 ?_|refine y7 ?_|refine y8 ?_|refine Rt.p (fun _=>?_) fun _=>?_)
    | ((with_reducible apply w_ixM);(focus exact rfl);(focus exact rfl);case' hk=>intro y hy)|((with_reducible (first | apply w_val | apply q_ends));(focus exact rfl)))
   exact⟨(g20,hs),rfl,rfl,rfl,rfl,rfl,trivial⟩
end Go.Abs
set_option linter.unusedVariables false
set_option linter.unusedSimpArgs false
set_option maxRecDepth 20000
set_option maxHeartbeats 4000000
namespace Go.Abs
open Go.Proofs
def ir53v:IFn:= ⟨84,[(4,some (1,true))],(sO [oo 4 (.new [.nsl])] (sO [oM 10 1,oC 11 54 [10],oo 5 (.new [.nsl]),oS 1 5 11] (.seq (sO [oM 12 0,oC 13 38 [12,(kI 5)]] (.blk 0 (sO [oB 15 .eql 13 (kI 0),oM 14 15] (.cnd 14 (sO [oo 16 (.ld 1 true 5),oS 1 4 16] .ret) (sO [oB 18 .eql 13 (kI 1),oM 17 18] (.cnd 17 (sO [oM 19 0,oM 20 1,oC 21 23 [19,20],oS 1 4 21] .ret) (.seq (sO [oB 23 .eql 13 (kI 2),oM 22 23] (.cnd 22 .skip (.ops [oB 24 .eql 13 (kI 3),oM 22 24]))) (.cnd 22 (sO [oM 25 0,oM 26 1,oC 27 38 [25,26],oM 28 0,oM 29 1,oC 30 38 [28,29],oM 31 0,oC 32 37 [31,(kI 1),(kI 5)],oM 6 27,oM 7 30,oM 8 32] (.seq (sO [oM 33 6,oM 34 7,oB 35 .neq 33 34] (.cnd 35 (sO [oF 36 0 5,oL 37 36,oM 38 6,oA 39 1 37 38,oL 40 39,oM 41 6,oF 42 0 5,oL 43 42,oM 44 6,oA 45 1 43 44,oL 46 45,oM 47 7,oM 48 8,oB 49 .sub (kI 10) 48,oM 50 8,oA 51 1 40 41,oS 1 51 49,oA 52 1 46 47,oS 1 52 50] (.ops [oF 53 0 5,oL 54 53,oM 55 7,oA 56 1 54 55,oL 57 56,oM 58 7,oF 59 0 5,oL 60 59,oM 61 7,oA 62 1 60 61,oL 63 62,oM 64 6,oM 65 8,oB 66 .sub (kI 10) 65,oM 67 8,oA 68 1 57 58,oS 1 68 66,oA 69 1 63 64,oS 1 69 67])) .skip)) (sO [oo 70 (.ld 1 true 5),oS 1 4 70] .ret))) .skip)))))))) (.seq (sO [oM 9 (kI 0)] (.blk 1 (.loop (.seq (sO [oM 71 9,oM 72 1,oB 73 .lss 71 72] (.cnd 73 .skip (.exit 1))) (.seq (.blk 2 (.ops [oF 76 0 5,oL 77 76,oM 78 9,oM 79 0,oM 80 1,oC 81 74 [79,80],oK 76 77,oA 82 1 77 78,oS 1 82 81])) (.ops [oM 74 9,oB 75 .add 74 (kI 1),oM 9 75])))))) (sO [oo 83 (.ld 1 true 5),oS 1 4 83] .ret)))))⟩
def hint53v(P:Program):Hint:={}
abbrev rwOK(W:Nat)(r:List Int):Prop:=r.length=W∧(∀k∈r,0≤k∧k≤10)∧r.sum=10
def nsQ(W g:Nat)(hs:Nat→Nat)(N:List (List Int)):List (Nat×(Nat×Res)):=(11,(g,.row (cellsR W W hs)))::(List.range W).map fun k=>(5000+k,(hs k,Res.row ((N.getD k []).map (AV.int .i64))))
def celQ(l:List (List Int)):List AV:=l.map fun r=> .slc 1 (iR r) .non
abbrev nsW(W g:Nat):AV:= .agg [.msl 11 g W 1]
def NsR(W g:Nat):AV→Sig→Prop:=fun av σ'=>
 (∃N w',NoOK W N∧av=noA N∧σ' 1000=(g,.row [.int .u64 w']))∨
 (∃N g11 hs w',av=nsW W g11∧slots ((1000,(g,.row [.int .u64 w']))::nsQ W g11 hs N) σ'∧NoOK W N)∨
 (∃N g11 w',av=nsW W g11∧slots [(1000,(g,.row [.int .u64 w'])),(11,(g11,.row (celQ N)))] σ'∧NoOK W N)
theorem no1{a:List Int}(h:rwOK 1 a):NoOK 1 [a]:=⟨rfl,fun r hr=>by simp at hr;subst hr;exact h⟩
theorem no2{a b:List Int}(h:rwOK 2 a)(h2:rwOK 2 b):NoOK 2 [a,b]:=⟨rfl,fun r hr=>by simp at hr;rcases hr with rfl|rfl<;>assumption⟩
theorem no3{a b c:List Int}(h:rwOK 3 a)(h2:rwOK 3 b)(h3:rwOK 3 c):NoOK 3 [a,b,c]:=⟨rfl,fun r hr=>by simp at hr;rcases hr with rfl|rfl|rfl<;>assumption⟩
theorem rw1{a:Int}(h:a=10):rwOK 1 [a]:=by subst h;exact⟨rfl,by simp,rfl⟩
theorem rw2{a b:Int}(h:0≤a)(h2:0≤b)(h3:a+b=10):rwOK 2 [a,b]:=⟨rfl,fun k hk=>by simp at hk;rcases hk with rfl|rfl<;>omega,by simp;omega⟩
theorem rw3{a b c:Int}(h:0≤a)(h2:0≤b)(h3:0≤c)(h4:a+b+c=10):rwOK 3 [a,b,c]:=⟨rfl,fun k hk=>by simp at hk;rcases hk with rfl|rfl|rfl<;>omega,by simp;omega⟩
theorem no_rep{W:Nat}{r:List Int}(h:rwOK W r):NoOK W (List.replicate W r):=⟨by simp,fun x hx=>by rw[(List.mem_replicate.1 hx).2];exact h⟩
theorem noseOf1_c(g:Nat)(w:Int):RawC Tryz.prog 53 [.ref 1000 g 0,.int .i64 1] (BoxS g w) (NsR 1 g):=by
 refine RawC.walk (H:=hint53v Tryz.prog) ir53v Tryz.func53 rfl rfl rfl ?_;unfold ir53v
 repeat' (first|refine aR ?_|with_reducible refine zI fun y hy=>?_|((with_reducible refine aC ?_);first|((refine ACall.liftNS clear1_c [] [(20,11),(5000,5000)] rfl rfl rfl rfl trivial (fun _=>rfl) ?_;rintro⟨g11,hs⟩ _ rfl))|((refine ACall.box (upp_c _ _ 5 (by decide) (by decide)) rfl rfl rfl ?_;rintro _ _ ⟨p,rfl,hp0,hp1⟩;(obtain rfl|rfl|rfl|rfl|rfl:p=0∨p=1∨p=2∨p=3∨p=4:=by omega)))|(refine ACall.box (dull_c _ _ 1 (by decide)) rfl rfl rfl ?_;rintro _ _ ⟨dr,rfl,hd⟩)|((refine ACall.box (upp_c _ _ 1 (by decide) (by decide)) rfl rfl rfl ?_;rintro _ _ ⟨p,rfl,hp0,hp1⟩;(obtain rfl:p=0:=by omega)))|(refine ACall.box (any_c _ _ 1 5 (by decide) (by decide) (by decide) (by decide)) rfl rfl rfl ?_;rintro _ _ ⟨q,rfl,hq1,hq2⟩))|refine aX ?_|with_reducible intro _|with_reducible refine zJ ?_ fun y hy=>?_|refine aP ?_ ?_)
 all_goals first|exact .inl ⟨_,_,no_rep hd,rfl,rfl⟩|exact .inr (.inl ⟨[[10]],g11,hs,_,rfl,⟨rfl,rfl,rfl,trivial⟩,(no1 (rw1 (by omega)))⟩)|skip
 rename_i g4 g5 w1;refine w_loopK [0,1,4,5] [] (fun x:Nat×List (List Int)×Int=>x.2.1.length=x.1∧x.1≤1∧ ∀r∈x.2.1,rwOK 1 r) (fun x=>1-x.1) (fun x=>[(9,.int .i64 (x.1:Int))]) (fun x=>[(4,(g4,.row [.nsl])),(1000,(g,.row [.int .u64 x.2.2])),(5,(g5,.row [.msl 11 g11 1 1])),(11,(g11,.row (celQ x.2.1++(cellsR 1 1 hs).drop x.1)))]) (0,[],w1) ⟨rfl,Nat.zero_le _,fun r hr=>by cases hr⟩ ⟨rfl,trivial⟩ ⟨rfl,rfl,rfl,rfl,trivial⟩ ?_;rintro⟨a,l,w1⟩ ⟨ha,hl,hr⟩ e σ;dsimp only at ha hl hr ⊢;rcases l with _ | ⟨r0,_ | ⟨r1,l⟩⟩
 · obtain rfl:0=a:=ha
   repeat' (first|refine aR ?_|with_reducible refine zI fun y hy=>?_|((with_reducible refine aC ?_);first|(refine ACall.box (takes_c _ _ 1 (by decide)) rfl rfl rfl ?_;rintro _ _ ⟨r,rfl,h1,h2,h3⟩))|refine aX ?_|with_reducible intro _|with_reducible refine zJ ?_ fun y hy=>?_|refine aP ?_ ?_)
   exact q_loop (1,[r],_) ⟨rfl,by show 1≤1;decide,fun x hx=>by
    simp at hx;rcases hx with rfl
    · exact⟨h1,h2,h3⟩⟩   (by show 1-1<1-0;decide) ⟨rfl,trivial⟩ ⟨rfl,rfl,rfl,rfl,trivial⟩ aK aK
 · obtain rfl:1=a:=ha
   repeat' (first|refine aR ?_|with_reducible refine zI fun y hy=>?_|refine aX ?_|with_reducible intro _|with_reducible refine zJ ?_ fun y hy=>?_|refine aP ?_ ?_)
   exact .inr (.inr ⟨[r0],g11,_,rfl,⟨rfl,rfl,trivial⟩,no1 (hr _ (by simp))⟩)
 · exfalso;simp at ha;omega
theorem noseOf2_c(g:Nat)(w:Int):RawC Tryz.prog 53 [.ref 1000 g 0,.int .i64 2] (BoxS g w) (NsR 2 g):=by
 refine RawC.walk (H:=hint53v Tryz.prog) ir53v Tryz.func53 rfl rfl rfl ?_;unfold ir53v
 repeat' (first|refine aR ?_|with_reducible refine zI fun y hy=>?_|((with_reducible refine aC ?_);first|((refine ACall.liftNS clear2_c [] [(20,11),(5000,5000),(5001,5001)] rfl rfl rfl rfl trivial (fun _=>rfl) ?_;rintro⟨g11,hs⟩ _ rfl))|((refine ACall.box (upp_c _ _ 5 (by decide) (by decide)) rfl rfl rfl ?_;rintro _ _ ⟨p,rfl,hp0,hp1⟩;(obtain rfl|rfl|rfl|rfl|rfl:p=0∨p=1∨p=2∨p=3∨p=4:=by omega)))|(refine ACall.box (dull_c _ _ 2 (by decide)) rfl rfl rfl ?_;rintro _ _ ⟨dr,rfl,hd⟩)|((refine ACall.box (upp_c _ _ 2 (by decide) (by decide)) rfl rfl rfl ?_;rintro _ _ ⟨p,rfl,hp0,hp1⟩;(obtain rfl|rfl:p=0∨p=1:=by omega)))|(refine ACall.box (any_c _ _ 1 5 (by decide) (by decide) (by decide) (by decide)) rfl rfl rfl ?_;rintro _ _ ⟨q,rfl,hq1,hq2⟩))|refine aX ?_|with_reducible intro _|with_reducible refine zJ ?_ fun y hy=>?_|refine aP ?_ ?_)
 all_goals first|exact .inl ⟨_,_,no_rep hd,rfl,rfl⟩|exact .inr (.inl ⟨[[10,0],[0,10]],g11,hs,_,rfl,⟨rfl,rfl,rfl,rfl,trivial⟩,(no2 (rw2 (by omega) (by omega) (by omega)) (rw2 (by omega) (by omega) (by omega)))⟩)|exact .inr (.inl ⟨[[10-q,q],[q,10-q]],g11,hs,_,rfl,⟨rfl,rfl,rfl,rfl,trivial⟩,(no2 (rw2 (by omega) (by omega) (by omega)) (rw2 (by omega) (by omega) (by omega)))⟩)|skip
 rename_i g4 g5 w1;refine w_loopK [0,1,4,5] [] (fun x:Nat×List (List Int)×Int=>x.2.1.length=x.1∧x.1≤2∧ ∀r∈x.2.1,rwOK 2 r) (fun x=>2-x.1) (fun x=>[(9,.int .i64 (x.1:Int))]) (fun x=>[(4,(g4,.row [.nsl])),(1000,(g,.row [.int .u64 x.2.2])),(5,(g5,.row [.msl 11 g11 2 1])),(11,(g11,.row (celQ x.2.1++(cellsR 2 2 hs).drop x.1)))]) (0,[],w1) ⟨rfl,Nat.zero_le _,fun r hr=>by cases hr⟩ ⟨rfl,trivial⟩ ⟨rfl,rfl,rfl,rfl,trivial⟩ ?_;rintro⟨a,l,w1⟩ ⟨ha,hl,hr⟩ e σ;dsimp only at ha hl hr ⊢;rcases l with _ | ⟨r0,_ | ⟨r1,_ | ⟨r2,l⟩⟩⟩
 · obtain rfl:0=a:=ha
   repeat' (first|refine aR ?_|with_reducible refine zI fun y hy=>?_|((with_reducible refine aC ?_);first|(refine ACall.box (takes_c _ _ 2 (by decide)) rfl rfl rfl ?_;rintro _ _ ⟨r,rfl,h1,h2,h3⟩))|refine aX ?_|with_reducible intro _|with_reducible refine zJ ?_ fun y hy=>?_|refine aP ?_ ?_)
   exact q_loop (1,[r],_) ⟨rfl,by show 1≤2;decide,fun x hx=>by
    simp at hx;rcases hx with rfl
    · exact⟨h1,h2,h3⟩⟩   (by show 2-1<2-0;decide) ⟨rfl,trivial⟩ ⟨rfl,rfl,rfl,rfl,trivial⟩ aK aK
 · obtain rfl:1=a:=ha
   repeat' (first|refine aR ?_|with_reducible refine zI fun y hy=>?_|((with_reducible refine aC ?_);first|(refine ACall.box (takes_c _ _ 2 (by decide)) rfl rfl rfl ?_;rintro _ _ ⟨r,rfl,h1,h2,h3⟩))|refine aX ?_|with_reducible intro _|with_reducible refine zJ ?_ fun y hy=>?_|refine aP ?_ ?_)
   exact q_loop (2,[r0,r],_) ⟨rfl,by show 2≤2;decide,fun x hx=>by
    simp at hx;rcases hx with rfl|rfl
    · exact hr _ (by simp)
    · exact⟨h1,h2,h3⟩⟩   (by show 2-2<2-1;decide) ⟨rfl,trivial⟩ ⟨rfl,rfl,rfl,rfl,trivial⟩ aK aK
 · obtain rfl:2=a:=ha
   repeat' (first|refine aR ?_|with_reducible refine zI fun y hy=>?_|refine aX ?_|with_reducible intro _|with_reducible refine zJ ?_ fun y hy=>?_|refine aP ?_ ?_)
   exact .inr (.inr ⟨[r0,r1],g11,_,rfl,⟨rfl,rfl,trivial⟩,no2 (hr _ (by simp)) (hr _ (by simp))⟩)
 · exfalso;simp at ha;omega
theorem noseOf3_c(g:Nat)(w:Int):RawC Tryz.prog 53 [.ref 1000 g 0,.int .i64 3] (BoxS g w) (NsR 3 g):=by
 refine RawC.walk (H:=hint53v Tryz.prog) ir53v Tryz.func53 rfl rfl rfl ?_;unfold ir53v
 repeat' (first|refine aR ?_|with_reducible refine zI fun y hy=>?_|((with_reducible refine aC ?_);first|((refine ACall.liftNS clear3_c [] [(20,11),(5000,5000),(5001,5001),(5002,5002)] rfl rfl rfl rfl trivial (fun _=>rfl) ?_;rintro⟨g11,hs⟩ _ rfl))|((refine ACall.box (upp_c _ _ 5 (by decide) (by decide)) rfl rfl rfl ?_;rintro _ _ ⟨p,rfl,hp0,hp1⟩;(obtain rfl|rfl|rfl|rfl|rfl:p=0∨p=1∨p=2∨p=3∨p=4:=by omega)))|(refine ACall.box (dull_c _ _ 3 (by decide)) rfl rfl rfl ?_;rintro _ _ ⟨dr,rfl,hd⟩)|((refine ACall.box (upp_c _ _ 3 (by decide) (by decide)) rfl rfl rfl ?_;rintro _ _ ⟨p,rfl,hp0,hp1⟩;(obtain rfl|rfl|rfl:p=0∨p=1∨p=2:=by omega)))|(refine ACall.box (any_c _ _ 1 5 (by decide) (by decide) (by decide) (by decide)) rfl rfl rfl ?_;rintro _ _ ⟨q,rfl,hq1,hq2⟩))|refine aX ?_|with_reducible intro _|with_reducible refine zJ ?_ fun y hy=>?_|refine aP ?_ ?_)
 all_goals first|exact .inl ⟨_,_,no_rep hd,rfl,rfl⟩|exact .inr (.inl ⟨[[10,0,0],[0,10,0],[0,0,10]],g11,hs,_,rfl,⟨rfl,rfl,rfl,rfl,rfl,trivial⟩,(no3 (rw3 (by omega) (by omega) (by omega) (by omega)) (rw3 (by omega) (by omega) (by omega) (by omega)) (rw3 (by omega) (by omega) (by omega) (by omega)))⟩)|exact .inr (.inl ⟨[[10-q,q,0],[q,10-q,0],[0,0,10]],g11,hs,_,rfl,⟨rfl,rfl,rfl,rfl,rfl,trivial⟩,(no3 (rw3 (by omega) (by omega) (by omega) (by omega)) (rw3 (by omega) (by omega) (by omega) (by omega)) (rw3 (by omega) (by omega) (by omega) (by omega)))⟩)|exact .inr (.inl ⟨[[10-q,0,q],[0,10,0],[q,0,10-q]],g11,hs,_,rfl,⟨rfl,rfl,rfl,rfl,rfl,trivial⟩,(no3 (rw3 (by omega) (by omega) (by omega) (by omega)) (rw3 (by omega) (by omega) (by omega) (by omega)) (rw3 (by omega) (by omega) (by omega) (by omega)))⟩)|exact .inr (.inl ⟨[[10,0,0],[0,10-q,q],[0,q,10-q]],g11,hs,_,rfl,⟨rfl,rfl,rfl,rfl,rfl,trivial⟩,(no3 (rw3 (by omega) (by omega) (by omega) (by omega)) (rw3 (by omega) (by omega) (by omega) (by omega)) (rw3 (by omega) (by omega) (by omega) (by omega)))⟩)|skip
 rename_i g4 g5 w1;refine w_loopK [0,1,4,5] [] (fun x:Nat×List (List Int)×Int=>x.2.1.length=x.1∧x.1≤3∧ ∀r∈x.2.1,rwOK 3 r) (fun x=>3-x.1) (fun x=>[(9,.int .i64 (x.1:Int))]) (fun x=>[(4,(g4,.row [.nsl])),(1000,(g,.row [.int .u64 x.2.2])),(5,(g5,.row [.msl 11 g11 3 1])),(11,(g11,.row (celQ x.2.1++(cellsR 3 3 hs).drop x.1)))]) (0,[],w1) ⟨rfl,Nat.zero_le _,fun r hr=>by cases hr⟩ ⟨rfl,trivial⟩ ⟨rfl,rfl,rfl,rfl,trivial⟩ ?_;rintro⟨a,l,w1⟩ ⟨ha,hl,hr⟩ e σ;dsimp only at ha hl hr ⊢;rcases l with _ | ⟨r0,_ | ⟨r1,_ | ⟨r2,_ | ⟨r3,l⟩⟩⟩⟩
 · obtain rfl:0=a:=ha
   repeat' (first|refine aR ?_|with_reducible refine zI fun y hy=>?_|((with_reducible refine aC ?_);first|(refine ACall.box (takes_c _ _ 3 (by decide)) rfl rfl rfl ?_;rintro _ _ ⟨r,rfl,h1,h2,h3⟩))|refine aX ?_|with_reducible intro _|with_reducible refine zJ ?_ fun y hy=>?_|refine aP ?_ ?_)
   exact q_loop (1,[r],_) ⟨rfl,by show 1≤3;decide,fun x hx=>by
    simp at hx;rcases hx with rfl
    · exact⟨h1,h2,h3⟩⟩   (by show 3-1<3-0;decide) ⟨rfl,trivial⟩ ⟨rfl,rfl,rfl,rfl,trivial⟩ aK aK
 · obtain rfl:1=a:=ha
   repeat' (first|refine aR ?_|with_reducible refine zI fun y hy=>?_|((with_reducible refine aC ?_);first|(refine ACall.box (takes_c _ _ 3 (by decide)) rfl rfl rfl ?_;rintro _ _ ⟨r,rfl,h1,h2,h3⟩))|refine aX ?_|with_reducible intro _|with_reducible refine zJ ?_ fun y hy=>?_|refine aP ?_ ?_)
   exact q_loop (2,[r0,r],_) ⟨rfl,by show 2≤3;decide,fun x hx=>by
    simp at hx;rcases hx with rfl|rfl
    · exact hr _ (by simp)
    · exact⟨h1,h2,h3⟩⟩   (by show 3-2<3-1;decide) ⟨rfl,trivial⟩ ⟨rfl,rfl,rfl,rfl,trivial⟩ aK aK
 · obtain rfl:2=a:=ha
   repeat' (first|refine aR ?_|with_reducible refine zI fun y hy=>?_|((with_reducible refine aC ?_);first|(refine ACall.box (takes_c _ _ 3 (by decide)) rfl rfl rfl ?_;rintro _ _ ⟨r,rfl,h1,h2,h3⟩))|refine aX ?_|with_reducible intro _|with_reducible refine zJ ?_ fun y hy=>?_|refine aP ?_ ?_)
   exact q_loop (3,[r0,r1,r],_) ⟨rfl,by show 3≤3;decide,fun x hx=>by
    simp at hx;rcases hx with rfl|rfl|rfl
    · exact hr _ (by simp)
    · exact hr _ (by simp)
    · exact⟨h1,h2,h3⟩⟩  ( by show 3-3<3-2;decide) ⟨rfl,trivial⟩ ⟨rfl,rfl,rfl,rfl,trivial⟩ aK aK
 · obtain rfl:3=a:=ha
   repeat' (first|refine aR ?_|with_reducible refine zI fun y hy=>?_|refine aX ?_|with_reducible intro _|with_reducible refine zJ ?_ fun y hy=>?_|refine aP ?_ ?_)
   exact .inr (.inr ⟨[r0,r1,r2],g11,_,rfl,⟨rfl,rfl,trivial⟩,no3 (hr _ (by simp)) (hr _ (by simp)) (hr _ (by simp))⟩)
 · exfalso;simp at ha;omega
end Go.Abs
set_option linter.unusedVariables false
set_option linter.unusedSimpArgs false
set_option maxRecDepth 20000
set_option maxHeartbeats 4000000
namespace Go.Abs
open Go.Proofs
theorem RawC.frzO{P:Program}{f:Nat}{args:List AV}{σ0:Sig}{R R':AV→Sig→Prop}(h:RawC P f args σ0 R)(hR:∀av σ',R av σ'→R' av σ'∨ ∃i g c,σ' i=(g,.row c)∧c.all AV.scal=true∧(∀G w v,Inv G σ' w→Rel G av v→ ∃b lim,G.m i g=some (b,0,lim))∧R' (frzA i g c av) (frzS i g c σ')):RawC P f args σ0 R':=by
 refine⟨h.1,fun Y T G w vals hI hY hT hvals=>(h.2 Y T G w vals hI hY hT hvals).mono ?_⟩;rintro e w' ⟨v,av,σ',G',T',h1,h2,h3,h4,h5,h6,h7,h8,h9,h10⟩;rcases hR av σ' h4 with k | ⟨i,g,c,k1,k2,k3,k4⟩
 · exact⟨v,av,σ',G',T',h1,h2,h3,k,h5,h6,h7,h8,h9,h10⟩
 obtain⟨b,lim,hm⟩:=k3 _ _ _ h2 h3;obtain⟨G2,hst,hys,hrel,hfoot⟩:=frzN_step h2 hm k1 k2;refine⟨v,frzA i g c av,frzS i g c σ',G2,T',h1,hst.inv,hrel _ _ h3,k4,h5.trans hst.le,?_,fun b hb=>h7 b (hfoot b hb),?_,fun b hb=>h9 b (hfoot b hb),h10⟩
 · exact h6.trans hst.ext fun b hb hf=>(h7 b hf).elim .inl fun hn=>absurd hb (Nat.not_lt.2 hn)
 · have:YI Y T' σ' G2.K w':=by
    unfold YI at h8 ⊢
    revert h8
    cases Y with
    | none=>exact id
    | some y=> rintro⟨s,q1,q2⟩;exact⟨s,q1,y.stab _ _ _ _ _ _ q2 hst.inv.kok ⟨hst.ext.os,hst.ext.tape,hst.ext.output,hst.ext.size,fun b hb hn=>hst.ext.block b hb fun hf=>h9 b hf (Classical.not_not.1 hn),hst.ext.le,fun b hb hn=>hst.ext.Kb b hb fun hf=>h9 b hf (Classical.not_not.1 hn)⟩⟩
   exact this.same hys
theorem frzL_map(i g:Nat)(c:List AV):∀l:List AV,frzL i g c l=l.map (frzA i g c)
 | []=>rfl
 | a::l=>by rw[frzL,frzL_map i g c l];rfl
theorem frzS_kt{i g j x:Nat}{c d d':List AV}{σ:Sig}(h:σ j=(x,.row d))(hj:j≠i)(hd:frzL i g c d=d'):frzS i g c σ j=(x,.row d'):=by subst hd;unfold frzS;rw[if_neg hj,h];rfl
theorem frzL_ints(i g:Nat)(c:List AV)(l:List Int):frzL i g c (l.map (AV.int .i64))=l.map (AV.int .i64):=by rw[frzL_map,List.map_map];rfl
def NsK(W g k:Nat):AV→Sig→Prop:=fun av σ'=>
 (∃N w',NoOK W N∧av=noA N∧σ' 1000=(g,.row [.int .u64 w']))∨
 (∃N g11 hs w',NoOK W N∧av=nsW W g11∧σ' 1000=(g,.row [.int .u64 w'])∧σ' 11=(g11,.row (celQ (N.take k)++(cellsR W W hs).drop k))∧ ∀j,k≤j→j<W→σ' (5000+j)=(hs j,.row ((N.getD j []).map (AV.int .i64))))∨
 (∃N g11 w',NoOK W N∧av=nsW W g11∧σ' 1000=(g,.row [.int .u64 w'])∧σ' 11=(g11,.row (celQ N)))
theorem nsK_0{W g:Nat}{av:AV}{σ:Sig}(h:NsR W g av σ):NsK W g 0 av σ:=by
 rcases h with h | ⟨N,g11,hs,w',h1,⟨h2,h3,h4⟩,h5⟩ | ⟨N,g11,w',h1,⟨h2,h3,_⟩,h4⟩
 · exact .inl h
 · refine .inr (.inl ⟨N,g11,hs,w',h5,h1,h2,h3,fun j _ hj=>?_⟩);exact slots_iff.1 h4 (5000+j,_) (List.mem_map.2 ⟨j,by simpa using hj,rfl⟩)
 · exact .inr (.inr ⟨N,g11,w',h4,h1,h2,h3⟩)
theorem celQ_scal(N:List (List Int)):(celQ N).all AV.scal=true:=by unfold celQ;rw[List.all_map];exact List.all_eq_true.2 fun _ _=>rfl
theorem cells_scal(W n:Nat)(hs:Nat→Nat):(cellsR W n hs).all AV.scal=true:=by unfold cellsR;rw[List.all_map];exact List.all_eq_true.2 fun _ _=>rfl
theorem celQ_frz(i g:Nat)(c:List AV)(N:List (List Int)):frzL i g c (celQ N)=celQ N:=by rw[frzL_map];unfold celQ;rw[List.map_map];rfl
theorem ints_scal(l:List Int):(l.map (AV.int .i64)).all AV.scal=true:=by rw[List.all_map];exact List.all_eq_true.2 fun _ _=>rfl
theorem cells_split{W k:Nat}{hs:Nat→Nat}(hk:k<W):(cellsR W W hs).drop k= .msl (5000+k) (hs k) W 1::(cellsR W W hs).drop (k+1):=by
 rw[List.drop_eq_getElem_cons (by rw[cellsR_len];exact hk)]
 congr 1
 have:=cellsR_get (n:=W) hs hk;rw[List.getElem?_eq_getElem (by rw[cellsR_len];exact hk)] at this;exact Option.some.inj this
theorem cells_keep{W k:Nat}{hs:Nat→Nat}{c:List AV}:frzL (5000+k) (hs k) c ((cellsR W W hs).drop (k+1))=(cellsR W W hs).drop (k+1):=by
 rw[frzL_map,cellsR,←List.map_drop,List.map_map];refine List.map_congr_left fun j hj=>?_;have hj':k+1≤j:=by rw[List.range_eq_range'] at hj;rw[List.drop_range'] at hj;have:=(List.mem_range'_1.1 hj).1;omega
 show frzA _ _ _ (cellR W hs j)=cellR W hs j
 unfold cellR;simp only[frzA];rw[if_neg (by omega)]
theorem take_snoc{N:List (List Int)}{k:Nat}(h:k<N.length):celQ (N.take (k+1))=celQ (N.take k)++[.slc 1 (iR (N.getD k [])) .non]:=by
 rw[List.take_succ_eq_append_getElem h,celQ,List.map_append]
 congr 1
 rw[List.getD_eq_getElem?_getD,List.getElem?_eq_getElem h];rfl
theorem nsK_step{P:Program}{f:Nat}{args:List AV}{σ0:Sig}{W g k:Nat}(hk:k<W)(h:RawC P f args σ0 (NsK W g k)):RawC P f args σ0 (NsK W g (k+1)):=by
 refine h.frzO fun av σ' hR=>?_;rcases hR with h | ⟨N,g11,hs,w',h1,rfl,h3,h4,h5⟩ | h
 · exact .inl (.inl h)
 · have hN:k<N.length:=by rw[h1.l];exact hk
   have hrow:(N.getD k []).length=W:=(h1.r _ (getD_mem hN)).1;have hc:=h5 k (Nat.le_refl _) hk;rw[cells_split hk] at h4;refine .inr ⟨5000+k,hs k,_,hc,ints_scal _,fun G w v hI hv=>?_,.inr (.inl ⟨N,g11,hs,w',h1,?_,?_,?_,fun j hj1 hj2=>?_⟩)⟩
   · refine row_m (k:=(celQ (N.take k)).length) (n:=W) (sz:=1) hI h4 ?_ ?_
     · rw[List.getElem?_append_right (Nat.le_refl _),Nat.sub_self];rfl
     · rw[List.all_append,celQ_scal,List.all_cons];show (true && (true && _))=true
       rw[Bool.true_and,Bool.true_and];exact List.all_eq_true.2 fun x hx=>List.all_eq_true.1 (cells_scal W W hs) x (List.mem_of_mem_drop hx)
   · show AV.agg _=_
     simp only[frzL,frzA];rw[if_neg (by omega)]
   · exact frzS_kt h3 (by omega) rfl
   · refine frzS_kt h4 (by omega) ?_;rw[frzL_map,List.map_append,←frzL_map,celQ_frz,List.map_cons,←frzL_map,cells_keep,take_snoc hN,List.append_assoc]
     congr 1
     show _::_=_::_
     congr 1
     simp only[frzA];rw[if_pos ⟨trivial,trivial,by rw[List.length_map,hrow];omega⟩]
     congr 1
     have:=chunk1 (N.getD k []);rw[hrow] at this;exact this
   · exact frzS_kt (h5 j (by omega) hj2) (by omega) (frzL_ints _ _ _ _)
 · exact .inl (.inr (.inr h))
theorem nsK_end{P:Program}{f:Nat}{args:List AV}{σ0:Sig}{W g:Nat}(h:RawC P f args σ0 (NsK W g W)):RawC P f args σ0 (BoxR g fun av=>∃N,NoOK W N∧av=noA N):=by
 have key:∀{N:List (List Int)} {g11:Nat} {w':Int} {σ':Sig},NoOK W N→σ' 1000=(g,.row [.int .u64 w'])→σ' 11=(g11,.row (celQ N))→BoxR g (fun av=>∃N,NoOK W N∧av=noA N) (nsW W g11) σ'∨ ∃i g' c,σ' i=(g',.row c)∧c.all AV.scal=true∧(∀G w v,Inv G σ' w→Rel G (nsW W g11) v→ ∃b lim,G.m i g'=some (b,0,lim))∧BoxR g (fun av=>∃N,NoOK W N∧av=noA N) (frzA i g' c (nsW W g11)) (frzS i g' c σ'):=by
  intro N g11 w' σ' hN h1 h2;refine .inr ⟨11,g11,_,h2,celQ_scal N,fun G w v hI hv=>agg_m hv,w',⟨N,hN,?_⟩,frzS_kt h1 (by decide) rfl⟩;show AV.agg _=AV.agg _
  simp only[frzL,frzA];rw[if_pos ⟨trivial,trivial,by unfold celQ;rw[List.length_map,hN.l];omega⟩];have:=chunkLi N;rw[hN.l] at this;exact congrArg (fun z=>AV.agg [AV.slc 1 z .non]) this
 refine h.frzO fun av σ' hR=>?_;rcases hR with⟨N,w',h1,h2,h3⟩ | ⟨N,g11,hs,w',h1,rfl,h3,h4,h5⟩ | ⟨N,g11,w',h1,rfl,h3,h4⟩
 · exact .inl ⟨w',⟨N,h1,h2⟩,h3⟩
 · refine key h1 h3 ?_;rw[h4,List.take_of_length_le (Nat.le_of_eq h1.l),List.drop_of_length_le (Nat.le_of_eq (cellsR_len ..))];rw[List.append_nil]
 · exact key h1 h3 h4
theorem noseOf_c(g:Nat)(w:Int)(W:Nat)(hW:1≤W∧W≤3):RawC Tryz.prog 53 [.ref 1000 g 0,.int .i64 (W:Nat)] (BoxS g w) (BoxR g fun av=>∃N,NoOK W N∧av=noA N):=by
 have h0:RawC Tryz.prog 53 [.ref 1000 g 0,.int .i64 (W:Nat)] (BoxS g w) (NsK W g 0):=by
  obtain rfl|rfl|rfl:W=1∨W=2∨W=3:=by omega
  · exact (noseOf1_c g w).mono fun _ _=>nsK_0
  · exact (noseOf2_c g w).mono fun _ _=>nsK_0
  · exact (noseOf3_c g w).mono fun _ _=>nsK_0
 have hk:∀k,k≤W→RawC Tryz.prog 53 [.ref 1000 g 0,.int .i64 (W:Nat)] (BoxS g w) (NsK W g k):=by
  intro k;induction k with
  | zero=>exact fun _=>h0
  | succ k ih=>exact fun hk=>nsK_step (by omega) (ih (by omega))
 exact nsK_end (hk W (Nat.le_refl _))
end Go.Abs
set_option linter.unusedVariables false
set_option linter.unusedSimpArgs false
set_option maxRecDepth 20000
set_option maxHeartbeats 4000000
namespace Go.Abs
open Go.Proofs
def ir70:IFn:= ⟨115,[(10,some (5,true))],(sO [oo 6 (.box 2 1),oo 10 (.new [.nsl,.nsl,.nsl,.nsl,.nsl])] (sO [oo 17 (.ld 2 true 6),oC 18 71 [17],oo 19 (.bld [.nsl,.nsl,.nsl,.nsl,.nsl] [(0,2,18)]),oo 11 (.new [.nsl,.nsl,.nsl,.nsl,.nsl]),oS 5 11 19] (.seq (sO [oM 20 0,oC 21 37 [20,(kI 1),(kI 2)],oM 12 21] (.blk 0 (.loop (.seq (sO [oM 22 12,oB 23 .gtr 22 (kI 0)] (.cnd 23 .skip (.exit 0))) (.seq (.blk 1 (.ops [oF 26 2 11,oL 27 26,oM 28 0,oF 29 0 6,oL 30 29,oN 31 30,oC 32 53 [28,31],oK 26 27,oo 33 (.bsl 1 [[.nsl]] [(0,32)]),oo 34 (.app 1 24 27 33 34),oF 35 2 11,oS 1 35 34])) (.ops [oM 24 12,oB 25 .sub 24 (kI 1),oM 12 25])))))) (sO [oM 36 0,oM 37 2,oN 38 37,oF 39 2 11,oL 40 39,oN 41 40,oB 42 .mul 38 41,oC 43 18 [36,42],oM 13 43] (.seq (sO [oM 14 (kI 0)] (.blk 2 (.loop (.seq (sO [oM 44 14,oM 45 13,oN 46 45,oB 47 .lss 44 46,oM 48 47,⟨(some 49),(some (48,true)),(.mov 14)⟩,⟨(some 50),(some (48,true)),(.mov 3)⟩,⟨(some 51),(some (48,true)),(.bin .lss 49 50)⟩,oo 52 (.pick 48 51 (kB false))] (.cnd 52 .skip (.exit 2))) (.seq (.blk 3 (sO [⟨none,none,(.kil 15)⟩,oM 55 13,oM 56 14,oA 57 1 55 56,oL 58 57,oF 59 2 11,oL 60 59,oN 61 60,oB 62 .rem 58 61,oM 63 13,oM 64 14,oA 65 1 63 64,oL 66 65,oF 67 2 11,oL 68 67,oN 69 68,oB 70 .quo 66 69,oo 71 (.bld [z0,z0,z0] [(0,1,62),(1,1,70)]),oo 15 (.new [z0,z0,z0]),oS 3 15 71] (sO [oM 72 0,oF 73 2 11,oL 74 73,oF 75 0 15,oL 76 75,oA 77 1 74 76,oo 78 (.ld 1 true 77),oM 79 2,oF 80 1 15,oL 81 80,oA 82 1 79 81,oL 83 82,oC 84 24 [72,78,83],oF 85 2 15,oS 1 85 84] (sO [oM 86 0,oC 87 36 [86,(kI 3)],oo 88 (.not 87)] (.cnd 88 (.ops [oF 89 3 11,oL 90 89,oo 91 (.ld 3 true 15),oo 92 (.bsl 3 [[z0,z0,z0]] [(0,91)]),oo 93 (.app 3 24 90 92 93),oF 94 3 11,oS 1 94 93]) .skip))))) (.ops [oM 53 14,oB 54 .add 53 (kI 1),oM 14 54])))))) (.seq (sO [oM 95 0,oM 96 4,oB 97 .add 96 (kI 1),oC 98 38 [95,97],oM 16 98] (.blk 4 (.loop (.seq (sO [oM 99 16,oB 100 .gtr 99 (kI 0)] (.cnd 100 .skip (.exit 4))) (.seq (.blk 5 (.ops [oF 103 4 11,oL 104 103,oM 105 0,oM 106 2,oF 107 0 6,oL 108 107,oN 109 108,oC 110 59 [105,106,109],oK 103 104,oo 111 (.bsl 3 [[z0,z0,z0]] [(0,110)]),oo 112 (.app 3 24 104 111 112),oF 113 4 11,oS 1 113 112])) (.ops [oM 101 16,oB 102 .sub 101 (kI 1),oM 16 102])))))) (sO [oo 114 (.ld 5 true 11),oS 5 10 114] .ret)))))))⟩
def ndV(l:List (List (List Int)))(g:Nat):AV:=match l with
 | []=> .nsl
 | _::_=> .slc 1 (noR l) (.own 34 g)
def ndX(l:List (List (List Int)))(g:Nat):Nat×Res:=match l with
 | []=>(0,.dead)
 | _::_=>(g,.row [])
def sdV(l:List Sm)(g:Nat):AV:=match l with
 | []=> .nsl
 | _::_=> .slc 3 (smR l) (.own 93 g)
def sdX(l:List Sm)(g:Nat):Nat×Res:=match l with
 | []=>(0,.dead)
 | _::_=>(g,.row [])
def fdV(l:List Fa)(g:Nat):AV:=match l with
 | []=> .nsl
 | _::_=> .slc 3 (faR l) (.own 112 g)
def fdX(l:List Fa)(g:Nat):Nat×Res:=match l with
 | []=>(0,.dead)
 | _::_=>(g,.row [])
theorem sdV_snoc(x:Sm)(l:List Sm)(S:Sm)(g:Nat):sdV (x::l++[S]) g= .slc 3 (smR (x::l)++[[.int .i64 S.nose,.int .i64 S.cen,.int .i64 S.wood]]) (.own 93 g):=by
 show AV.slc 3 (smR (x::l++[S])) _=_
 rw[show smR (x::l++[S])=smR (x::l)++smR [S] from List.map_append ..];rfl
theorem fdV_snoc(x:Fa)(l:List Fa)(S:Fa)(g:Nat):fdV (x::l++[S]) g= .slc 3 (faR (x::l)++[[.int .i64 S.kind,.int .i64 S.a,.int .i64 S.b]]) (.own 112 g):=by
 show AV.slc 3 (faR (x::l++[S])) _=_
 rw[show faR (x::l++[S])=faR (x::l)++faR [S] from List.map_append ..];rfl
theorem ndV_snoc(x:List (List Int))(l:List (List (List Int)))(S:List (List Int))(g:Nat):ndV (x::l++[S]) g= .slc 1 (noR (x::l)++[[.slc 1 (llR S) .non]]) (.own 34 g):=by
 show AV.slc 1 (noR (x::l++[S])) _=_
 rw[show noR (x::l++[S])=noR (x::l)++noR [S] from List.map_append ..];rfl
theorem smsErr_snoc{N C W:Nat}{s:Sm}:∀{l p:List Sm},smsErr N C W p l=0→smB N C W s=true→(p++l).any (smD s)=false→smsErr N C W p (l++[s])=0
 | [],p,_,h2,h3=>by
   rw[List.append_nil] at h3;show (if smB N C W s=true then (if p.any (smD s)=true then 9 else smsErr N C W (p++[s]) []) else 7)=(0:Int)
   rw[if_pos h2,if_neg (by rw[h3];decide)];rfl
 | x::l,p,h1,h2,h3=>by
   rw[smsErr] at h1;split at h1
   · rename_i hb;split at h1
     · exact absurd h1 (by decide)
     · rename_i ha;rw[List.cons_append,smsErr,if_pos hb,if_neg ha];exact smsErr_snoc h1 h2 (by rw[List.append_assoc];exact h3)
   · exact absurd h1 (by decide)
theorem fasErr_snoc{C W:Nat}{f:Fa}:∀{l:List Fa},fasErr C W l=0→faErr C W f=0→fasErr C W (l++[f])=0
 | [],_,h=>by
   show (if faErr C W f=0 then fasErr C W [] else faErr C W f)=0
   rw[if_pos h];rfl
 | x::l,h1,h=>by
   rw[fasErr] at h1;split at h1
   · rename_i h0;rw[List.cons_append,fasErr,if_pos h0];exact fasErr_snoc h1 h
   · rename_i h0;exact absurd h1 h0
theorem rowErr_of{W:Nat}{r:List Int}(h:rwOK W r):rowErr W r=0:=by
 unfold rowErr;rw[if_pos h.1,if_neg (fun ha=>by
  obtain⟨k,hk,h2⟩:=List.any_eq_true.1 ha;rw[inB_t.2 (h.2.1 k hk)] at h2;cases h2),if_pos h.2.2]
theorem nsErr_of{W:Nat}:∀{n:List (List Int)},(∀r∈n,rwOK W r)→nsErr W n=0
 | [],_=>rfl
 | r::t,h=>by rw[nsErr,if_pos (rowErr_of (h r (by simp)))];exact nsErr_of fun x hx=>h x (by simp[hx])
theorem noErr_of{W:Nat}{n:List (List Int)}(h:NoOK W n):noErr W n=0:=by unfold noErr;rw[if_pos h.l];exact nsErr_of h.r
theorem nosErr_of{W:Nat}:∀{l:List (List (List Int))},(∀n∈l,NoOK W n)→nosErr W l=0
 | [],_=>rfl
 | n::t,h=>by rw[nosErr,if_pos (noErr_of (h n (by simp)))];exact nosErr_of fun x hx=>h x (by simp[hx])
structure MdMade (M:Md) (c:List Int) (s f:Nat):Prop where
 n1:1≤M.no.length
 n2:M.no.length≤2
 no:∀n∈M.no,NoOK M.g.ws.length n
 sl:M.sm.length≤s
 sm:smsErr M.no.length c.length M.g.ws.length [] M.sm=0
 tk:∀x∈M.sm,0<tkF M.no c x
 fl:M.fa.length≤f
 fa:fasErr c.length M.g.ws.length M.fa=0
 ag:M.fa.all (agF c)=true
def mdZ(M:Md):AV:= .agg [.slc 2 (wR M.g.ws) .non,.slc 5 (dlR M.g.ds) .non,.slc 1 (noR M.no) .non,(match M.sm with | []=> .nsl | _::_=> .slc 3 (smR M.sm) .non),(match M.fa with | []=> .nsl | _::_=> .slc 3 (faR M.fa) .non)]
theorem mdZ_sub(M:Md):Sub (mdZ M) (mdA M):=by
 refine Sub.aggM ⟨Sub.refl _,Sub.refl _,Sub.refl _,?_,?_,trivial⟩
 · cases hm:M.sm with
   | nil=>exact Sub.nil
   | cons x l=>exact Sub.refl _
 · cases hm:M.fa with
   | nil=>exact Sub.nil
   | cons x l=>exact Sub.refl _
theorem mindZ_c(g:Nat)(w:Int)(G:Gm)(c:List Int)(s f:Nat)(hW:1≤G.ws.length∧G.ws.length≤3)(hd:G.ds.length≤1000)(h1:1≤c.length)(h9:c.length≤9)(hc:∀x∈c,0≤x∧x<(G.ws.length:Int))(hs:s≤8)(hf:f≤8):
  RawC Tryz.prog 70 [.ref 1000 g 0,gmA G,.slc 1 (iR c) .non,.int .i64 (s:Nat),.int .i64 (f:Nat)] (BoxS g w) (BoxR g fun av=>∃M,av=mdZ M∧M.g=G∧MdMade M c s f):=by
 have hOw:=ownGame_c G (by omega) (by omega);have hwR:(wR G.ws).length=G.ws.length:=List.length_map _;have hcl:(iR c).length=c.length:=List.length_map _;refine wk ir70 Tryz.func70 ?_;unfold ir70
 repeat' (first|refine aR ?_|with_reducible refine zI fun y hy=>?_|((with_reducible refine aC ?_);first|refine aV hOw ?_|(refine ACall.box (any_c _ _ 1 2 (by decide) (by decide) (by decide) (by decide)) rfl rfl rfl ?_;rintro _ _ ⟨K,rfl,hK1,hK2⟩))|refine aX ?_|with_reducible intro _|with_reducible refine zJ ?_ fun y hy=>?_|refine aP ?_ ?_)
 all_goals try (exfalso;omega)
 rename_i g6 g10 g11 w1;refine w_loopK [0,2,3,4,6,10,11,49,50,51] [6,10,93,112] (fun x:Nat×List (List (List Int))×Nat×Int=>x.2.1.length=x.1∧(x.1:Int)≤K∧ ∀n∈x.2.1,NoOK G.ws.length n) (fun x=>(K-x.1).toNat) (fun x=>[(12,.int .i64 (K-x.1))]) (fun x=>[(11,(g11,.row [.slc 2 (wR G.ws) .non,.slc 5 (dlR G.ds) .non,ndV x.2.1 x.2.2.1,.nsl,.nsl])),(34,ndX x.2.1 x.2.2.1),(1000,(g,.row [.int .u64 x.2.2.2]))]) (0,[],0,w1) ⟨rfl,by show (0:Int)≤K;omega,fun n hn=>by cases hn⟩ ⟨int_eq (by simp),trivial⟩ ⟨rfl,rfl,rfl,trivial⟩ ?_;rintro⟨a,l,g34,w1⟩ ⟨hla,hl,hn⟩ e σ;dsimp only at hla hl hn ⊢;have hlR:(noR l).length=a:=(List.length_map _).trans hla;by_cases hgo:(a:Int)<K
 · cases l with
   | nil=>
     obtain rfl:0=a:=hla
     repeat' (first|refine aR ?_|with_reducible refine zI fun y hy=>?_|((with_reducible refine aC ?_);first|(refine ACall.box (noseOf_c _ _ G.ws.length hW) rfl rfl rfl ?_;rintro _ _ ⟨N,hN,rfl⟩))|refine aX ?_|with_reducible intro _|with_reducible refine zJ ?_ fun y hy=>?_|refine aP ?_ ?_)
     all_goals try (exfalso;omega)
     all_goals
      rename_i g34;exact q_loop (1,[N],g34,_) ⟨rfl,by show ((1:Nat):Int)≤K;omega,fun n hn=>by simp at hn;subst hn;exact hN⟩ (by show (K-((1:Nat):Int)).toNat<(K-((0:Nat):Int)).toNat;omega) ⟨int_eq (by simp),trivial⟩ ⟨rfl,rfl,rfl,trivial⟩ aK aK
   | cons y l=>
     repeat' (first|refine aR ?_|with_reducible refine zI fun y hy=>?_|((with_reducible refine aC ?_);first|(refine ACall.box (noseOf_c _ _ G.ws.length hW) rfl rfl rfl ?_;rintro _ _ ⟨N,hN,rfl⟩))|refine aX ?_|with_reducible intro _|with_reducible refine zJ ?_ fun y hy=>?_|refine aP ?_ ?_)
     all_goals try (exfalso;omega)
     all_goals
      rename_i g35;exact q_loop (a+1,y::l++[N],g35,_) ⟨by rw[len_snoc,hla],by show ((a+1:Nat):Int)≤K;omega,fun n hx=>(List.mem_append.1 hx).elim (hn n) fun hx=>by simp at hx;subst hx;exact hN⟩ (by show (K-((a+1:Nat):Int)).toNat<(K-(a:Int)).toNat;omega) ⟨int_eq (by omega),trivial⟩ ⟨by first|rfl|(dsimp only;rw[ndV_snoc];rfl),rfl,rfl,trivial⟩ aK aK
 have hKl:(a:Int)=K:=by omega
 cases l with
 | nil=>exfalso;obtain rfl:0=a:=hla;omega
 | cons y l=>
 have hml:c.length*a≤1000:=Nat.le_trans (Nat.mul_le_mul h9 (show a≤2 by omega)) (by decide);have hm1:1≤c.length*a:=Nat.mul_pos h1 (by omega);have hO:=fun w=>order_c g w (c.length*(y::l).length) (by rw[hla];exact⟨hm1,hml⟩);have hMul:inI ((c.length:Int)*((y::l).length:Int)):=by
  have e:(c.length:Int)*((y::l).length:Int)=((c.length*a:Nat):Int):=by rw[hla,Int.natCast_mul]
  rw[e];unfold inI;omega
 repeat' (first|refine aR ?_|with_reducible refine zI fun y hy=>?_|refine aL ?_|((with_reducible apply w_ixM);(focus exact rfl);(focus exact rfl);(focus ((repeat' (with_reducible (first|exact trivial | apply And.intro)))<;>(first|exact hMul|exact sd)));case' hk=>intro y hy)|((with_reducible apply w_slM);(focus exact rfl);(focus exact rfl);(focus exact rfl);(focus ((repeat' (with_reducible (first|exact trivial | apply And.intro)))<;>(first|exact hMul|exact sd))))|((with_reducible apply w_val);(focus exact rfl);(focus ((repeat' (with_reducible (first|exact trivial | apply And.intro)))<;>(first|exact hMul|exact sd))))|((with_reducible apply w_det);(focus exact fun _=>rfl);(focus ((repeat' (with_reducible (first|exact trivial | apply And.intro)))<;>(first|exact hMul|exact sd)));case' hk=>intro _)|((with_reducible apply w_det0);(focus exact fun _=>rfl);(focus ((repeat' (with_reducible (first|exact trivial | apply And.intro)))<;>(first|exact hMul|exact sd))))|((with_reducible apply q_ends);(focus exact rfl);(focus ((repeat' (with_reducible (first|exact trivial | apply And.intro)))<;>(first|exact hMul|exact sd))))|((with_reducible refine aC ?_);first|(refine ACall.box (hO _) rfl rfl rfl ?_;rintro _ _ ⟨o,rfl,ho⟩))|refine aX ?_|with_reducible intro _|with_reducible refine zJ ?_ fun y hy=>?_|refine aP ?_ ?_)
 all_goals try (exfalso;omega)
 rename_i w1;have hol:(iR o).length=c.length*a:=by rw[List.length_map,ho.len,hla]
 have hob:=ho.bd;have hol2:o.length=c.length*a:=by rw[ho.len,hla]
 rw[hla] at hob;refine w_loopK [0,2,3,4,6,10,11,13] [6,10,34,112] (fun x:List Int×List Int×List Sm×Nat×Int=>o=x.1++x.2.1∧x.1.length≤s∧x.2.2.1.length≤x.1.length∧smsErr a c.length G.ws.length [] x.2.2.1=0∧(∀z∈x.2.2.1,0<tkF (y::l) c z)∧(∀z∈x.2.2.1,∃k∈x.1,z.nose=k%a∧z.cen=k/a)) (fun x=>x.2.1.length) (fun x=>[(14,.int .i64 (x.1.length:Int))]) (fun x=>[(11,(g11,.row [.slc 2 (wR G.ws) .non,.slc 5 (dlR G.ds) .non,.slc 1 (noR (y::l)) (.own 34 g34),sdV x.2.2.1 x.2.2.2.1,.nsl])),(93,sdX x.2.2.1 x.2.2.2.1),(1000,(g,.row [.int .u64 x.2.2.2.2]))]) ([],o,[],0,w1) ⟨rfl,Nat.zero_le _,Nat.le_refl _,rfl,(fun z hz=>by cases hz),(fun z hz=>by cases hz)⟩ ⟨rfl,trivial⟩ ⟨rfl,rfl,rfl,trivial⟩ ?_;rintro⟨pre,post,sms,g93,w1⟩ ⟨ho1,hps,hsp,hse,htk,hfr⟩ e σ;dsimp only at ho1 hps hsp hse htk hfr ⊢;have hlen:=congrArg List.length ho1;rw[List.length_append,ho.len,hla] at hlen;by_cases hgo:pre.length<c.length*a∧pre.length<s
 · obtain⟨hgo1,hgo2⟩:=hgo;cases post with
   | nil=>exfalso;simp only[List.length_nil] at hlen;omega
   | cons z post=>
     have hzb:=hob z (by rw[ho1];simp);have ha1:(0:Int)<a:=by omega
     have e1:z.tmod (y::l).length=z%a:=by rw[hla];exact Int.tmod_eq_emod_of_nonneg hzb.1
     have e2:z.tdiv (y::l).length=z/a:=by rw[hla];exact Int.tdiv_eq_ediv_of_nonneg hzb.1
     have q1:0≤z%a:=Int.emod_nonneg _ (by omega);have q2:z%a<a:=Int.emod_lt_of_pos _ ha1;have d1:0≤z/a:=Int.ediv_nonneg hzb.1 (by omega);have d2:z/a<c.length:=Int.ediv_lt_of_lt_mul ha1 (by have:=hzb.2;rw[Int.natCast_mul] at this;exact this);have hzz:a*(z/a)+z%a=z:=Int.mul_ediv_add_emod z a;obtain⟨nA,nB⟩:=at_split (l:=y::l) (i:=(z%a).toNat) (d:=[]) (by rw[hla];omega);obtain⟨cA,cB⟩:=at_split (l:=c) (i:=(z/a).toNat) (d:=0) (by omega);have nI:AV.int .i64 (z.tmod (y::l).length)= .int .i64 (((y::l).take (z%a).toNat).length:Int):=int_eq (by rw[e1,nB];omega);have cI:AV.int .i64 (z.tdiv (y::l).length)= .int .i64 ((c.take (z/a).toNat).length:Int):=int_eq (by rw[e2,cB];omega);have hNm:NoOK G.ws.length ((y::l).getD (z%a).toNat []):=hn _ (getD_mem (by rw[hla];omega));have hwd:=hc _ (getD_mem (l:=c) (i:=(z/a).toNat) (d:=0) (by omega));have hzp:z∉pre:=by have h:=ho.nd;rw[ho1] at h;exact fun hm=>(List.nodup_append.1 h).2.2 z hm z (by simp) rfl
     have hX:∀sv:Int,(0≤sv∧sv<(G.ws.length:Int))→smB a c.length G.ws.length ⟨z.tmod (y::l).length,z.tdiv (y::l).length,sv⟩=true:=fun sv h=>by unfold smB;rw[Bool.and_eq_true,Bool.and_eq_true];exact⟨⟨inB_t.2 (by dsimp only;rw[e1];omega),inB_t.2 (by dsimp only;rw[e2];omega)⟩,inB_t.2 (by dsimp only;omega)⟩
     have hF:∀sv:Int,([]++sms).any (smD ⟨z.tmod (y::l).length,z.tdiv (y::l).length,sv⟩)=false:=fun sv=>by rw[List.nil_append];refine List.any_eq_false.2 fun x hx hd=>?_;obtain⟨k,hk,k1,k2⟩:=hfr x hx;unfold smD at hd;rw[Bool.and_eq_true] at hd;have h1:=of_decide_eq_true hd.1;have h2:=of_decide_eq_true hd.2;dsimp only at h1 h2;rw[k1,e1] at h1;rw[k2,e2] at h2;have h3:=Int.mul_ediv_add_emod k a;rw[h1,h2,hzz] at h3;exact hzp (h3▸hk)
     have hc1:o=(pre++[z])++post:=by rw[ho1];simp
     have hc2:∀x∈sms,∃k∈pre++[z],x.nose=k%a∧x.cen=k/a:=fun x hx=>by obtain⟨k,hk,h⟩:=hfr x hx;exact⟨k,by simp[hk],h⟩
     have hc3:∀sv:Int,0<(((y::l).getD (z%a).toNat []).getD (c.getD (z/a).toNat 0).toNat []).getD sv.toNat 0→ ∀x∈sms++[⟨z.tmod (y::l).length,z.tdiv (y::l).length,sv⟩],0<tkF (y::l) c x:=fun sv h x hx=>by
      rcases List.mem_append.1 hx with hx | hx
      · exact htk x hx
      · rw[List.mem_singleton] at hx;subst hx;unfold tkF;dsimp only;rw[e1,e2];exact h
     have hc4:∀sv:Int,∀x∈sms++[⟨z.tmod (y::l).length,z.tdiv (y::l).length,sv⟩],∃k∈pre++[z],x.nose=k%a∧x.cen=k/a:=fun sv x hx=>by
      rcases List.mem_append.1 hx with hx | hx
      · exact hc2 x hx
      · rw[List.mem_singleton] at hx;subst hx;exact⟨z,by simp,e1,e2⟩
     cases sms with
     | nil=>
       repeat' (first|refine aR ?_|(first|refine w_ixP (f:=fun n:List (List Int)=>[AV.slc 1 (llR n) .non]) nA rfl nI ?_|refine w_ixP cA rfl cI ?_|refine w_ixP ho1 rfl rfl ?_)|with_reducible refine zI fun y hy=>?_|((with_reducible refine aC ?_);first|(refine ACall.box (smells_c _ _ _ _ hNm (by omega) hwd) rfl rfl rfl ?_;rintro _ _ ⟨sv,rfl,hs0,hs1,hs2⟩)|(refine ACall.box (one_c _ _ 3 (by decide)) rfl rfl rfl ?_;rintro _ _ ⟨b,rfl⟩))|refine aX ?_|with_reducible intro _|with_reducible refine zJ ?_ fun y hy=>?_|refine aP ?_ ?_)
       all_goals try (exfalso;omega)
       all_goals first
        | exact q_loop (pre++[z],post,[],g93,_) ⟨hc1,by show (pre++[z]).length≤s;rw[len_snoc];omega,by dsimp only;rw[len_snoc];first|exact Nat.zero_le _ | omega,hse,htk,hc2⟩ (Nat.lt_succ_self _) ⟨by rw[len_snoc];rfl,trivial⟩ ⟨rfl,rfl,rfl,trivial⟩ aK aK
        | (rename_i gn
           exact q_loop (pre++[z],post,[]++[⟨z.tmod (y::l).length,z.tdiv (y::l).length,sv⟩],gn,_) ⟨hc1,by show (pre++[z]).length≤s;rw[len_snoc];omega,by dsimp only;rw[len_snoc,len_snoc];omega,smsErr_snoc hse (hX sv ⟨hs0,hs1⟩) (hF sv),hc3 sv hs2,hc4 sv⟩ (Nat.lt_succ_self _) ⟨by rw[len_snoc];rfl,trivial⟩ ⟨rfl,rfl,rfl,trivial⟩ aK aK)
     | cons x sms=>
       have hsR:(smR (x::sms)).length=(x::sms).length:=List.length_map _
       repeat' (first|refine aR ?_|(first|refine w_ixP (f:=fun n:List (List Int)=>[AV.slc 1 (llR n) .non]) nA rfl nI ?_|refine w_ixP cA rfl cI ?_|refine w_ixP ho1 rfl rfl ?_)|with_reducible refine zI fun y hy=>?_|((with_reducible refine aC ?_);first|(refine ACall.box (smells_c _ _ _ _ hNm (by omega) hwd) rfl rfl rfl ?_;rintro _ _ ⟨sv,rfl,hs0,hs1,hs2⟩)|(refine ACall.box (one_c _ _ 3 (by decide)) rfl rfl rfl ?_;rintro _ _ ⟨b,rfl⟩))|refine aX ?_|with_reducible intro _|with_reducible refine zJ ?_ fun y hy=>?_|refine aP ?_ ?_)
       all_goals try (exfalso;omega)
       all_goals first
        | exact q_loop (pre++[z],post,(x::sms),g93,_) ⟨hc1,by show (pre++[z]).length≤s;rw[len_snoc];omega,by dsimp only;rw[len_snoc];first|exact Nat.zero_le _ | omega,hse,htk,hc2⟩ (Nat.lt_succ_self _) ⟨by rw[len_snoc];rfl,trivial⟩ ⟨rfl,rfl,rfl,trivial⟩ aK aK
        | (rename_i gn
           exact q_loop (pre++[z],post,(x::sms)++[⟨z.tmod (y::l).length,z.tdiv (y::l).length,sv⟩],gn,_) ⟨hc1,by show (pre++[z]).length≤s;rw[len_snoc];omega,by dsimp only;rw[len_snoc,len_snoc];omega,smsErr_snoc hse (hX sv ⟨hs0,hs1⟩) (hF sv),hc3 sv hs2,hc4 sv⟩ (Nat.lt_succ_self _) ⟨by rw[len_snoc];rfl,trivial⟩ ⟨rfl,rfl,rfl,trivial⟩ aK aK)
        | (rename_i w5 hb5 gn
           refine q_loop (pre++[z],post,(x::sms)++[⟨z.tmod (y::l).length,z.tdiv (y::l).length,sv⟩],gn,w5) ⟨hc1,by show (pre++[z]).length≤s;rw[len_snoc];omega,?_,smsErr_snoc hse (hX sv ⟨hs0,hs1⟩) (hF sv),hc3 sv hs2,hc4 sv⟩ (Nat.lt_succ_self _) ?_ ?_ ?_ ?_
           · show (x::sms++[_]).length≤(pre++[z]).length
             rw[len_snoc,len_snoc];omega
           · exact⟨by rw[len_snoc];rfl,trivial⟩
           · refine⟨?_,?_,rfl,trivial⟩
             · dsimp only;rw[sdV_snoc];rfl
             · rfl
           · exact aK
           · exact aK)
 have hsl:sms.length≤s:=by omega
 have hU:=fun w=>upp_c g w ((f:Int)+1) (by omega) (by omega)
 repeat' (first|refine aR ?_|with_reducible refine zI fun y hy=>?_|((with_reducible refine aC ?_);first|(refine ACall.box (hU _) rfl rfl rfl ?_;rintro _ _ ⟨k2,rfl,hk0,hk1⟩))|refine aX ?_|with_reducible intro _|with_reducible refine zJ ?_ fun y hy=>?_|refine aP ?_ ?_)
 all_goals try (exfalso;omega)
 all_goals
  rename_i w2;refine w_loopK [0,2,6,10,11] [6,10,34,93] (fun x:Nat×List Fa×Nat×Int=>x.2.1.length=x.1∧(x.1:Int)≤k2∧fasErr c.length G.ws.length x.2.1=0∧x.2.1.all (agF c)=true) (fun x=>(k2-x.1).toNat) (fun x=>[(16,.int .i64 (k2-x.1))]) (fun x=>[(11,(g11,.row [.slc 2 (wR G.ws) .non,.slc 5 (dlR G.ds) .non,.slc 1 (noR (y::l)) (.own 34 g34),sdV sms g93,fdV x.2.1 x.2.2.1])),(112,fdX x.2.1 x.2.2.1),(1000,(g,.row [.int .u64 x.2.2.2]))]) (0,[],0,w2) ⟨rfl,hk0,rfl,rfl⟩ ⟨int_eq (by simp),trivial⟩ ⟨rfl,rfl,rfl,trivial⟩ ?_;rintro⟨b,fas,g112,w3⟩ ⟨hb,hbk,hf1,hf2⟩ e2 σ2;dsimp only at hb hbk hf1 hf2 ⊢;have hfR:(faR fas).length=b:=(List.length_map _).trans hb;by_cases hgo2:(b:Int)<k2
  · cases fas with
    | nil=>
      obtain rfl:0=b:=hb
      repeat' (first|refine aR ?_|with_reducible refine zI fun y hy=>?_|((with_reducible refine aC ?_);first|(refine ACall.box (factOf_c _ _ c G.ws.length h1 h9 (by omega) hc) rfl rfl rfl ?_;rintro _ _ ⟨fv,rfl,hv1,hv2⟩))|refine aX ?_|with_reducible intro _|with_reducible refine zJ ?_ fun y hy=>?_|refine aP ?_ ?_)
      all_goals try (exfalso;omega)
      all_goals
       rename_i gn;exact q_loop (1,[fv],gn,_) ⟨rfl,by show ((1:Nat):Int)≤k2;omega,fasErr_snoc (l:=[]) rfl hv1,by dsimp only[List.all_cons,List.all_nil];rw[hv2];rfl⟩ (by show (k2-((1:Nat):Int)).toNat<(k2-((0:Nat):Int)).toNat;omega) ⟨int_eq (by simp),trivial⟩ ⟨rfl,rfl,rfl,trivial⟩ aK aK
    | cons x fas=>
      repeat' (first|refine aR ?_|with_reducible refine zI fun y hy=>?_|((with_reducible refine aC ?_);first|(refine ACall.box (factOf_c _ _ c G.ws.length h1 h9 (by omega) hc) rfl rfl rfl ?_;rintro _ _ ⟨fv,rfl,hv1,hv2⟩))|refine aX ?_|with_reducible intro _|with_reducible refine zJ ?_ fun y hy=>?_|refine aP ?_ ?_)
      all_goals try (exfalso;omega)
      all_goals
       rename_i gn;exact q_loop (b+1,x::fas++[fv],gn,_) ⟨by rw[len_snoc,hb],by show ((b+1:Nat):Int)≤k2;omega,fasErr_snoc hf1 hv1,by dsimp only;rw[List.all_append,hf2,List.all_cons,hv2];rfl⟩ (by show (k2-((b+1:Nat):Int)).toNat<(k2-(b:Int)).toNat;omega) ⟨int_eq (by omega),trivial⟩ ⟨by first|rfl|(dsimp only;rw[fdV_snoc];rfl),rfl,rfl,trivial⟩ aK aK
  have hfl:fas.length≤f:=by omega
  have hmade:MdMade ⟨G,y::l,sms,fas⟩ c s f:=⟨by show 1≤(y::l).length;omega,by show (y::l).length≤2;omega,hn,hsl,by dsimp only;rw[hla];exact hse,htk,hfl,hf1,hf2⟩;cases sms<;>cases fas
  all_goals
   repeat' (first|refine aR ?_|with_reducible refine zI fun y hy=>?_|refine aX ?_|with_reducible intro _|with_reducible refine zJ ?_ fun y hy=>?_|refine aP ?_ ?_)
  all_goals first|(exfalso;omega)|exact⟨_,⟨_,rfl,rfl,hmade⟩,rfl⟩
theorem mindOf_c(g:Nat)(w:Int)(G:Gm)(c:List Int)(s f:Nat)(hW:1≤G.ws.length∧G.ws.length≤3)(hd:G.ds.length≤1000)(h1:1≤c.length)(h9:c.length≤9)(hc:∀x∈c,0≤x∧x<(G.ws.length:Int))(hs:s≤8)(hf:f≤8):
  RawC Tryz.prog 70 [.ref 1000 g 0,gmA G,.slc 1 (iR c) .non,.int .i64 (s:Nat),.int .i64 (f:Nat)] (BoxS g w) (BoxR g fun av=>∃M,av=mdA M∧M.g=G∧MdMade M c s f):=
 (mindZ_c g w G c s f hW hd h1 h9 hc hs hf).sub fun _ _ ⟨w',⟨M,h1,h2,h3⟩,h4⟩=>⟨mdA M,h1▸mdZ_sub M,w',⟨M,rfl,h2,h3⟩,h4⟩
end Go.Abs
set_option linter.unusedVariables false
set_option linter.unusedSimpArgs false
set_option maxRecDepth 20000
set_option maxHeartbeats 4000000
namespace Go.Abs
open Go.Proofs
def ir16:IFn:= ⟨33,[(8,some (5,true)),(9,none)],(sO [oo 8 (.new [.nsl,.nsl,.nsl,.nsl,.nsl]),oM 9 (.k .nsl)] (sO [oM 13 0,oM 14 1,oM 15 2,oM 16 3,oC 17 31 [13,14,15,16],oo 10 (.new [.nsl,.nsl]),oS 2 10 17] (sO [oo 19 (.ld 2 true 10),oM 20 0,oo 21 (.ld 2 true 10),oC 22 33 [20,21],⟨none,none,(.chk 2 true 10 19)⟩,oC 23 32 [19,22],oM 18 23,oE 24 0 18,oE 25 1 18,oM 11 24,oM 12 25] (sO [oM 26 0,oo 27 (.ld 2 true 10),oM 28 11,oM 29 0,oM 32 11,oC 30 38 [29,(kI 9)],⟨none,none,(.chk 2 true 10 27)⟩,oC 31 70 [26,27,28,30,(kI 2)],oS 5 8 31,oM 9 32] .ret))))⟩
theorem MdMade.more{M:Md}{c:List Int}{s f s':Nat}(h:MdMade M c s f)(hs:s≤s'):MdMade M c s' f:=⟨h.n1,h.n2,h.no,Nat.le_trans h.sl hs,h.sm,h.tk,h.fl,h.fa,h.ag⟩
structure GuestOK (M:Md) (c:List Int) (woods drawn cens:Int):Prop where
 g:madeO M.g woods drawn cens
 r:(c,cwG M.g c)∈crsG M.g
 m:MdMade M c 8 2
theorem guest_c(g:Nat)(w drawn cens:Int)(h2:0≤drawn∧drawn≤9)(h3:1≤cens∧cens≤9):RawC Tryz.prog 16 [.ref 1000 g 0,.int .i64 3,.int .i64 drawn,.int .i64 cens] (BoxS g w) (BoxR g fun av=>∃M c,av= .tup [mdA M,.slc 1 (iR c) .non]∧GuestOK M c 3 drawn cens):=by
 refine wk ir16 Tryz.func16 ?_;unfold ir16
 repeat' (first|refine aR ?_|((with_reducible refine aC ?_);first|(refine ACall.box (gameOf_c _ _ 3 drawn cens (by decide) h2 h3) rfl rfl rfl ?_;rintro _ _ ⟨G,rfl,hm⟩))|refine aX ?_|with_reducible intro _|refine aP ?_ ?_)
 have h0:=hm.e;have hG:=gm_ok h0;have hw3:=hm.n2;have hn1:=hm.n1;have hd:=hm.d
 repeat' (first|refine aR ?_|((with_reducible refine aC ?_);first|(refine ACall.box (picksOf_c _ _ G h0) rfl rfl rfl ?_;rintro _ _ ⟨ps,rfl,hps⟩))|refine aX ?_|with_reducible intro _|refine aP ?_ ?_)
 obtain⟨c,hp1,hp2,hp3⟩:=playO_in h0 hps;have hc:=((crsG_mem hG).1 hp3).1;have hcc:=hG.cen;have hpl:ps.length<1000000:=by rw[(allP_mem.1 hps).1];have:=szL_288 hG;omega
 have hPl:=rPlay_c G ps (by omega) (by omega) (fun w hw=>by have:=(madeW_ok hm.w).2 w hw;omega) hpl;rw[hp1] at hPl;replace hPl:FV 32 [gmA G,.slc 1 (iR ps) .non] (.tup [.slc 1 (iR c) .non,.int .i64 0]):=hPl
 repeat' (first|refine aR ?_|((with_reducible refine aC ?_);first|refine aV hPl ?_|(refine ACall.box (upp_c _ _ 9 (by decide) (by decide)) rfl rfl rfl ?_;rintro _ _ ⟨k,rfl,hk0,hk1⟩))|refine aX ?_|with_reducible intro _|refine aP ?_ ?_)
 obtain⟨k,rfl⟩:∃n:Nat,k=n:=⟨k.toNat,by omega⟩
 repeat' (first|refine aR ?_|((with_reducible refine aC ?_);first|(refine ACall.box (mindOf_c _ _ G c k 2 ⟨hn1,by omega⟩ (by omega) (by rw[hc.1];exact hcc.1) (by rw[hc.1];exact hcc.2) hc.2 (by omega) (by decide)) rfl rfl rfl ?_;rintro _ _ ⟨M,rfl,rfl,hM⟩))|refine aX ?_|with_reducible intro _|refine aP ?_ ?_)
 exact⟨_,⟨M,c,rfl,hm,hp3,hM.more (by omega)⟩,rfl⟩
end Go.Abs
set_option linter.unusedVariables false
set_option linter.unusedSimpArgs false
set_option maxRecDepth 20000
set_option maxHeartbeats 4000000
namespace Go.Abs
open Go.Proofs
theorem fold_pos{f:Sm→Int}:∀{l:List Sm} {n:Int},(∀s∈l,0<f s)→0<n→0<l.foldl (fun w s=>w*f s) n
 | [],n,_,h=>h
 | s::r,n,h,h0=>by rw[List.foldl_cons];exact fold_pos (fun x hx=>h x (by simp[hx])) (Int.mul_pos h0 (h s (by simp)))
theorem wtF_pos{M:Md}{c:List Int}{s f:Nat}(h:MdMade M c s f){n:Int}(hn:0<n):0<wtF M c n:=by unfold wtF;rw[if_pos h.ag];exact fold_pos h.tk hn
theorem guest_crs{M:Md}{c:List Int}{drawn cens:Int}(h:GuestOK M c 3 drawn cens)(h5:cens≤5):crsO M.g=(crsG M.g,0):=
 made_crs (a:=3) (b:=5) h.g (by decide) h5 (by decide)
theorem guest_len{M:Md}{c:List Int}{drawn cens:Int}(h:GuestOK M c 3 drawn cens):c.length=censG (stepsG M.g.ds)∧(∀w∈c,0≤w∧w<(M.g.ws.length:Int))∧0<cwG M.g c:=by obtain⟨h1,h2,_⟩:=(crsG_mem (gm_ok h.g.e)).1 h.r;exact⟨h1.1,h1.2,h2⟩
theorem guest_left{M:Md}{c:List Int}{drawn cens:Int}(h:GuestOK M c 3 drawn cens):(c,wtF M c (cwG M.g c))∈lfF M (crsG M.g):=by have h1:=wtF_pos h.m (guest_len h).2.2;unfold lfF;exact List.mem_filter.2 ⟨List.mem_map.2 ⟨_,h.r,rfl⟩,decide_eq_true h1⟩
theorem guest_err{M:Md}{c:List Int}{drawn cens:Int}(h:GuestOK M c 3 drawn cens)(h5:cens≤5):mdErr M=0:=by
 have hc:=guest_crs h h5;obtain⟨l1,l2,l3⟩:=guest_len h;have e1:smErr M.no.length (censG (stepsG M.g.ds)) M.g.ws.length M.sm=0:=by unfold smErr;rw[if_pos h.m.sl,←l1];exact h.m.sm
 have e2:fcErr (censG (stepsG M.g.ds)) M.g.ws.length M.fa=0:=by unfold fcErr;rw[if_pos (Nat.le_trans h.m.fl (by decide)),←l1];exact h.m.fa
 unfold mdErr;rw[hc];dsimp only;rw[if_pos rfl,if_pos (Nat.le_trans h.m.n2 (by decide)),if_pos (nosErr_of h.m.no),if_pos e1,if_pos e2,if_neg];intro hn;have:=guest_left h;rw[hn] at this;cases this
theorem guest_lfO{M:Md}{c:List Int}{drawn cens:Int}(h:GuestOK M c 3 drawn cens)(h5:cens≤5):lfO M=(lfF M (crsG M.g),0):=by unfold lfO;rw[if_pos (guest_err h h5),guest_crs h h5]
end Go.Abs
set_option linter.unusedVariables false
set_option linter.unusedSimpArgs false
set_option maxRecDepth 20000
set_option maxHeartbeats 2000000
namespace Go.Abs
open Go.Proofs
def ir48:IFn:= ⟨24,[(6,none)],(sO [oM 6 (kB false)] (.seq (sO [oM 8 0,oN 9 8,oM 10 1,oB 11 .neq 9 10] (.cnd 11 (sO [oM 6 (kB false)] .ret) .skip)) (.seq (sO [oM 7 (kI 0)] (.blk 0 (.loop (.seq (sO [oM 12 7,oM 13 1,oB 14 .lss 12 13] (.cnd 14 .skip (.exit 0))) (.seq (.blk 1 (sO [oM 17 0,oM 18 7,oA 19 1 17 18,oL 20 19,oN 21 20,oM 22 2,oB 23 .neq 21 22] (.cnd 23 (sO [oM 6 (kB false)] .ret) .skip))) (.ops [oM 15 7,oB 16 .add 15 (kI 1),oM 7 16])))))) (sO [oM 6 (kB true)] .ret))))⟩
theorem square_c(l:List (List Int))(r n:Nat)(hl:l.length=r)(hr:r<1000000)(hx:∀y∈l,y.length=n):FV 48 [.slc 1 (llR l) .non,.int .i64 (r:Nat),.int .i64 (n:Nat)] (.bool true):=by
 have hL:(llR l).length=l.length:=List.length_map _;refine wk ir48 Tryz.func48 ?_;unfold ir48
 repeat' (first|refine aR ?_|with_reducible refine zI fun y hy=>?_|refine aX ?_|with_reducible intro _|with_reducible refine zJ ?_ fun y hy=>?_|refine aP ?_ ?_)
 all_goals try (exfalso;omega)
 refine w_loopK [0,1,2] [] (fun q:List (List Int)×List (List Int)=>l=q.1++q.2) (fun q=>q.2.length) (fun q=>[(7,.int .i64 (q.1.length:Int))]) (fun _=>[]) ([],l) rfl ⟨rfl,trivial⟩ trivial ?_;rintro⟨pre,post⟩ hl2 e σ;dsimp only at hl2 ⊢;have hlen:=congrArg List.length hl2;rw[List.length_append] at hlen;cases post with
 | nil=>
   simp only[List.length_nil] at hlen
   repeat' (first|refine aR ?_|with_reducible refine zI fun y hy=>?_|refine aX ?_|with_reducible intro _|with_reducible refine zJ ?_ fun y hy=>?_|refine aP ?_ ?_)
   all_goals first|(exfalso;omega)|rfl
 | cons y post=>
   simp only[List.length_cons] at hlen;have hy:=hx y (by rw[hl2];simp);have hyl:(iR y).length=y.length:=List.length_map _
   repeat' (first|refine aR ?_|(first|refine w_ixP (f:=fL) hl2 rfl rfl ?_)|with_reducible refine zI fun y hy=>?_|refine aX ?_|with_reducible intro _|with_reducible refine zJ ?_ fun y hy=>?_|refine aP ?_ ?_)
   all_goals first|(exfalso;omega)|exact q_loop (pre++[y],post) (by show l=_;rw[hl2];simp) (Nat.lt_succ_self _) ⟨by rw[len_snoc];rfl,trivial⟩ aS aK aK
theorem tabF_at{k n i j:Nat}{f:Nat→Nat→Int}(hi:i<k)(hj:j<n):∃(p q:List (List Int)) (r s t:List Int),tabF k n f=p++r::q∧p.length=i∧r.length=n∧r=s++f i j::t∧s.length=j:=by
 obtain⟨h1,h2⟩:=at_split (l:=tabF k n f) (i:=i) (d:=[]) (by rw[tabF_len];exact hi);have h3:(tabF k n f).getD i []=(List.range n).map fun w=>f i w:=by rw[List.getD_eq_getElem?_getD,tabF_get hi];rfl
 rw[h3] at h1;obtain⟨h4,h5⟩:=at_split (l:=(List.range n).map fun w=>f i w) (i:=j) (d:=0) (by simpa using hj);have h6:((List.range n).map fun w=>f i w).getD j 0=f i j:=by simp[List.getD_eq_getElem?_getD,List.getElem?_map,List.getElem?_range hj]
 rw[h6] at h4;exact⟨_,_,_,_,_,h1,h2,by simp,h4,h5⟩
theorem tabF_rw{k n i:Nat}{f:Nat→Nat→Int}(hi:i<k):∃(p q:List (List Int)) (r:List Int),tabF k n f=p++r::q∧p.length=i∧r.length=n:=by obtain⟨h1,h2⟩:=at_split (l:=tabF k n f) (i:=i) (d:=[]) (by rw[tabF_len];exact hi);refine⟨_,_,_,h1,h2,tabF_row (f:=f) (k:=k) ?_⟩;exact getD_mem (by rw[tabF_len];exact hi)
end Go.Abs
