/- A part of the proofs: contracts of functions. -/
import Derived.Test.YtioggblimkgioaaGreatProg
import Derived.Test.YtioggblimkgioaaGreatSnd3
import Derived.Test.YtioggblimkgioaaGreatA0
import Derived.Test.YtioggblimkgioaaGreatQ1a
import Derived.Test.YtioggblimkgioaaGreatQ1b
import Derived.Test.YtioggblimkgioaaGreatQ1c
import Derived.Test.YtioggblimkgioaaGreatQ1d
set_option linter.unusedVariables false
set_option linter.unusedSimpArgs false
set_option maxRecDepth 20000
set_option maxHeartbeats 4000000
namespace Go.Abs
open Go.Proofs
theorem rready_c(d:Dl)(B:List Int)(h:bgIn B)(h2:d.kind=2→(0≤d.bag∧d.bag≤3)∧(0≤d.wood∧d.wood≤5)∧0≤d.count∧d.count≤1000000)(h3:d.kind=3→(0≤d.bag∧d.bag≤3)∧(0≤d.other∧d.other≤3)∧d.bag≠d.other):
  FV 92 [bgV B,dlA d] (bgV (mixedB d B)):=by
 have hl:=h.l;unfold mixedB;by_cases e2:d.kind=2
 · obtain⟨b1,b2,b3⟩:=h2 e2;rw[if_pos e2];have hp:=h.at (d.bag.toNat*6+d.wood.toNat);have ho:0+d.bag.toNat*6+d.wood.toNat*1=d.bag.toNat*6+d.wood.toNat:=by omega
   have hsl:(B.set (d.bag.toNat*6+d.wood.toNat) (B.getD (d.bag.toNat*6+d.wood.toNat) 0+d.count)).length=24:=by rw[List.length_set];exact hl
   refine wk ir92 Tryz.func92 ?_;unfold ir92
   repeat' (first|refine aR ?_|(first|(refine w_boxN rfl hl ?_;intro g2)|refine w_ldEl rfl ho rfl (by omega) ?_|refine w_stEl rfl ho rfl (by omega) rfl ?_|refine w_ldN rfl rfl hsl ?_|refine w_stN rfl rfl rfl rfl hsl ?_)|with_reducible refine zI fun y hy=>?_|refine aX ?_|with_reducible intro _|with_reducible refine zJ ?_ fun y hy=>?_|refine aP ?_ ?_)
   all_goals first|(exfalso;omega)|exact end_bg hsl
 rw[if_neg e2];by_cases e3:d.kind=3
 case neg=>
  rw[if_neg e3];refine wk ir92 Tryz.func92 ?_;unfold ir92
  repeat' (first|refine aR ?_|(first|(refine w_boxN rfl hl ?_;intro g2)|refine w_ldN rfl rfl hl ?_|refine w_stN rfl rfl rfl rfl hl ?_)|with_reducible refine zI fun y hy=>?_|refine aX ?_|with_reducible intro _|with_reducible refine zJ ?_ fun y hy=>?_|refine aP ?_ ?_)
  all_goals first|(exfalso;omega)|exact end_bg hl
 obtain⟨b1,b2,b3⟩:=h3 e3;rw[if_pos e3];refine wk ir92 Tryz.func92 ?_;unfold ir92
 repeat' (first|refine aR ?_|(first|(refine w_boxN rfl hl ?_;intro g2))|with_reducible refine zI fun y hy=>?_|refine aX ?_|with_reducible intro _|with_reducible refine zJ ?_ fun y hy=>?_|refine aP ?_ ?_)
 all_goals try (exfalso;omega)
 rename_i g3 g4;refine w_loopK [2,3,4] [3,4] (fun w:Nat=>w≤6) (fun w=>6-w) (fun w=>[(5,.int .i64 (w:Int))]) (fun w=>[(2,(g2,.row (nI (pourW B d.bag.toNat d.other.toNat w))))]) 0 (Nat.zero_le _) ⟨rfl,trivial⟩ ⟨by rw[pourW_zero hl];rfl,trivial⟩ ?_;rintro w hw e σ;try dsimp only at hw ⊢
 have hpl:=pourW_len B d.bag.toNat d.other.toNat w;by_cases hw6:w=6
 · subst hw6;rw[pourW_six] at hpl ⊢
   repeat' (first|refine aR ?_|(first|refine w_ldN rfl rfl hpl ?_|refine w_stN rfl rfl rfl rfl hpl ?_)|with_reducible refine zI fun y hy=>?_|refine aX ?_|with_reducible intro _|with_reducible refine zJ ?_ fun y hy=>?_|refine aP ?_ ?_)
   all_goals first|(exfalso;omega)|exact end_bg hpl
 have ho:0+d.other.toNat*6+w*1=d.other.toNat*6+w:=by omega
 have hb:0+d.bag.toNat*6+w*1=d.bag.toNat*6+w:=by omega
 have q1:=h.at (d.other.toNat*6+w);have q2:=h.at (d.bag.toNat*6+w);obtain⟨p1,p2⟩:=pourW_get (B:=B) (i:=d.bag.toNat) (k:=d.other.toNat) (w:=w) (by omega) (by omega) (by omega);have hps:=pourW_succ (B:=B) (i:=d.bag.toNat) (k:=d.other.toNat) (w:=w) (by omega) (by omega) (by omega) (by omega);generalize pourW B d.bag.toNat d.other.toNat w=PK at*;have hsl:d.bag.toNat*6+w<(PK.set (d.other.toNat*6+w) (B.getD (d.other.toNat*6+w) 0+B.getD (d.bag.toNat*6+w) 0)).length:=by rw[List.length_set];omega
 repeat' (first|refine aR ?_|(first|refine w_ldV rfl ho rfl (by omega) p1 ?_|refine w_ldV rfl hb rfl (by omega) p2 ?_|refine w_stEl rfl ho rfl (by omega) rfl ?_|refine w_stEl rfl hb rfl hsl rfl ?_)|with_reducible refine zI fun y hy=>?_|refine aX ?_|with_reducible intro _|with_reducible refine zJ ?_ fun y hy=>?_|refine aP ?_ ?_)
 all_goals first|(exfalso;omega)|exact q_loop (w+1) (by show w+1≤6;omega) (by show 6-(w+1)<6-w;omega) ⟨int_eq (by simp),trivial⟩ ⟨by rw[←hps];rfl,trivial⟩ aK aK
def ir88:IFn:= ⟨39,[(2,none)],(sO [oo 1 (.box 2 0),oM 2 (.k .nsl)] (sO [oo 3 (.nil 5 3)] (.seq (sO [oM 4 (kI 0)] (.blk 0 (.loop (.seq (sO [oM 7 4,oF 8 1 1,oL 9 8,oN 10 9,oB 11 .lss 7 10] (.cnd 11 .skip (.exit 0))) (.seq (.blk 1 (sO [oF 14 1 1,oL 15 14,oM 16 4,oA 17 5 15 16,oo 18 (.ld 5 true 17),oo 5 (.new [z0,z0,z0,z0,z0]),oS 5 5 18] (sO [oM 6 (kI 1)] (.seq (sO [oF 19 0 5,oL 20 19,oB 21 .eql 20 (kI 4),oM 22 21,⟨(some 23),(some (22,false)),(.flA 0 5)⟩,⟨(some 24),(some (22,false)),(.ld 1 false 23)⟩,⟨(some 25),(some (22,false)),(.bin .eql 24 (kI 5))⟩,oo 26 (.pick 22 (kB true) 25)] (.cnd 26 (.ops [oF 27 4 5,oL 28 27,oM 6 28,oF 29 4 5,oS 1 29 (kI 1)]) .skip)) (.blk 2 (.loop (.seq (sO [oM 30 6,oB 31 .gtr 30 (kI 0)] (.cnd 31 .skip (.exit 2))) (.seq (.blk 3 (.ops [oM 34 3,oo 35 (.ld 5 true 5),oo 36 (.bsl 5 [[z0,z0,z0,z0,z0]] [(0,35)]),oo 37 (.app 5 40 34 36 3),oM 3 37])) (.ops [oM 32 6,oB 33 .sub 32 (kI 1),oM 6 33]))))))))) (.ops [oM 12 4,oB 13 .add 12 (kI 1),oM 4 13])))))) (sO [oM 38 3,oM 2 38] .ret))))⟩
def hint88(P:Program):Hint:={site:=[(37,3)],nils:=[(3,5)],frz:=[],mve:=[],wr:=[] }
def spOf(d:Dl):Sp:=(d,drawsB d,decide (d.kind=5) || decide (d.kind=6))
def act1(d:Dl):List Dl:=if drawsB d=true then List.replicate d.count.toNat {d with count:=1 } else[d]
def actsF(l:List Dl):List Dl:=l.flatMap act1
def nrm(x:Sp):Sp:=if x.2.1=true then ({x.1 with count:=1 },x.2) else x
theorem act1_sp(d:Dl):(act1 d).map spOf=(stp1 d).map nrm:=by
 unfold act1 stp1;by_cases h:drawsB d=true
 · rw[if_pos h,if_pos h,List.map_replicate,List.map_replicate]
   congr 1
   have hk:d.kind=4∨d.kind=5:=by simpa[drawsB] using h
   have h6:decide (d.kind=6)=false:=decide_eq_false (by omega);have h':drawsB {d with count:=1 }=true:=h;unfold spOf nrm;rw[h',if_pos rfl];show (_,true,decide (d.kind=5) || decide (d.kind=6))=_
   rw[h6,Bool.or_false]
 · have h':drawsB d=false:=by simpa using h
   rw[if_neg h,if_neg h];have h5:decide (d.kind=5)=false:=by
    have:¬(d.kind=4∨d.kind=5):=by simpa[drawsB] using h
    exact decide_eq_false (by omega)
   unfold spOf nrm;simp only[List.map_cons,List.map_nil,h',h5,Bool.false_or,Bool.false_eq_true,if_false]
theorem acts_sp:∀l:List Dl,(actsF l).map spOf=(stepsG l).map nrm
 | []=>rfl
 | d::r=>by
   show (act1 d++actsF r).map spOf=(stp1 d++stepsG r).map nrm
   rw[List.map_append,List.map_append,act1_sp,acts_sp r]
theorem nrm_2(x:Sp):(nrm x).2=x.2:=by unfold nrm;split<;>rfl
theorem nrm_bag(x:Sp):(nrm x).1.bag=x.1.bag∧(nrm x).1.wood=x.1.wood∧(nrm x).1.kind=x.1.kind∧(nrm x).1.other=x.1.other:=by unfold nrm;split<;>exact⟨rfl,rfl,rfl,rfl⟩
theorem nrm_f{x:Sp}(h:x.2.1=false):nrm x=x:=by unfold nrm;rw[h];rfl
theorem spB_nrm(x:Sp)(b:List Int):spB (nrm x) b=spB x b:=by
 by_cases h:x.2.1=true
 · unfold spB;rw[nrm_2,if_pos h,if_pos h,(nrm_bag x).1]
 · rw[nrm_f (by simpa using h)]
theorem spM_nrm(x:Sp)(m:Int):spM (nrm x) m=spM x m:=by
 by_cases h:x.2.1=true
 · unfold spM;rw[nrm_2,if_pos h,if_pos h]
 · rw[nrm_f (by simpa using h)]
theorem runOK_nrm{n:Nat}:∀{l:List Sp} {b:List Int} {m:Int},runOK n l b m→runOK n (l.map nrm) b m
 | [],_,_,_=>trivial
 | x::r,b,m,h=>by
   refine⟨?_,?_⟩
   · by_cases hd:x.2.1=true
     · refine⟨fun _=>by rw[(nrm_bag x).1];exact h.1.d hd,fun h2=>?_,fun h2=>?_⟩
       · rw[nrm_2,hd] at h2;cases h2
       · rw[nrm_2,hd] at h2;cases h2
     · rw[nrm_f (by simpa using hd)];exact h.1
   · rw[spB_nrm,spM_nrm];exact runOK_nrm h.2
theorem szL_nrm:∀(l:List Sp) (b:List Int),szL (l.map nrm) b=szL l b
 | [],_=>rfl
 | x::r,b=>by rw[List.map_cons,szL,szL,spB_nrm,szL_nrm r,nrm_2,(nrm_bag x).1]
theorem playT_nrm:∀(l:List Sp) (B ps:List Int),playT (l.map nrm) B ps=playT l B ps
 | [],_,_=>rfl
 | x::r,B,ps=>by
   rw[List.map_cons];by_cases h:x.2.1=true
   · have h':(nrm x).2.1=true:=by rw[nrm_2];exact h
     cases ps with
     | nil=>simp only[playT,if_pos h,if_pos h']
     | cons p ps=>simp only[playT,if_pos h,if_pos h',(nrm_bag x).1,nrm_2,playT_nrm r]
   · rw[nrm_f (by simpa using h)];simp only[playT,if_neg h,playT_nrm r]
theorem act1_len{d:Dl}(h:drawsB d=true→1≤d.count∧d.count≤12):(act1 d).length≤12:=by
 unfold act1;split
 · rw[List.length_replicate];have:=h (by assumption);omega
 · simp
theorem acts_len:∀(l:List Dl),(∀d∈l,drawsB d=true→1≤d.count∧d.count≤12)→(actsF l).length≤12*l.length
 | [],_=>Nat.le_refl _
 | d::r,h=>by
   have h1:=act1_len (h d (by simp));have h2:=acts_len r fun x hx=>h x (by simp[hx]);show (act1 d++actsF r).length≤12*(r.length+1)
   rw[List.length_append];omega
theorem dl_snoc(out:List Dl)(d:Dl)(g:Nat):AV.slc 5 (dlR out++[[.int .i64 d.kind,.int .i64 d.bag,.int .i64 d.other,.int .i64 d.wood,.int .i64 d.count]]) (.own 3 g)=AV.slc 5 (dlR (out++[d])) (.own 3 g):=
 congrArg (fun z=>AV.slc 5 z (.own 3 g)) (map_snoc (f:=fun d:Dl=>[AV.int .i64 d.kind,.int .i64 d.bag,.int .i64 d.other,.int .i64 d.wood,.int .i64 d.count]) (x:=d)).symm
theorem acts_c(G:Gm)(hd:G.ds.length≤24)(hc:∀d∈G.ds,drawsB d=true→1≤d.count∧d.count≤12):FV 88 [gmA G] (.slc 5 (dlR (actsF G.ds)) .non):=by
 refine RawC.walk (H:=hint88 Tryz.prog) ir88 Tryz.func88 rfl rfl rfl ?_;unfold ir88
 repeat' (first|refine aR ?_|with_reducible refine zI fun y hy=>?_|refine aX ?_|with_reducible intro _|with_reducible refine zJ ?_ fun y hy=>?_|refine aP ?_ ?_)
 rename_i g1 g3;refine w_loopK [1] [1] (fun x:List Dl×List Dl×List Dl×Nat=>G.ds=x.1++x.2.1∧x.2.2.1++actsF x.2.1=actsF G.ds∧x.2.2.1.length≤12*x.1.length) (fun x=>x.2.1.length) (fun x=>[(4,.int .i64 (x.1.length:Int)),(3,.slc 5 (dlR x.2.2.1) (.own 3 x.2.2.2))]) (fun x=>[(3,(x.2.2.2,.row []))]) ([],G.ds,[],g3) ⟨rfl,rfl,Nat.le_refl _⟩ ⟨rfl,rfl,trivial⟩ ⟨rfl,trivial⟩ ?_;rintro⟨pre,post,out,g⟩ ⟨hl,he,ho⟩ e σ;dsimp only at hl he ho ⊢;have hlen:=congrArg List.length hl;rw[List.length_append] at hlen;have hol:(dlR out).length=out.length:=List.length_map _;cases post with
 | nil=>
   simp only[List.length_nil] at hlen;rw[show actsF []=[] from rfl,List.append_nil] at he
   repeat' (first|refine aR ?_|with_reducible refine zI fun y hy=>?_|refine aX ?_|with_reducible intro _|with_reducible refine zJ ?_ fun y hy=>?_|refine aP ?_ ?_)
   all_goals first|(exfalso;omega)|(rw[←he];rfl)
 | cons d post=>
   simp only[List.length_cons] at hlen;have hdc:=hc d (by rw[hl];simp);have hl1:=act1_len hdc;have he1:out++(act1 d++actsF post)=actsF G.ds:=by rw[←he];rfl
   by_cases hdr:drawsB d=true
   · have hk:d.kind=4∨d.kind=5:=by simpa[drawsB] using hdr
     have hdn:=hdc hdr;have e1:act1 d=List.replicate d.count.toNat {d with count:=1 }:=by unfold act1;rw[hdr];rfl
     rw[e1] at he1;by_cases h4:d.kind=4
     all_goals
      repeat' (first|refine aR ?_|(refine w_ixP (f:=fun d:Dl=>[AV.int .i64 d.kind,.int .i64 d.bag,.int .i64 d.other,.int .i64 d.wood,.int .i64 d.count]) hl rfl rfl ?_)|with_reducible refine zI fun y hy=>?_|refine aX ?_|with_reducible intro _|with_reducible refine zJ ?_ fun y hy=>?_|refine aP ?_ ?_)
      all_goals try (exfalso;omega)
      refine w_loopK [1,4,5] [1,5] (fun x:Nat×Nat×Nat=>(x.1:Int)+x.2.1=d.count) (fun x=>x.2.1) (fun x=>[(6,.int .i64 (x.2.1:Int)),(3,.slc 5 (dlR (out++List.replicate x.1 {d with count:=1 })) (.own 3 x.2.2))]) (fun x=>[(3,(x.2.2,.row []))]) (0,d.count.toNat,g) (by show (0:Int)+((d.count.toNat:Nat):Int)=_;omega) ⟨int_eq (by show d.count=((d.count.toNat:Nat):Int);omega),by show AV.slc 5 (dlR out) _=AV.slc 5 (dlR (out++[])) _;rw[List.append_nil],trivial⟩ ⟨rfl,trivial⟩ ?_;rintro⟨j,k,g'⟩ hj e2 σ2;dsimp only at hj ⊢;have hol2:(dlR (out++List.replicate j {d with count:=1 })).length=out.length+j:=by rw[List.length_map,List.length_append,List.length_replicate]
      have hol3:(out++List.replicate j {d with count:=1 }).length=out.length+j:=by rw[List.length_append,List.length_replicate]
      cases k with
      | zero=>
        have hjn:d.count.toNat=j:=by omega
        rw[hjn] at he1
        repeat' (first|refine aR ?_|with_reducible refine zI fun y hy=>?_|refine aX ?_|with_reducible intro _|with_reducible refine zJ ?_ fun y hy=>?_|refine aP ?_ ?_)
        all_goals first|(exfalso;omega)|exact q_loop (pre++[d],post,out++List.replicate j {d with count:=1 },g') ⟨by rw[hl];simp,by rw[←he1];simp,by show (out++List.replicate j _).length≤_;rw[hol3,List.length_append];simp only[List.length_cons,List.length_nil];omega⟩ (by show post.length<post.length+1;omega) ⟨by rw[len_snoc];rfl,rfl,trivial⟩ aS aK aK
      | succ k=>
        repeat' (first|refine aR ?_|with_reducible refine zI fun y hy=>?_|refine aX ?_|with_reducible intro _|with_reducible refine zJ ?_ fun y hy=>?_|refine aP ?_ ?_)
        all_goals try (exfalso;omega)
        all_goals
         rename_i g4;have hsn:out++List.replicate j {d with count:=1 }++[{d with count:=1 }]=out++List.replicate (j+1) {d with count:=1 }:=by rw[List.append_assoc,List.replicate_succ']
         refine q_loop (j+1,k,g4) (by show ((j+1:Nat):Int)+k=_;omega) (Nat.lt_succ_self k) ⟨int_eq (by simp),?_,trivial⟩ aS aK aK;rw[←hsn];exact dl_snoc (out++List.replicate j {d with count:=1 }) {d with count:=1 } g4
   · have hk:¬(d.kind=4∨d.kind=5):=by simpa[drawsB] using hdr
     have e1:act1 d=[d]:=by unfold act1;rw[if_neg hdr]
     rw[e1] at he1
     repeat' (first|refine aR ?_|(refine w_ixP (f:=fun d:Dl=>[AV.int .i64 d.kind,.int .i64 d.bag,.int .i64 d.other,.int .i64 d.wood,.int .i64 d.count]) hl rfl rfl ?_)|with_reducible refine zI fun y hy=>?_|refine aX ?_|with_reducible intro _|with_reducible refine zJ ?_ fun y hy=>?_|refine aP ?_ ?_)
     all_goals try (exfalso;omega)
     refine w_loopK [1,4,5] [1,5] (fun x:Bool×Nat=>True) (fun x=>if x.1=true then 1 else 0) (fun x=>[(6,.int .i64 (if x.1=true then 1 else 0)),(3,.slc 5 (dlR (if x.1=true then out else out++[d])) (.own 3 x.2))]) (fun x=>[(3,(x.2,.row []))]) (true,g) trivial ⟨rfl,rfl,trivial⟩ ⟨rfl,trivial⟩ ?_;rintro⟨b,g'⟩ _ e2 σ2;cases b with
     | true=>
       simp only[if_true]
       repeat' (first|refine aR ?_|with_reducible refine zI fun y hy=>?_|refine aX ?_|with_reducible intro _|with_reducible refine zJ ?_ fun y hy=>?_|refine aP ?_ ?_)
       all_goals try (exfalso;omega)
       all_goals
        rename_i g4;exact q_loop (false,g4) trivial (by show (0:Nat)<1;decide) ⟨rfl,by first|rfl|exact dl_snoc out d g4,trivial⟩ aS aK aK
     | false=>
       simp only[Bool.false_eq_true,if_false]
       repeat' (first|refine aR ?_|with_reducible refine zI fun y hy=>?_|refine aX ?_|with_reducible intro _|with_reducible refine zJ ?_ fun y hy=>?_|refine aP ?_ ?_)
       all_goals first|(exfalso;omega)|exact q_loop (pre++[d],post,out++[d],g') ⟨by rw[hl];simp,by rw[←he1];simp,by show (out++[_]).length≤_;rw[List.length_append,List.length_append];simp only[List.length_cons,List.length_nil];omega⟩ (by show post.length<post.length+1;omega) ⟨by rw[len_snoc];rfl,rfl,trivial⟩ aS aK aK
section
variable {P:Program} {K:(Nat→AV)→Sig→Prop} {e:Nat→AV} {σ:Sig} {x:IOpd} {r:List IStep} {i g t n:Nat} {B:List Int}
theorem w_chkN(hx:x.ev e= .ref i g 0)(hσ:σ i=(g,.row (nI B)))(hn:B.length=n)(ht:e t= .agg (nI B))(hk:stepsW P r K e σ):stepsW P (⟨none,none,.chk n true x t⟩::r) K e σ:=by
 have e1:ldO n true σ (x.ev e)=some (g=g∧0+n≤(nI B).length,.agg (nI B)):=by rw[hx];simp only[ldO,hσ,partO];rw[List.drop_zero,List.take_of_length_le (by rw[List.length_map];omega)]
 refine w_det0 (p:=(g=g∧0+n≤(nI B).length)∧ .agg (nI B)=e t) (v:= .junk) (σ':=σ) (fun _=>?_) ⟨⟨rfl,by rw[List.length_map];omega⟩,ht.symm⟩ hk;show (match ldO n true σ (x.ev e) with
  | some (p,v)=>some (p∧v=e t,AV.junk,σ)
  | none=>none)=_
 rw[e1]
end
def ir85:IFn:= ⟨51,[(2,none)],(sO [oo 1 (.box 2 0),oM 2 (.k .nsl)] (sO [oo 3 (.nil 1 3)] (sO [oo 4 (.new [z0,z0,z0,z0,z0,z0,z0,z0,z0,z0,z0,z0,z0,z0,z0,z0,z0,z0,z0,z0,z0,z0,z0,z0])] (sO [oo 7 (.ld 2 true 1),oC 8 88 [7],oM 5 8] (.seq (sO [oM 6 (kI 0)] (.blk 0 (.loop (.seq (sO [oM 9 6,oM 10 5,oN 11 10,oB 12 .lss 9 11] (.cnd 12 .skip (.exit 0))) (.seq (.blk 1 (.seq (sO [oM 15 5,oM 16 6,oA 17 5 15 16,oo 18 (.ld 5 true 17),oC 19 89 [18]] (.cnd 19 (sO [oM 20 3,oo 21 (.ld 24 true 4),oM 22 5,oM 23 6,oA 24 5 22 23,oF 25 1 24,oL 26 25,oC 27 147 [21,26],oo 28 (.bsl 1 [[z0]] [(0,27)]),oo 29 (.app 1 8 20 28 3),oM 3 29] (sO [oo 30 (.ld 24 true 4),oM 31 5,oM 32 6,oA 33 5 31 32,oF 34 1 33,oL 35 34,oo 36 (.ld 24 true 4),oM 37 5,oM 38 6,oA 39 5 37 38,oF 40 1 39,oL 41 40,oC 42 90 [36,41,(kI 0)],⟨none,none,(.chk 24 true 4 30)⟩,oK 34 35,oC 43 91 [30,35,42],oS 24 4 43] (.exit 1))) .skip)) (.ops [oo 44 (.ld 24 true 4),oM 45 5,oM 46 6,oA 47 5 45 46,oo 48 (.ld 5 true 47),oC 49 92 [44,48],oS 24 4 49]))) (.ops [oM 13 6,oB 14 .add 13 (kI 1),oM 6 14])))))) (sO [oM 50 3,oM 2 50] .ret))))))⟩
def hint85(P:Program):Hint:={site:=[(29,3)],nils:=[(3,1)],frz:=[],mve:=[],wr:=[] }
theorem run_acts{G:Gm}(h:GOK G):runOK G.ws.length ((actsF G.ds).map spOf) tb0.bags tb0.mixed:=by rw[acts_sp];exact runOK_nrm h.ex
theorem ACall.bg2i{P:Program}{f:Nat}{B:List Int}{a1 a2:List AV}{r:Int}{σ:Sig}{d:Nat}{Q:AV→Sig→Prop}(h:Fn0 P f (bgV B::a1) (fun a=>a= .int .i64 r))(ha:a1=renL [] a2)(hQ:Q (.int .i64 r) σ):ACall P f (bgV B::a2) σ d Q:=
 ACall.val h (by show bgV B::a1=ren [] (bgV B)::renL [] a2;rw[ren_bg,ha]) rfl hQ
theorem ACall.bg2b{P:Program}{f:Nat}{B C:List Int}{a1 a2:List AV}{σ:Sig}{d:Nat}{Q:AV→Sig→Prop}(h:Fn0 P f (bgV B::a1) (fun a=>a=bgV C))(ha:a1=renL [] a2)(hQ:Q (bgV C) σ):ACall P f (bgV B::a2) σ d Q:=
 ACall.val h (by show bgV B::a1=ren [] (bgV B)::renL [] a2;rw[ren_bg,ha]) (ren_bg [] C) hQ
theorem Sizes_c(G:Gm)(h:GOK G):FV 85 [gmA G] (.slc 1 (iR (szL (stepsG G.ds) tb0.bags)) .non):=by
 have hac:=acts_c G h.d24 h.cnt;have hal:=acts_len G.ds h.cnt;have hrun:=run_acts h;have hd24:=h.d24;have hsz:szL ((actsF G.ds).map spOf) tb0.bags=szL (stepsG G.ds) tb0.bags:=by rw[acts_sp,szL_nrm]
 obtain⟨A,hA⟩:∃A,actsF G.ds=A:=⟨_,rfl⟩;rw[hA] at hac hal hrun hsz;rw[←hsz];refine RawC.walk (H:=hint85 Tryz.prog) ir85 Tryz.func85 rfl rfl rfl ?_;unfold ir85
 repeat' (first|refine aR ?_|with_reducible refine zI fun y hy=>?_|((with_reducible refine aC ?_);first|refine aV hac ?_)|refine aX ?_|with_reducible intro _|with_reducible refine zJ ?_ fun y hy=>?_|refine aP ?_ ?_)
 rename_i g3 g4
 refine w_loopK [4,5] [] (fun x:List Dl×List Dl×List Int×List Int×Nat×List Int×Int=>A=x.1++x.2.1∧x.2.2.2.1++szL (x.2.1.map spOf) x.2.2.2.2.2.1=szL (A.map spOf) tb0.bags∧x.2.2.2.1.length≤x.1.length∧tbIn x.2.2.2.2.2.1 x.2.2.2.2.2.2∧runOK G.ws.length (x.2.1.map spOf) x.2.2.2.2.2.1 x.2.2.2.2.2.2∧bgT G.ws.length x.2.2.2.2.2.1 x.2.2.1) (fun x=>x.2.1.length)
  (fun x=>[(6,.int .i64 (x.1.length:Int)),(3,.slc 1 (iR x.2.2.2.1) (.own 3 x.2.2.2.2.1))]) (fun x=>[(4,(g4,.row (nI x.2.2.1))),(3,(x.2.2.2.2.1,.row []))]) ([],A,bg0,[],g3,tb0.bags,tb0.mixed) ⟨rfl,rfl,Nat.le_refl _,tb0_in,hrun,bgT0 _⟩ ⟨rfl,rfl,trivial⟩ ⟨rfl,rfl,trivial⟩ ?_
 rintro⟨pre,post,B,out,g,b,m⟩ ⟨hl,he,ho,ht,hr,hB⟩ e σ;dsimp only at hl he ho ht hr hB ⊢;have hlen:=congrArg List.length hl;rw[List.length_append] at hlen;have hol:(iR out).length=out.length:=List.length_map _;have hBl:=hB.l;have hin:=hB.bgin ht;cases post with
 | nil=>
   simp only[List.length_nil] at hlen;rw[show szL (List.map spOf []) b=[] from rfl,List.append_nil] at he;rw[←he]
   repeat' (first|refine aR ?_|with_reducible refine zI fun y hy=>?_|refine aX ?_|with_reducible intro _|with_reducible refine zJ ?_ fun y hy=>?_|refine aP ?_ ?_)
   all_goals first|(exfalso;omega)|rfl
 | cons d post=>
   simp only[List.length_cons] at hlen;have hx:=hr.1;have hds:=rdraws_c d;cases hdb:drawsB d with
   | true=>
     rw[hdb] at hds;obtain⟨hb,ha⟩:=hx.d hdb;have hsz1:=hB.size hb;have hle:=ht.le hb;have hsm:=ht.sm;have hm:=ht.m;change 0≤d.bag∧d.bag≤3 at hb;change 1≤atI b d.bag at ha;change bgSize B d.bag=atI b d.bag at hsz1;change atI b d.bag≤sumB b at hle;have hs1:=rsize_c B hin d.bag hb;have hp0:0≤(0:Int)∧(0:Int)<bgSize B d.bag:=by omega
     obtain⟨hq,hq2⟩:=pickW_ok hp0.1 hp0.2;have hs2:=rwood_c B hin d.bag 0 hb hp0 (by decide);have hs3:=rwithout_c B hin d.bag (pickW B d.bag 0) hb hq;have hB2:=hB.draw ht.l h.n6 hb hq hq2;have hbe:spB (spOf d) b=setI b d.bag (atI b d.bag+ -1):=by unfold spB;rw[if_pos (show (spOf d).2.1=true from hdb)];rfl
     rw[←hbe] at hB2;have hdl:=hB2.l;have he1:out++(bgSize B d.bag::szL (post.map spOf) (spB (spOf d) b))=szL (A.map spOf) tb0.bags:=by rw[←he,List.map_cons,szL,if_pos (show (spOf d).2.1=true from hdb),hsz1];rfl
     repeat' (first|refine aR ?_|(first|refine w_ixP (f:=fun d:Dl=>[AV.int .i64 d.kind,.int .i64 d.bag,.int .i64 d.other,.int .i64 d.wood,.int .i64 d.count]) hl rfl rfl ?_|refine w_ldN rfl rfl hBl ?_|refine w_chkN rfl rfl hBl rfl ?_|refine w_stN rfl rfl (by rw[List.length_map];exact hBl) rfl hdl ?_)|with_reducible refine zI fun y hy=>?_|((with_reducible refine aC ?_);first|refine aV hds ?_|(refine ACall.bg2i hs1 rfl ?_)|(refine ACall.bg2i hs2 rfl ?_)|(refine ACall.bg2b hs3 rfl ?_))|refine aX ?_|with_reducible intro _|with_reducible refine zJ ?_ fun y hy=>?_|refine aP ?_ ?_)
     all_goals try (exfalso;omega)
     all_goals
      rename_i g5;exact q_loop (pre++[d],post,drawB B d.bag (pickW B d.bag 0),out++[bgSize B d.bag],g5,spB (spOf d) b,spM (spOf d) m) ⟨by rw[hl];simp,by rw[←he1];simp,by dsimp only;rw[len_snoc,len_snoc];omega,(ht.step hx).1,hr.2,hB2⟩ (Nat.lt_succ_self _) ⟨by rw[len_snoc];rfl,rfl,trivial⟩ aS aK aK
   | false=>
     rw[hdb] at hds;have hm:=ht.m;have hn6:=h.n6;have hs1:=rready_c d B hin (fun h2=>by obtain⟨q1,q2,q3,q4⟩:=hx.h2 hdb h2;change 0≤d.wood∧d.wood<_ at q2;change 1≤d.count at q3;change m+d.count≤12 at q4;exact⟨q1,by omega,by omega⟩) (fun h3=>hx.h3 hdb h3);have hB2:=hB.mix ht.l h.n6 hx hdb;have hdl:(mixedB d B).length=24:=hB2.l;have he1:out++szL (post.map spOf) (spB (spOf d) b)=szL (A.map spOf) tb0.bags:=by rw[←he,List.map_cons,szL,if_neg (show ¬(spOf d).2.1=true by show ¬drawsB d=true;rw[hdb];decide)]
     repeat' (first|refine aR ?_|(first|refine w_ixP (f:=fun d:Dl=>[AV.int .i64 d.kind,.int .i64 d.bag,.int .i64 d.other,.int .i64 d.wood,.int .i64 d.count]) hl rfl rfl ?_|refine w_ldN rfl rfl hBl ?_|refine w_chkN rfl rfl hBl rfl ?_|refine w_stN rfl rfl (by rw[List.length_map];exact hBl) rfl hdl ?_)|with_reducible refine zI fun y hy=>?_|((with_reducible refine aC ?_);first|refine aV hds ?_|(refine ACall.bgbg hs1 rfl ?_))|refine aX ?_|with_reducible intro _|with_reducible refine zJ ?_ fun y hy=>?_|refine aP ?_ ?_)
     all_goals first|(exfalso;omega)|exact q_loop (pre++[d],post,mixedB d B,out,g,spB (spOf d) b,spM (spOf d) m) ⟨by rw[hl];simp,he1,by dsimp only;rw[len_snoc];omega,(ht.step hx).1,hr.2,hB2⟩ (Nat.lt_succ_self _) ⟨by rw[len_snoc];rfl,rfl,trivial⟩ aS aK aK
theorem fct_mono:∀{j k:Nat},j≤k→fct j≤fct k:=by
 intro j k h;induction k with
 | zero=>rw[Nat.le_zero.1 h];exact Int.le_refl _
 | succ k ih=>
   by_cases e:j=k+1
   · rw[e];exact Int.le_refl _
   · have:=ih (by omega);have hp:=fct_pos k;have:1*fct k≤((k+1:Nat):Int)*fct k:=Int.mul_le_mul_of_nonneg_right (by omega) (by omega);show fct j≤((k+1:Nat):Int)*fct k
     omega
theorem szP_bd{n:Nat}{l:List Sp}{b:List Int}{m:Int}(ht:tbIn b m)(h:runOK n l b m):1≤szP l b∧szP l b≤479001600:=by have h1:=szP_le ht h;have hs:=ht.sm;have hm:=ht.m;have h2:=fct_mono (show (sumB b+12-m).toNat≤12 by omega);rw[fct12] at h2;exact⟨szP_pos h,by omega⟩
section
variable {x:Sp} {r:List Sp} {B c:List Int} {w:Int}
theorem cntP_dn(h:x.2.1=true):cntP (x::r) [] B=bgSize B x.1.bag*cntP r [] (drawB B x.1.bag (pickW B x.1.bag 0)):=by
 show (if x.2.1=true then _ else _)=_
 rw[if_pos h]
def cntW(x:Sp)(r:List Sp)(B:List Int)(w:Int)(c:List Int)(v:Int):Int:=if x.2.2=true then (if v=w then bgAt B x.1.bag v*cntP r c (drawB B x.1.bag v) else 0) else bgAt B x.1.bag v*cntP r (w::c) (drawB B x.1.bag v)
theorem cntP_dc(h:x.2.1=true):cntP (x::r) (w::c) B=nSum 6 (cntW x r B w c):=by
 show (if x.2.1=true then _ else _)=_
 rw[if_pos h];rfl
theorem cntP_pn(h:¬x.2.1=true)(h2:x.2.2=true):cntP (x::r) [] B=cntP r [] (mixedB x.1 B):=by
 show (if x.2.1=true then _ else if x.2.2=true then _ else _)=_
 rw[if_neg h,if_pos h2]
theorem cntP_pc(h:¬x.2.1=true)(h2:x.2.2=true):cntP (x::r) (w::c) B=if w=x.1.wood then cntP r c (mixedB x.1 B) else 0:=by
 show (if x.2.1=true then _ else if x.2.2=true then _ else _)=_
 rw[if_neg h,if_pos h2]
theorem cntP_m(h:¬x.2.1=true)(h2:¬x.2.2=true):cntP (x::r) c B=cntP r c (mixedB x.1 B):=by
 show (if x.2.1=true then _ else if x.2.2=true then _ else _)=_
 rw[if_neg h,if_neg h2]
end
theorem cntP_bd{n:Nat}(hn:n≤6):∀{l:List Sp} {b:List Int} {m:Int} {B:List Int} (c:List Int),tbIn b m→runOK n l b m→bgT n b B→0≤cntP l c B∧cntP l c B≤szP l b
 | [],_,_,_,c,_,_,_=>by
   show 0≤(1:Int)∧(1:Int)≤1
   decide
 | x::r,b,m,B,c,ht,hr,hB=>by
   have hx:=hr.1;have ht2:=(ht.step hx).1;have hz:=szP_pos hr.2;rw[szP];by_cases hd:x.2.1=true
   · obtain⟨hb,ha⟩:=hx.d hd;have hs:=hB.size hb;have e:spB x b=setI b x.1.bag (atI b x.1.bag+ -1):=by unfold spB;rw[if_pos hd]
     rw[if_pos hd];have hdr:∀(v:Int) (c:List Int),0≤v→v≤5→0≤bgAt B x.1.bag v*cntP r c (drawB B x.1.bag v)∧bgAt B x.1.bag v*cntP r c (drawB B x.1.bag v)≤bgAt B x.1.bag v*szP r (spB x b):=fun v c hv hv5=>by
      by_cases h0:bgAt B x.1.bag v=0
      · rw[h0,Int.zero_mul,Int.zero_mul];exact⟨Int.le_refl _,Int.le_refl _⟩
      · have hp:=bgAt_nn hB.nn x.1.bag v;have hB2:=hB.draw ht.l hn hb (w:=v) ⟨hv,hv5⟩ (by omega);obtain⟨i1,i2⟩:=cntP_bd hn c ht2 hr.2 (by rw[e];exact hB2);exact⟨Int.mul_nonneg hp i1,Int.mul_le_mul_of_nonneg_left i2 hp⟩
     cases c with
     | nil=> rw[cntP_dn hd,hs];obtain⟨hp,hq⟩:=pickW_ok (B:=B) (i:=x.1.bag) (p:=0) (Int.le_refl _) (by rw[hs];omega);have hB2:=hB.draw ht.l hn hb hp hq;obtain⟨i1,i2⟩:=cntP_bd hn [] ht2 hr.2 (by rw[e];exact hB2);exact⟨Int.mul_nonneg (by omega) i1,Int.mul_le_mul_of_nonneg_left i2 (by omega)⟩
     | cons w c=>
       rw[cntP_dc hd];have hF:∀k:Nat,k<6→0≤cntW x r B w c k∧cntW x r B w c k≤bgAt B x.1.bag k*szP r (spB x b):=fun k hk=>by
        unfold cntW;have hbn:=bgAt_nn hB.nn x.1.bag k;split
        · split
          · exact hdr k c (by omega) (by omega)
          · exact⟨Int.le_refl _,Int.mul_nonneg hbn (by omega)⟩
        · exact hdr k (w::c) (by omega) (by omega)
       refine⟨nSum_nn fun k hk=>(hF k hk).1,?_⟩;have hle:∀j:Nat,j≤6→nSum j (cntW x r B w c)≤nSum j fun v=>bgAt B x.1.bag v*szP r (spB x b):=by
        intro j;induction j with
        | zero=>intro _;exact Int.le_refl _
        | succ j ih=> intro hj;have:=ih (by omega);have:=(hF j (by omega)).2;rw[nSum,nSum];omega
       have h6:=hle 6 (Nat.le_refl _);rw[nSum_mulr,hB.s x.1.bag hb] at h6;exact h6
   · have hdf:x.2.1=false:=by simpa using hd
     have hB2:=hB.mix ht.l hn hx hdf;rw[if_neg hd,Int.one_mul];by_cases hc:x.2.2=true
     · cases c with
       | nil=>rw[cntP_pn hd hc];exact cntP_bd hn [] ht2 hr.2 hB2
       | cons w c=>
         rw[cntP_pc hd hc];split
         · exact cntP_bd hn c ht2 hr.2 hB2
         · exact⟨Int.le_refl _,by omega⟩
     · rw[cntP_m hd hc];exact cntP_bd hn c ht2 hr.2 hB2
theorem cntW_bd{n:Nat}(hn:n≤6){x:Sp}{r:List Sp}{b:List Int}{m:Int}{B:List Int}(ht:tbIn b m)(hr:runOK n (x::r) b m)(hB:bgT n b B)(hd:x.2.1=true)(w:Int)(c:List Int):(∀k:Nat,k<6→0≤cntW x r B w c k)∧ ∀k:Nat,k≤6→0≤nSum k (cntW x r B w c)∧nSum k (cntW x r B w c)≤479001600:=by
 have hx:=hr.1;obtain⟨hb,ha⟩:=hx.d hd;have ht2:=(ht.step hx).1;have e:spB x b=setI b x.1.bag (atI b x.1.bag+ -1):=by unfold spB;rw[if_pos hd]
 have hF:∀k:Nat,k<6→0≤cntW x r B w c k:=fun k hk=>by
  have hdr:∀(c:List Int),0≤bgAt B x.1.bag k*cntP r c (drawB B x.1.bag k):=fun c=>by
   by_cases h0:bgAt B x.1.bag k=0
   · rw[h0,Int.zero_mul];exact Int.le_refl _
   · have hp:=bgAt_nn hB.nn x.1.bag k;have hB2:=hB.draw ht.l hn hb (w:=(k:Int)) (by omega) (by omega);exact Int.mul_nonneg hp (cntP_bd hn c ht2 hr.2 (by rw[e];exact hB2)).1
  unfold cntW;split
  · split
    · exact hdr c
    · exact Int.le_refl _
  · exact hdr _
 refine⟨hF,fun k hk=>⟨nSum_nn fun j hj=>hF j (by omega),?_⟩⟩;have h1:=nSum_mono (n:=6) hF hk;have h2:=(cntP_bd hn (w::c) ht hr hB).2;rw[cntP_dc hd] at h2;have:=(szP_bd ht hr).2;omega
def ir193:IFn:= ⟨123,[(6,none)],(sO [oo 4 (.box 24 1),oM 6 (kI 0)] (.seq (sO [oM 11 0,oN 12 11,oB 13 .eql 12 (kI 0)] (.cnd 13 (sO [oM 6 (kI 1)] .ret) .skip)) (sO [oM 14 0,oo 15 (.ixA 5 14 (kI 0)),oo 16 (.ld 5 true 15),oo 7 (.new [z0,z0,z0,z0,z0]),oS 5 7 16] (.seq (.blk 0 (sO [oo 18 (.ld 5 true 7),oC 19 89 [18],oo 20 (.not 19),oM 21 20,⟨(some 22),(some (21,true)),(.flA 0 7)⟩,⟨(some 23),(some (21,true)),(.ld 1 false 22)⟩,⟨(some 24),(some (21,true)),(.bin .neq 23 (kI 6))⟩,oo 25 (.pick 21 24 (kB false)),oM 17 25] (.cnd 17 (sO [oM 26 0,oo 27 (.slS 5 26 (some (kI 1)) none none),oo 28 (.ld 24 true 4),oo 29 (.ld 5 true 7),oM 31 2,oC 30 92 [28,29],oC 32 193 [27,30,31],oM 6 32] .ret) (sO [oF 34 0 7,oL 35 34,oB 36 .eql 35 (kI 6),oM 37 36,⟨(some 38),(some (37,true)),(.mov 2)⟩,⟨(some 39),(some (37,true)),(.len false 38)⟩,⟨(some 40),(some (37,true)),(.bin .eql 39 (kI 0))⟩,oo 41 (.pick 37 40 (kB false)),oM 33 41] (.cnd 33 (sO [oM 42 0,oo 43 (.slS 5 42 (some (kI 1)) none none),oo 44 (.ld 24 true 4),oC 45 193 [43,44,(.k .nsl)],oM 6 45] .ret) (sO [oF 47 0 7,oL 48 47,oB 49 .eql 48 (kI 6),oM 46 49] (.cnd 46 (.seq (sO [oM 50 2,oo 51 (.ixA 1 50 (kI 0)),oL 52 51,oF 53 3 7,oL 54 53,oB 55 .neq 52 54] (.cnd 55 (sO [oM 6 (kI 0)] .ret) .skip)) (sO [oM 56 0,oo 57 (.slS 5 56 (some (kI 1)) none none),oo 58 (.ld 24 true 4),oM 59 2,oo 60 (.slS 1 59 (some (kI 1)) none none),oC 61 193 [57,58,60],oM 6 61] .ret)) (sO [oM 63 2,oN 64 63,oB 65 .eql 64 (kI 0),oM 62 65] (.cnd 62 (sO [oo 66 (.ld 24 true 4),oF 67 1 7,oL 68 67,oM 70 0,oo 71 (.slS 5 70 (some (kI 1)) none none),oo 72 (.ld 24 true 4),oF 73 1 7,oL 74 73,oo 75 (.ld 24 true 4),oF 76 1 7,oL 77 76,oC 69 147 [66,68],⟨none,none,(.chk 24 true 4 72)⟩,oK 73 74,⟨none,none,(.chk 24 true 4 75)⟩,oK 76 77,oC 78 90 [75,77,(kI 0)],⟨none,none,(.chk 24 true 4 72)⟩,oK 73 74,oC 79 91 [72,74,78],oC 80 193 [71,79,(.k .nsl)],oB 81 .mul 69 80,oM 6 81] .ret) .skip))))))))) (sO [oM 8 (kI 0)] (.seq (sO [oM 9 (kI 0)] (.blk 1 (.loop (.seq (sO [oM 82 9,oB 83 .lss 82 (kI 6)] (.cnd 83 .skip (.exit 1))) (.seq (.blk 2 (.seq (sO [oF 86 1 7,oL 87 86,oM 88 9,oo 89 (.ixAr 4 6 4 87),oo 90 (.ixAr 6 1 89 88),oL 91 90,oB 92 .eql 91 (kI 0)] (.cnd 92 (.exit 2) .skip)) (sO [oM 93 2,oM 10 93] (.seq (sO [oF 94 0 7,oL 95 94,oB 96 .eql 95 (kI 5)] (.cnd 96 (.seq (sO [oM 97 9,oM 98 2,oo 99 (.ixA 1 98 (kI 0)),oL 100 99,oB 101 .neq 97 100] (.cnd 101 (.exit 2) .skip)) (.ops [oM 102 2,oo 103 (.slS 1 102 (some (kI 1)) none none),oM 10 103])) .skip)) (.ops [oM 104 8,oF 105 1 7,oL 106 105,oM 107 9,oo 108 (.ixAr 4 6 4 106),oo 109 (.ixAr 6 1 108 107),oL 110 109,oM 111 0,oo 112 (.slS 5 111 (some (kI 1)) none none),oo 113 (.ld 24 true 4),oF 114 1 7,oL 115 114,oM 116 9,oM 118 10,oC 117 91 [113,115,116],oK 105 106,oK 109 110,oC 119 193 [112,117,118],oK 105 106,oK 109 110,oB 120 .mul 110 119,oB 121 .add 104 120,oM 8 121]))))) (.ops [oM 84 9,oB 85 .add 84 (kI 1),oM 9 85])))))) (sO [oM 122 8,oM 6 122] .ret)))))))⟩
def CV(a:AV)(c:List Int):Prop:=(a= .nsl∧c=[])∨a= .slc 1 (iR c) .non
theorem ACall.cnt{P:Program}{f:Nat}{B:List Int}{a0 a0' a1 a1':AV}{r:Int}{σ:Sig}{d:Nat}{Q:AV→Sig→Prop}(h:Fn0 P f [a0,bgV B,a1] (fun a=>a= .int .i64 r))(ha:a0=ren [] a0')(hb:a1=ren [] a1')(hQ:Q (.int .i64 r) σ):ACall P f [a0',bgV B,a1'] σ d Q:=
 ACall.val h (by show[a0,bgV B,a1]=[ren [] a0',ren [] (bgV B),ren [] a1'];rw[ren_bg,ha,hb]) rfl hQ
section
variable {P:Program} {K:(Nat→AV)→Sig→Prop} {e:Nat→AV} {σ:Sig} {x h:IOpd} {r:List IStep}
theorem w_slT{α:Type}{f:α→List AV}{l:List α}{p:α}{d sz:Nat}{t:Tag}(hx:x.ev e= .slc sz ((p::l).map f) t)(hk:stepsW P r K (upd e d (.slc sz (l.map f) .non)) σ):stepsW P (⟨some d,none,.slS sz x (some (.k (.int .i64 1))) none none⟩::r) K e σ:=by
 refine w_slM (a:=1) (b:=((p::l).length:Int)) hx rfl rfl ⟨by decide,by rw[List.length_cons];omega,Int.le_refl _⟩ ?_;have e1:((p::l).drop (1:Int).toNat).take (((p::l).length:Int)-1).toNat=l:=by
  show l.take _=l
  exact List.take_of_length_le (by rw[List.length_cons];omega)
 rw[e1];exact hk
theorem w_chkAt{i g off t:Nat}{cs:List AV}{a:AV}(hx:x.ev e= .ref i g off)(hσ:σ i=(g,.row cs))(hc:cs[off]?=some a)(hf:forceA a=some a)(ht:e t=a)(hk:stepsW P r K e σ):stepsW P (⟨none,none,.chk 1 false x t⟩::r) K e σ:=by
 refine w_det0 (p:=(g=g∧True)∧a=e t) (v:= .junk) (σ':=σ) (fun _=>?_) ⟨⟨rfl,trivial⟩,ht.symm⟩ hk;show (match ldO 1 false σ (x.ev e) with
  | some (p,v)=>some (p∧v=e t,AV.junk,σ)
  | none=>none)=_
 rw[hx];simp only[ldO,hσ,partO,hc,hf,liftV,okV]
theorem w_chkEl{i g off t p:Nat}{B:List Int}(hx:x.ev e= .ref i g off)(ho:off=p)(hσ:σ i=(g,.row (nI B)))(hp:p<B.length)(ht:e t= .int .i64 (B.getD p 0))(hk:stepsW P r K e σ):stepsW P (⟨none,none,.chk 1 false x t⟩::r) K e σ:=
 w_chkAt hx hσ (by rw[ho];exact nI_get hp) rfl ht hk
end
theorem rcount_c(n:Nat)(hn:n≤6):∀(A:List Dl) (b:List Int) (m:Int) (B c:List Int) (a:AV),CV a c→tbIn b m→runOK n (A.map spOf) b m→bgT n b B→A.length<1000→c.length<1000→FV 193 [.slc 5 (dlR A) .non,bgV B,a] (.int .i64 (cntP (A.map spOf) c B))
 | [],b,m,B,c,a,hc,ht,hr,hB,hA,hcl=>by
   have hz:([]:List Dl).length=0:=rfl;have hl:=hB.l;rcases hc with⟨rfl,rfl⟩|rfl
   all_goals
    refine wk ir193 Tryz.func193 ?_;unfold ir193
    repeat' (first|refine aR ?_|(first|(refine w_boxN rfl hl ?_;intro g2))|refine aX ?_|with_reducible intro _|refine aP ?_ ?_)
    all_goals first|(exfalso;omega)|rfl
 | d::A,b,m,B,c,a,hc,ht,hr,hB,hA,hcl=>by
   have hl:=hB.l;have hin:=hB.bgin ht;have hx:=hr.1;have ht2:=(ht.step hx).1;have hds:=rdraws_c d;have hm:=ht.m;have hbd:=cntP_bd hn c ht hr hB;have hsb:=szP_bd ht hr;have hsb2:=szP_bd ht2 hr.2;have hcls:(d::A).length=A.length+1:=rfl;have hmap:(d::A).map spOf=spOf d::A.map spOf:=rfl;rw[hmap] at hbd hsb ⊢;have hs1:(spOf d).2.1=drawsB d:=rfl;have hs2:(spOf d).2.2=(decide (d.kind=5) || decide (d.kind=6)):=rfl;cases hdb:drawsB d with
   | false=>
     have hk:¬(d.kind=4∨d.kind=5):=by simpa[drawsB] using hdb
     have hnd:¬(spOf d).2.1=true:=by rw[hs1,hdb];decide
     rw[hdb] at hds;have hB2:=hB.mix ht.l hn hx (by rw[hs1,hdb]);by_cases h6:d.kind=6
     · have hce:(spOf d).2.2=true:=by rw[hs2];simp[h6]
       have hmx:mixedB (spOf d).1 B=B:=by show mixedB d B=B;unfold mixedB;rw[if_neg (by omega),if_neg (by omega)]
       rw[hmx] at hB2;cases c with
       | nil=>
         rw[cntP_pn hnd hce,hmx];have ih:=rcount_c n hn A _ _ B [] .nsl (.inl ⟨rfl,rfl⟩) ht2 hr.2 hB2 (by omega) hcl;have hz:([]:List Int).length=0:=rfl;rcases hc with⟨rfl,-⟩|rfl
         all_goals
          refine wk ir193 Tryz.func193 ?_;unfold ir193
          repeat' (first|refine aR ?_|(first|(refine w_boxN rfl hl ?_;intro g2)|refine w_ixP (f:=fun d:Dl=>[AV.int .i64 d.kind,.int .i64 d.bag,.int .i64 d.other,.int .i64 d.wood,.int .i64 d.count]) (l:=d::A) (pre:=[]) (y:=d) (post:=A) rfl rfl rfl ?_|refine w_ldN rfl rfl hl ?_|refine w_slT (f:=fun d:Dl=>[AV.int .i64 d.kind,.int .i64 d.bag,.int .i64 d.other,.int .i64 d.wood,.int .i64 d.count]) rfl ?_)|((with_reducible refine aC ?_);first|refine aV hds ?_|(refine ACall.cnt ih rfl rfl ?_))|refine aX ?_|with_reducible intro _|refine aP ?_ ?_)
          all_goals first|(exfalso;omega)|rfl
       | cons w c=>
         rw[cntP_pc hnd hce,hmx];have ih:=rcount_c n hn A _ _ B c _ (.inr rfl) ht2 hr.2 hB2 (by omega) (by rw[List.length_cons] at hcl;omega);rcases hc with⟨-,h⟩|rfl
         · cases h
         have hz:(iR (w::c)).length=c.length+1:=by rw[List.length_map];rfl
         have hz2:(w::c).length=c.length+1:=rfl;by_cases hw:w=(spOf d).1.wood
         · rw[if_pos hw];change w=d.wood at hw;refine wk ir193 Tryz.func193 ?_;unfold ir193
           repeat' (first|refine aR ?_|(first|(refine w_boxN rfl hl ?_;intro g2)|refine w_ixP (f:=fun d:Dl=>[AV.int .i64 d.kind,.int .i64 d.bag,.int .i64 d.other,.int .i64 d.wood,.int .i64 d.count]) (l:=d::A) (pre:=[]) (y:=d) (post:=A) rfl rfl rfl ?_|refine w_ixP (f:=fI) (l:=w::c) (pre:=[]) (y:=w) (post:=c) rfl rfl rfl ?_|refine w_ldN rfl rfl hl ?_|refine w_slT (f:=fun d:Dl=>[AV.int .i64 d.kind,.int .i64 d.bag,.int .i64 d.other,.int .i64 d.wood,.int .i64 d.count]) rfl ?_|refine w_sl1 rfl ?_)|((with_reducible refine aC ?_);first|refine aV hds ?_|(refine ACall.cnt ih rfl rfl ?_))|refine aX ?_|with_reducible intro _|refine aP ?_ ?_)
           all_goals exact aZ
         · rw[if_neg hw];change ¬w=d.wood at hw;refine wk ir193 Tryz.func193 ?_;unfold ir193
           repeat' (first|refine aR ?_|(first|(refine w_boxN rfl hl ?_;intro g2)|refine w_ixP (f:=fun d:Dl=>[AV.int .i64 d.kind,.int .i64 d.bag,.int .i64 d.other,.int .i64 d.wood,.int .i64 d.count]) (l:=d::A) (pre:=[]) (y:=d) (post:=A) rfl rfl rfl ?_|refine w_ixP (f:=fI) (l:=w::c) (pre:=[]) (y:=w) (post:=c) rfl rfl rfl ?_|refine w_ldN rfl rfl hl ?_)|((with_reducible refine aC ?_);first|refine aV hds ?_)|refine aX ?_|with_reducible intro _|refine aP ?_ ?_)
           all_goals exact aZ
     · have hce:¬(spOf d).2.2=true:=by rw[hs2];simp;omega
       rw[cntP_m hnd hce];have hrd:=rready_c d B hin (fun h2=>by obtain⟨q1,q2,q3,q4⟩:=hx.h2 (by rw[hs1,hdb]) h2;change 0≤d.wood∧d.wood<_ at q2;change 1≤d.count at q3;change m+d.count≤12 at q4;exact⟨q1,by omega,by omega⟩) (fun h3=>hx.h3 (by rw[hs1,hdb]) h3);have ih:=rcount_c n hn A _ _ (mixedB d B) c _ hc ht2 hr.2 hB2 (by omega) hcl;have hml:=hB2.l;change Fn0 Tryz.prog _ _ (fun v=>v= .int .i64 (cntP (A.map spOf) c (mixedB d B))) at ih;rcases hc with⟨rfl,-⟩|rfl
       all_goals
        refine wk ir193 Tryz.func193 ?_;unfold ir193
        repeat' (first|refine aR ?_|(first|(refine w_boxN rfl hl ?_;intro g2)|refine w_ixP (f:=fun d:Dl=>[AV.int .i64 d.kind,.int .i64 d.bag,.int .i64 d.other,.int .i64 d.wood,.int .i64 d.count]) (l:=d::A) (pre:=[]) (y:=d) (post:=A) rfl rfl rfl ?_|refine w_ldN rfl rfl hl ?_|refine w_slT (f:=fun d:Dl=>[AV.int .i64 d.kind,.int .i64 d.bag,.int .i64 d.other,.int .i64 d.wood,.int .i64 d.count]) rfl ?_)|((with_reducible refine aC ?_);first|refine aV hds ?_|(refine ACall.bgbg hrd rfl ?_)|(refine ACall.cnt ih rfl rfl ?_))|refine aX ?_|with_reducible intro _|refine aP ?_ ?_)
        all_goals first|(exfalso;omega)|rfl
   | true=>
     rw[hdb] at hds;have hd:(spOf d).2.1=true:=by rw[hs1,hdb]
     have hk:d.kind=4∨d.kind=5:=by simpa[drawsB] using hdb
     obtain⟨hb,ha⟩:=hx.d hd;have hsz1:=hB.size hb;have hle:=ht.le hb;have hsm:=ht.sm;change 0≤d.bag∧d.bag≤3 at hb;change 1≤atI b d.bag at ha;change bgSize B d.bag=atI b d.bag at hsz1;change atI b d.bag≤sumB b at hle;have hbe:spB (spOf d) b=setI b d.bag (atI b d.bag+ -1):=by unfold spB;rw[if_pos hd];rfl
     cases c with
     | nil=>
       have hr1:=rsize_c B hin d.bag hb;have hp0:0≤(0:Int)∧(0:Int)<bgSize B d.bag:=by omega
       obtain⟨hq,hq2⟩:=pickW_ok hp0.1 hp0.2;have hr2:=rwood_c B hin d.bag 0 hb hp0 (by decide);have hr3:=rwithout_c B hin d.bag (pickW B d.bag 0) hb hq;have hB2:=hB.draw ht.l hn hb hq hq2;rw[←hbe] at hB2;have ih:=rcount_c n hn A _ _ _ [] .nsl (.inl ⟨rfl,rfl⟩) ht2 hr.2 hB2 (by omega) hcl;rw[cntP_dn hd] at hbd ⊢;change 0≤bgSize B d.bag*cntP (A.map spOf) [] (drawB B d.bag (pickW B d.bag 0))∧bgSize B d.bag*cntP (A.map spOf) [] (drawB B d.bag (pickW B d.bag 0))≤_ at hbd;have hz:([]:List Int).length=0:=rfl;rcases hc with⟨rfl,-⟩|rfl
       all_goals
        refine wk ir193 Tryz.func193 ?_;unfold ir193
        repeat' (first|refine aR ?_|(first|(refine w_boxN rfl hl ?_;intro g2)|refine w_ixP (f:=fun d:Dl=>[AV.int .i64 d.kind,.int .i64 d.bag,.int .i64 d.other,.int .i64 d.wood,.int .i64 d.count]) (l:=d::A) (pre:=[]) (y:=d) (post:=A) rfl rfl rfl ?_|refine w_ldN rfl rfl hl ?_|refine w_chkN rfl rfl hl rfl ?_|refine w_slT (f:=fun d:Dl=>[AV.int .i64 d.kind,.int .i64 d.bag,.int .i64 d.other,.int .i64 d.wood,.int .i64 d.count]) rfl ?_)|((with_reducible refine aC ?_);first|refine aV hds ?_|(refine ACall.bg2i hr1 rfl ?_)|(refine ACall.bg2i hr2 rfl ?_)|(refine ACall.bg2b hr3 rfl ?_)|(refine ACall.cnt ih rfl rfl ?_))|refine aX ?_|with_reducible intro _|refine aP ?_ ?_)
        all_goals first|(exfalso;omega)|rfl
     | cons w c=>
       rcases hc with⟨-,h⟩|rfl
       · cases h
       have hz2:(w::c).length=c.length+1:=rfl;rw[cntP_dc hd];obtain⟨hF0,hFb⟩:=cntW_bd hn ht hr hB hd w c;obtain⟨F,hF⟩:∃F,cntW (spOf d) (A.map spOf) B w c=F:=⟨_,rfl⟩;rw[hF] at hF0 hFb ⊢;have hFv:∀v:Nat,F v=if d.kind=5 then (if (v:Int)=w then bgAt B d.bag v*cntP (A.map spOf) c (drawB B d.bag v) else 0) else bgAt B d.bag v*cntP (A.map spOf) (w::c) (drawB B d.bag v):=fun v=>by
        rw[←hF];unfold cntW;rw[hs2];by_cases h5:d.kind=5
        · rw[if_pos h5,if_pos (by simp[h5])];rfl
        · rw[if_neg h5,if_neg (by simp;omega)];rfl
       refine wk ir193 Tryz.func193 ?_;unfold ir193
       repeat' (first|refine aR ?_|(first|(refine w_boxN rfl hl ?_;intro g2)|refine w_ixP (f:=fun d:Dl=>[AV.int .i64 d.kind,.int .i64 d.bag,.int .i64 d.other,.int .i64 d.wood,.int .i64 d.count]) (l:=d::A) (pre:=[]) (y:=d) (post:=A) rfl rfl rfl ?_|refine w_ixP (f:=fI) (l:=w::c) (pre:=[]) (y:=w) (post:=c) rfl rfl rfl ?_|refine w_ldN rfl rfl hl ?_|refine w_chkN rfl rfl hl rfl ?_|refine w_slT (f:=fun d:Dl=>[AV.int .i64 d.kind,.int .i64 d.bag,.int .i64 d.other,.int .i64 d.wood,.int .i64 d.count]) rfl ?_|refine w_sl1 rfl ?_)|((with_reducible refine aC ?_);first|refine aV hds ?_)|refine aX ?_|with_reducible intro _|refine aP ?_ ?_)
       all_goals try (exfalso;omega)
       refine w_loopK [0,2,4,7] [4,7] (fun v:Nat=>v≤6) (fun v=>6-v) (fun v=>[(9,.int .i64 (v:Int)),(8,.int .i64 (nSum v F))]) (fun _=>[]) 0 (Nat.zero_le _) ⟨rfl,rfl,trivial⟩ trivial ?_;rintro v hv e σ;try dsimp only at hv ⊢
       by_cases hv6:v=6
       · subst hv6
         repeat' (first|refine aR ?_|refine aX ?_|with_reducible intro _|refine aP ?_ ?_)
         all_goals exact aZ
       have hfv:=hFv v;have hb1:=hFb v (by omega);have hb2:=hFb (v+1) (by omega);have hb3:=hF0 v (by omega);have hsuc:nSum (v+1) F=nSum v F+F v:=rfl;have hat:=hin.at (d.bag.toNat*6+v);have ho:0+d.bag.toNat*6+v*1=d.bag.toNat*6+v:=by omega
       have hpl2:d.bag.toNat*6+v<B.length:=by omega
       have hbv:bgAt B d.bag v=B.getD (d.bag.toNat*6+v) 0:=rfl;rw[hbv] at hfv;by_cases h0:B.getD (d.bag.toNat*6+v) 0=0
       · have hz0:F v=0:=by
          rw[hfv,h0];simp only[Int.zero_mul];split
          · split<;>rfl
          · rfl
         repeat' (first|refine aR ?_|(first|(refine w_boxN rfl hl ?_;intro g2)|refine w_ixP (f:=fun d:Dl=>[AV.int .i64 d.kind,.int .i64 d.bag,.int .i64 d.other,.int .i64 d.wood,.int .i64 d.count]) (l:=d::A) (pre:=[]) (y:=d) (post:=A) rfl rfl rfl ?_|refine w_ixP (f:=fI) (l:=w::c) (pre:=[]) (y:=w) (post:=c) rfl rfl rfl ?_|refine w_ldN rfl rfl hl ?_|refine w_chkN rfl rfl hl rfl ?_|refine w_slT (f:=fun d:Dl=>[AV.int .i64 d.kind,.int .i64 d.bag,.int .i64 d.other,.int .i64 d.wood,.int .i64 d.count]) rfl ?_|refine w_sl1 rfl ?_|refine w_ldEl rfl ho rfl hpl2 ?_|refine w_chkEl rfl ho rfl hpl2 rfl ?_)|refine aX ?_|with_reducible intro _|refine aP ?_ ?_)
         all_goals first|(exfalso;omega)|exact q_loop (v+1) (by show v+1≤6;omega) (by show 6-(v+1)<6-v;omega) ⟨int_eq (by simp),by show AV.int .i64 _=AV.int .i64 _;exact int_eq (by rw[hsuc,hz0];omega),trivial⟩ aS aK aK
       have hB2:=hB.draw ht.l hn hb (w:=(v:Int)) (by omega) (by omega);rw[←hbe] at hB2;have hr3:=rwithout_c B hin d.bag v hb (by omega);by_cases h5:d.kind=5
       · rw[if_pos h5] at hfv;by_cases hvw:(v:Int)=w
         · rw[if_pos hvw] at hfv;have ih:=rcount_c n hn A _ _ _ c _ (.inr rfl) ht2 hr.2 hB2 (by omega) (by omega);rw[hfv] at hb3 hsuc
           repeat' (first|refine aR ?_|(first|(refine w_boxN rfl hl ?_;intro g2)|refine w_ixP (f:=fun d:Dl=>[AV.int .i64 d.kind,.int .i64 d.bag,.int .i64 d.other,.int .i64 d.wood,.int .i64 d.count]) (l:=d::A) (pre:=[]) (y:=d) (post:=A) rfl rfl rfl ?_|refine w_ixP (f:=fI) (l:=w::c) (pre:=[]) (y:=w) (post:=c) rfl rfl rfl ?_|refine w_ldN rfl rfl hl ?_|refine w_chkN rfl rfl hl rfl ?_|refine w_slT (f:=fun d:Dl=>[AV.int .i64 d.kind,.int .i64 d.bag,.int .i64 d.other,.int .i64 d.wood,.int .i64 d.count]) rfl ?_|refine w_sl1 rfl ?_|refine w_ldEl rfl ho rfl hpl2 ?_|refine w_chkEl rfl ho rfl hpl2 rfl ?_)|((with_reducible refine aC ?_);first|(refine ACall.bg2b hr3 rfl ?_)|(refine ACall.cnt ih rfl rfl ?_))|refine aX ?_|with_reducible intro _|refine aP ?_ ?_)
           all_goals first|(exfalso;omega)|exact q_loop (v+1) (by show v+1≤6;omega) (by show 6-(v+1)<6-v;omega) ⟨int_eq (by simp),by show AV.int .i64 _=AV.int .i64 _;exact int_eq hsuc.symm,trivial⟩ aS aK aK
         · rw[if_neg hvw] at hfv
           repeat' (first|refine aR ?_|(first|(refine w_boxN rfl hl ?_;intro g2)|refine w_ixP (f:=fun d:Dl=>[AV.int .i64 d.kind,.int .i64 d.bag,.int .i64 d.other,.int .i64 d.wood,.int .i64 d.count]) (l:=d::A) (pre:=[]) (y:=d) (post:=A) rfl rfl rfl ?_|refine w_ixP (f:=fI) (l:=w::c) (pre:=[]) (y:=w) (post:=c) rfl rfl rfl ?_|refine w_ldN rfl rfl hl ?_|refine w_chkN rfl rfl hl rfl ?_|refine w_slT (f:=fun d:Dl=>[AV.int .i64 d.kind,.int .i64 d.bag,.int .i64 d.other,.int .i64 d.wood,.int .i64 d.count]) rfl ?_|refine w_sl1 rfl ?_|refine w_ldEl rfl ho rfl hpl2 ?_|refine w_chkEl rfl ho rfl hpl2 rfl ?_)|refine aX ?_|with_reducible intro _|refine aP ?_ ?_)
           all_goals first|(exfalso;omega)|exact q_loop (v+1) (by show v+1≤6;omega) (by show 6-(v+1)<6-v;omega) ⟨int_eq (by simp),by show AV.int .i64 _=AV.int .i64 _;exact int_eq (by rw[hsuc,hfv];omega),trivial⟩ aS aK aK
       · rw[if_neg h5] at hfv;have ih:=rcount_c n hn A _ _ _ (w::c) _ (.inr rfl) ht2 hr.2 hB2 (by omega) (by omega);rw[hfv] at hb3 hsuc
         repeat' (first|refine aR ?_|(first|(refine w_boxN rfl hl ?_;intro g2)|refine w_ixP (f:=fun d:Dl=>[AV.int .i64 d.kind,.int .i64 d.bag,.int .i64 d.other,.int .i64 d.wood,.int .i64 d.count]) (l:=d::A) (pre:=[]) (y:=d) (post:=A) rfl rfl rfl ?_|refine w_ixP (f:=fI) (l:=w::c) (pre:=[]) (y:=w) (post:=c) rfl rfl rfl ?_|refine w_ldN rfl rfl hl ?_|refine w_chkN rfl rfl hl rfl ?_|refine w_slT (f:=fun d:Dl=>[AV.int .i64 d.kind,.int .i64 d.bag,.int .i64 d.other,.int .i64 d.wood,.int .i64 d.count]) rfl ?_|refine w_sl1 rfl ?_|refine w_ldEl rfl ho rfl hpl2 ?_|refine w_chkEl rfl ho rfl hpl2 rfl ?_)|((with_reducible refine aC ?_);first|(refine ACall.bg2b hr3 rfl ?_)|(refine ACall.cnt ih rfl rfl ?_))|refine aX ?_|with_reducible intro _|refine aP ?_ ?_)
         all_goals first|(exfalso;omega)|exact q_loop (v+1) (by show v+1≤6;omega) (by show 6-(v+1)<6-v;omega) ⟨int_eq (by simp),by show AV.int .i64 _=AV.int .i64 _;exact int_eq hsuc.symm,trivial⟩ aS aK aK
theorem mid_get(q0:List Int)(p:Int)(r:List Int):(q0++p::r).getD q0.length 0=p:=by rw[List.getD_eq_getElem?_getD,List.getElem?_append_right (Nat.le_refl _),Nat.sub_self];rfl
theorem allL_len(n:Nat):∀k:Nat,(allL n k).length=n^k
 | 0=>rfl
 | k+1=>by
   rw[allL,List.length_flatMap];have:(List.range n).map (fun (w:Nat)=>((allL n k).map fun l=>(w:Int)::l).length)=(List.range n).map fun _=>n^k:=by refine List.map_congr_left fun w _=>?_;rw[List.length_map,allL_len n k]
   rw[this,List.map_const',List.length_range,List.sum_replicate_nat,Nat.pow_succ,Nat.mul_comm]
theorem crsO_ok{X:Gm}(hX:gmErr X=0){a b:Nat}(hn:X.ws.length≤a)(hc:censG (stepsG X.ds)≤b)(h:a^b≤5000):crsO X=(crsG X,0):=by
 have h1:=gm_ok hX;have hl:(crsG X).length≤X.ws.length^censG (stepsG X.ds):=by rw[crsG_list h1,List.length_map];refine Nat.le_trans (List.length_filter_le _ _) ?_;rw[allL_len];exact Nat.le_refl _
 have h2:X.ws.length^censG (stepsG X.ds)≤a^censG (stepsG X.ds):=Nat.pow_le_pow_left hn _;have h3:a^censG (stepsG X.ds)≤a^b:=Nat.pow_le_pow_right (by have:=h1.n1;omega) hc;unfold crsO;rw[if_pos hX,if_pos (by omega)]
def ir148:IFn:= ⟨2,[(0,none)],(sO [oM 0 (.k .nsl)] (sO [oo 1 (.bsl 1 [[(.str ByteArray.empty)],[(.str ByteArray.empty)],[(.str ByteArray.empty)],[(.str ByteArray.empty)],[(.str ByteArray.empty)],[(.str ByteArray.empty)]] [(0,(.k (.str ⟨#[107,121,97,114,97]⟩))),(1,(.k (.str ⟨#[114,97,107,111,107,117]⟩))),(2,(.k (.str ⟨#[109,97,110,97,98,97,110]⟩))),(3,(.k (.str ⟨#[115,111,114,97]⟩))),(4,(.k (.str ⟨#[98]⟩))),(5,(.k (.str ⟨#[97,98,99,100,101,102,103,104]⟩)))]),oM 0 1] .ret))⟩
def ir86:IFn:= ⟨26,[(4,none)],(sO [oM 4 (.k .nsl)] (sO [oo 5 (.nil 2 5)] (.seq (sO [oM 7 0,oM 8 1,oC 9 37 [7,(kI 1),8],oM 6 9] (.blk 0 (.loop (.seq (sO [oM 10 6,oB 11 .gtr 10 (kI 0)] (.cnd 11 .skip (.exit 0))) (.seq (.blk 1 (.ops [oM 14 5,oM 16 5,oN 17 16,oM 20 0,oC 15 148 [],oA 18 1 15 17,oL 19 18,oC 21 38 [20,(kI 10)],oK 18 19,oo 22 (.bld [(.str ByteArray.empty),z0] [(0,1,19),(1,1,21)]),oo 23 (.bsl 2 [[(.str ByteArray.empty),z0]] [(0,22)]),oo 24 (.app 2 24 14 23 5),oM 5 24])) (.ops [oM 12 6,oB 13 .sub 12 (kI 1),oM 6 13])))))) (sO [oM 25 5,oM 4 25] .ret))))⟩
def hint86(P:Program):Hint:={site:=[(24,5)],nils:=[(5,2)],frz:=[],mve:=[],wr:=[] }
def ir71:IFn:= ⟨12,[(2,some (2,true))],(sO [oo 1 (.box 2 0),oo 2 (.new [.nsl,.nsl])] (sO [oo 3 (.bsl 2 [] []),oF 4 0 1,oL 5 4,oo 7 (.bsl 5 [] []),oF 8 1 1,oL 9 8,oo 6 (.app 2 24 3 5 6),oK 8 9,oo 10 (.app 5 40 7 9 10),oo 11 (.bld [.nsl,.nsl] [(0,1,6),(1,1,10)]),oS 2 2 11] .ret))⟩
abbrev nmR(l:List ByteArray):List (List AV):=l.map fun s=>[.str s]
def woodNs:List ByteArray:=[⟨#[107,121,97,114,97]⟩,⟨#[114,97,107,111,107,117]⟩,⟨#[109,97,110,97,98,97,110]⟩,⟨#[115,111,114,97]⟩,⟨#[98]⟩,⟨#[97,98,99,100,101,102,103,104]⟩]
theorem woodNames_c:FV 148 [] (.slc 1 (nmR woodNs) .non):=by
 refine wk ir148 Tryz.func148 ?_;unfold ir148
 repeat' (first|refine aR ?_|refine aX ?_|with_reducible intro _|refine aP ?_ ?_)
 rfl
theorem woodNs_ok:woodNs.Nodup∧ ∀s∈woodNs,namedB s=true∧s.size≤8:=by decide
theorem wsErr_zero:∀{post pre:List Wd},(∀w∈post,namedB w.name=true∧inB w.fam 0 9=true)→((pre++post).map (·.name)).Nodup→wsErr pre post=0
 | [],_,_,_=>rfl
 | w::post,pre,h,hn=>by
   have h1:pre.any (fun x=>decide (x.name=w.name))=false:=by rw[List.any_eq_false];intro x hx;simp only[decide_eq_true_eq];intro he;rw[List.map_append,List.nodup_append] at hn;exact hn.2.2 _ (List.mem_map.2 ⟨x,hx,rfl⟩) _ (List.mem_map.2 ⟨w,by simp,rfl⟩) he
   obtain⟨h2,h3⟩:=h w (by simp);rw[wsErr,if_pos h2,if_neg (by rw[h1];simp),if_pos h3];exact wsErr_zero (fun x hx=>h x (by simp[hx])) (by simpa using hn)
def madeW(ws:List Wd):Prop:=ws.map (·.name)=woodNs.take ws.length∧ ∀w∈ws,inB w.fam 0 9=true
theorem madeW_ok{ws:List Wd}(h:madeW ws):wsErr [] ws=0∧ ∀w∈ws,w.name.size≤8:=by have hm:∀w∈ws,w.name∈woodNs:=fun w hw=>List.mem_of_mem_take (h.1▸List.mem_map.2 ⟨w,hw,rfl⟩);refine⟨wsErr_zero (fun w hw=>⟨(woodNs_ok.2 _ (hm w hw)).1,h.2 w hw⟩) ?_,fun w hw=>(woodNs_ok.2 _ (hm w hw)).2⟩;rw[List.nil_append,h.1];exact (List.take_sublist _ _).nodup woodNs_ok.1
theorem madeW_snoc{ws:List Wd}{w:Wd}(h:madeW ws)(hn:woodNs[ws.length]?=some w.name)(hf:inB w.fam 0 9=true):madeW (ws++[w]):=by
 refine⟨?_,fun x hx=>?_⟩
 · rw[List.map_append,h.1,len_snoc,List.take_add_one,hn];rfl
 · rcases List.mem_append.1 hx with hx | hx
   · exact h.2 x hx
   · simp at hx;subst hx;exact hf
theorem woodsOf_c(g:Nat)(w most:Int)(hm:1≤most∧most≤6):RawC Tryz.prog 86 [.ref 1000 g 0,.int .i64 most] (BoxS g w) (BoxR g fun av=>∃ws,av= .slc 2 (wR ws) .non∧madeW ws∧1≤ws.length∧(ws.length:Int)≤most):=by
 refine RawC.walk (H:=hint86 Tryz.prog) ir86 Tryz.func86 rfl rfl rfl ?_;unfold ir86
 repeat' (first|refine aR ?_|with_reducible refine zI fun y hy=>?_|((with_reducible refine aC ?_);first|(refine ACall.box (any_c _ _ _ _ (by omega) (by omega) (by omega) (by omega)) rfl rfl rfl ?_;rintro _ _ ⟨k,rfl,hk1,hk2⟩))|refine aX ?_|with_reducible intro _|with_reducible refine zJ ?_ fun y hy=>?_|refine aP ?_ ?_)
 rename_i g0 w0
 refine w_loopK [0] [] (fun x:List Wd×Nat×Int×Nat=>madeW x.1∧(x.1.length:Int)+x.2.2.2=k) (fun x=>x.2.2.2) (fun x=>[(6,.int .i64 (x.2.2.2:Int)),(5,.slc 2 (wR x.1) (.own 5 x.2.1))])
  (fun x=>[(5,(x.2.1,.row [])),(1000,(g,.row [.int .u64 x.2.2.1]))]) ([],g0,w0,k.toNat) ⟨⟨rfl,by simp⟩,by show ((0:Nat):Int)+(k.toNat:Nat)=k;omega⟩ ⟨int_eq (by show k=((k.toNat:Nat):Int);omega),rfl,trivial⟩ ⟨rfl,rfl,trivial⟩ ?_
 rintro⟨ws,g5,w,j⟩ ⟨hg,hl⟩ e σ;dsimp only at hg hl ⊢;have hnl:woodNs.length=6:=rfl;cases j with
 | zero=>
   repeat' (first|refine aR ?_|with_reducible refine zI fun y hy=>?_|refine aX ?_|with_reducible intro _|with_reducible refine zJ ?_ fun y hy=>?_|refine aP ?_ ?_)
   all_goals first|(exfalso;omega)|exact⟨_,⟨ws,rfl,hg,by omega,by omega⟩,rfl⟩
 | succ j=>
   repeat' (first|refine aR ?_|with_reducible refine zI fun y hy=>?_|((with_reducible refine aC ?_);first|refine aV woodNames_c ?_|(refine ACall.box (upp_c _ _ _ (by omega) (by omega)) rfl rfl rfl ?_;rintro _ _ ⟨a,rfl,ha1,ha2⟩))|refine aX ?_|with_reducible intro _|with_reducible refine zJ ?_ fun y hy=>?_|refine aP ?_ ?_)
   all_goals try (exfalso;omega)
   rename_i w2 g6;refine q_loop (ws++[⟨y,a⟩],g6,w2,j) ?_ ?_ ⟨int_eq (by simp),congrArg (fun z=>AV.slc 2 z (.own 5 g6)) (map_snoc (f:=fun w:Wd=>[AV.str w.name,AV.int .i64 w.fam]) (x:=⟨y,a⟩)).symm,trivial⟩ ⟨rfl,rfl,trivial⟩ aK aK
   · exact⟨madeW_snoc hg (by simpa using hy) (inB_t.2 (by dsimp only;omega)),by dsimp only;rw[len_snoc];omega⟩
   · exact Nat.lt_succ_self j
theorem ownGame_c(G:Gm)(hw:G.ws.length≤1000000)(hd:G.ds.length≤1000000):FV 71 [gmA G] (gmA G):=by
 have h1:(wR G.ws).length=G.ws.length:=by simp
 have h2:(dlR G.ds).length=G.ds.length:=by simp
 refine wk ir71 Tryz.func71 ?_;unfold ir71
 repeat' (first|refine aR ?_|refine aX ?_|with_reducible intro _|refine aP ?_ ?_)
 all_goals first|rfl
def ir87:IFn:= ⟨15,[(6,none)],(sO [oM 6 (kB false)] (sO [oM 7 0,oM 8 1,oB 9 .geq 7 8,oM 10 9,⟨(some 11),(some (10,true)),(.mov 0)⟩,⟨(some 12),(some (10,true)),(.mov 2)⟩,⟨(some 13),(some (10,true)),(.bin .leq 11 12)⟩,oo 14 (.pick 10 13 (kB false)),oM 6 14] .ret))⟩
def ir195:IFn:= ⟨28,[(2,none)],(sO [oM 2 (kB false)] (.seq (sO [oM 3 (kI 0)] (.blk 0 (.loop (.seq (sO [oM 4 3,oM 5 0,oo 6 (.len true 5),oB 7 .lss 4 6] (.cnd 7 .skip (.exit 0))) (.seq (.blk 1 (sO [oM 10 0,oM 11 3,oo 12 (.ixS 10 11),oo 13 (.bin .lss 12 (.k (.int .u8 97))),oM 14 13,⟨(some 15),(some (14,false)),(.mov 0)⟩,⟨(some 16),(some (14,false)),(.mov 3)⟩,⟨(some 17),(some (14,false)),(.ixS 15 16)⟩,⟨(some 18),(some (14,false)),(.bin .gtr 17 (.k (.int .u8 122)))⟩,oo 19 (.pick 14 (kB true) 18)] (.cnd 19 (sO [oM 2 (kB false)] .ret) .skip))) (.ops [oM 8 3,oB 9 .add 8 (kI 1),oM 3 9])))))) (sO [oM 20 0,oo 21 (.len true 20),oB 22 .geq 21 (kI 1),oM 23 22,⟨(some 24),(some (23,true)),(.mov 0)⟩,⟨(some 25),(some (23,true)),(.len true 24)⟩,⟨(some 26),(some (23,true)),(.bin .leq 25 (kI 8))⟩,oo 27 (.pick 23 26 (kB false)),oM 2 27] .ret)))⟩
def ir144:IFn:= ⟨47,[(2,none)],(sO [oM 2 (kI 0)] (.seq (sO [oM 5 0,oN 6 5,oB 7 .eql 6 (kI 0)] (.cnd 7 (sO [oM 2 (kI 6)] .ret) .skip)) (.seq (sO [oM 8 0,oN 9 8,oB 10 .gtr 9 (kI 6)] (.cnd 10 (sO [oM 2 (kI 8)] .ret) .skip)) (.seq (sO [oM 3 (kI 0)] (.blk 0 (.loop (.seq (sO [oM 11 3,oM 12 0,oN 13 12,oB 14 .lss 11 13] (.cnd 14 .skip (.exit 0))) (.seq (.blk 1 (.seq (sO [oM 17 0,oM 18 3,oA 19 2 17 18,oF 20 0 19,oL 21 20,oC 22 195 [21],oo 23 (.not 22)] (.cnd 23 (sO [oM 2 (kI 3)] .ret) .skip)) (.seq (sO [oM 4 (kI 0)] (.blk 2 (.loop (.seq (sO [oM 24 4,oM 25 3,oB 26 .lss 24 25] (.cnd 26 .skip (.exit 2))) (.seq (.blk 3 (sO [oM 29 0,oM 30 4,oA 31 2 29 30,oF 32 0 31,oL 33 32,oM 34 0,oM 35 3,oA 36 2 34 35,oF 37 0 36,oL 38 37,oB 39 .eql 33 38] (.cnd 39 (sO [oM 2 (kI 9)] .ret) .skip))) (.ops [oM 27 4,oB 28 .add 27 (kI 1),oM 4 28])))))) (sO [oM 40 0,oM 41 3,oA 42 2 40 41,oF 43 1 42,oL 44 43,oC 45 87 [44,(kI 0),(kI 9)],oo 46 (.not 45)] (.cnd 46 (sO [oM 2 (kI 2)] .ret) .skip))))) (.ops [oM 15 3,oB 16 .add 15 (kI 1),oM 3 16])))))) (sO [oM 2 (kI 0)] .ret)))))⟩
theorem rin_c(n a b:Int):FV 87 [.int .i64 n,.int .i64 a,.int .i64 b] (.bool (inB n a b)):=by
 by_cases h1:a≤n
 · by_cases h2:n≤b
   · have:inB n a b=true:=inB_t.2 ⟨h1,h2⟩;rw[this];refine wk ir87 Tryz.func87 ?_;unfold ir87
     repeat' (first|refine aR ?_|refine aX ?_|with_reducible intro _|refine aP ?_ ?_)
     all_goals first|(exfalso;omega)|exact congrArg AV.bool (decide_eq_true h2)
   · have:inB n a b=false:=inB_f.2 (by omega);rw[this];refine wk ir87 Tryz.func87 ?_;unfold ir87
     repeat' (first|refine aR ?_|refine aX ?_|with_reducible intro _|refine aP ?_ ?_)
     all_goals first|(exfalso;omega)|exact congrArg AV.bool (decide_eq_false h2)
 · have:inB n a b=false:=inB_f.2 (by omega);rw[this];refine wk ir87 Tryz.func87 ?_;unfold ir87
   repeat' (first|refine aR ?_|refine aX ?_|with_reducible intro _|refine aP ?_ ?_)
   all_goals first|rfl|(exfalso;omega)
theorem rnamed_c(s:ByteArray)(hs:s.size≤1000):FV 195 [.str s] (.bool (namedB s)):=by
 refine wk ir195 Tryz.func195 ?_;unfold ir195
 repeat' (first|refine aR ?_|with_reducible refine zI fun y hy=>?_|refine aX ?_|with_reducible intro _|with_reducible refine zJ ?_ fun y hy=>?_|refine aP ?_ ?_)
 have hsz:s.data.toList.length=s.size:=by simp
 refine w_loopK [0] [] (fun x:List UInt8×List UInt8=>s.data.toList=x.1++x.2∧x.1.all letB=true) (fun x=>x.2.length) (fun x=>[(3,.int .i64 x.1.length)]) (fun _=>[]) ([],s.data.toList) ⟨rfl,rfl⟩ ⟨rfl,trivial⟩ trivial ?_;rintro⟨pre,post⟩ ⟨hl,hb⟩ e σ;dsimp only at hl hb ⊢;have hlen:=congrArg List.length hl;cases post with
 | nil=>
   simp only[List.append_nil,List.length_append,List.length_nil] at hlen
   repeat' (first|refine aR ?_|with_reducible refine zI fun y hy=>?_|refine aX ?_|with_reducible intro _|with_reducible refine zJ ?_ fun y hy=>?_|refine aP ?_ ?_)
   · rename_i h1;refine congrArg AV.bool ?_;show decide ((s.size:Int)≤8)=_
     unfold namedB;rw[hl,List.append_nil,hb,Bool.and_true,Bool.eq_iff_iff,inB_t,decide_eq_true_eq];omega
   · rename_i h1;refine congrArg AV.bool ?_;unfold namedB;rw[hl,List.append_nil,hb,Bool.and_true];exact (inB_f.2 (by omega)).symm
 | cons c post=>
   simp only[List.length_append,List.length_cons] at hlen;have hn:letB c=decide (97≤(c.toNat:Int)∧(c.toNat:Int)≤122):=rfl;have hbad:letB c=false→namedB s=false:=fun h=>by unfold namedB;rw[hl];simp[h]
   have hg:s.data.toList.getD ((pre.length:Int)).toNat 0=c:=by rw[hl];simp
   repeat' (first|refine aR ?_|with_reducible refine zI fun y hy=>?_|refine aX ?_|with_reducible intro _|with_reducible refine zJ ?_ fun y hy=>?_|refine aP ?_ ?_)
   · rename_i h1;rw[hg] at h1;exact congrArg AV.bool (hbad (by rw[hn];simp;omega)).symm
   · rename_i h2 h1;rw[hg] at h1 h2;exact congrArg AV.bool (hbad (by rw[hn];simp;omega)).symm
   · rename_i h2 h1;rw[hg] at h1 h2;exact q_loop (pre++[c],post) ⟨by show s.data.toList=_;rw[hl];simp,by show (pre++[c]).all letB=true;rw[List.all_append,hb];simp[hn];omega⟩ (by simp) ⟨by rw[len_snoc];rfl,trivial⟩ aS aK aK
theorem checkWoods_c(ws:List Wd)(hw:ws.length<1000)(hs:∀w∈ws,w.name.size≤1000):FV 144 [.slc 2 (wR ws) .non] (.int .i64 (if ws=[] then 6 else if 6<ws.length then 8 else wsErr [] ws)):=by
 obtain⟨R,hR⟩:∃R,(if ws=[] then 6 else if 6<ws.length then 8 else wsErr [] ws)=R:=⟨_,rfl⟩;rw[hR];by_cases h0:ws=[]
 · rw[if_pos h0] at hR;subst h0 hR;have hz:([]:List Wd).length=0:=rfl;refine wk ir144 Tryz.func144 ?_;unfold ir144
   repeat' (first|refine aR ?_|with_reducible refine zI fun y hy=>?_|refine aX ?_|with_reducible intro _|with_reducible refine zJ ?_ fun y hy=>?_|refine aP ?_ ?_)
   all_goals exact aZ
 rw[if_neg h0] at hR;have hpos:0<ws.length:=List.length_pos_iff.2 h0;by_cases h6:6<ws.length
 · rw[if_pos h6] at hR;subst hR;refine wk ir144 Tryz.func144 ?_;unfold ir144
   repeat' (first|refine aR ?_|with_reducible refine zI fun y hy=>?_|refine aX ?_|with_reducible intro _|with_reducible refine zJ ?_ fun y hy=>?_|refine aP ?_ ?_)
   all_goals exact aZ
 rw[if_neg h6] at hR;refine wk ir144 Tryz.func144 ?_;unfold ir144
 repeat' (first|refine aR ?_|with_reducible refine zI fun y hy=>?_|refine aX ?_|with_reducible intro _|with_reducible refine zJ ?_ fun y hy=>?_|refine aP ?_ ?_)
 all_goals try (exfalso;omega)
 refine w_loopK [0] [] (fun x:List Wd×List Wd=>ws=x.1++x.2∧wsErr x.1 x.2=R) (fun x=>x.2.length) (fun x=>[(3,.int .i64 x.1.length)]) (fun _=>[]) ([],ws) ⟨rfl,hR⟩ ⟨rfl,trivial⟩ trivial ?_;rintro⟨pre,post⟩ ⟨hl,hb⟩ e σ;dsimp only at hl hb ⊢;have hlen:=congrArg List.length hl;rw[List.length_append] at hlen;cases post with
 | nil=>
   simp only[List.length_nil] at hlen;rw[wsErr] at hb;subst hb
   repeat' (first|refine aR ?_|with_reducible refine zI fun y hy=>?_|refine aX ?_|with_reducible intro _|with_reducible refine zJ ?_ fun y hy=>?_|refine aP ?_ ?_)
   all_goals first|(exfalso;omega)|rfl
 | cons w post=>
   simp only[List.length_cons] at hlen;have hnm:=rnamed_c w.name (hs w (by rw[hl];simp));have hrn:=rin_c w.fam 0 9;rw[wsErr] at hb;by_cases h1:namedB w.name=true
   · rw[if_pos h1] at hb;rw[h1] at hnm
     repeat' (first|refine aR ?_|(refine w_ixP (f:=fun w:Wd=>[AV.str w.name,.int .i64 w.fam]) hl rfl rfl ?_)|with_reducible refine zI fun y hy=>?_|((with_reducible refine aC ?_);first|refine aV hnm ?_)|refine aX ?_|with_reducible intro _|with_reducible refine zJ ?_ fun y hy=>?_|refine aP ?_ ?_)
     all_goals try (exfalso;omega)
     refine w_loopK [0,3] [] (fun x:List Wd×List Wd=>pre=x.1++x.2∧x.1.any (fun x=>decide (x.name=w.name))=false) (fun x=>x.2.length) (fun x=>[(4,.int .i64 x.1.length)]) (fun _=>[]) ([],pre) ⟨rfl,rfl⟩ ⟨rfl,trivial⟩ trivial ?_;rintro⟨p1,p2⟩ ⟨hp,ha⟩ e2 σ2;dsimp only at hp ha ⊢;have hpl:=congrArg List.length hp;rw[List.length_append] at hpl;cases p2 with
     | nil=>
       rw[List.append_nil] at hp;simp only[List.length_nil] at hpl;rw[hp,ha,if_neg Bool.false_ne_true,←hp] at hb;by_cases h2:inB w.fam 0 9=true
       · rw[if_pos h2] at hb;rw[h2] at hrn
         repeat' (first|refine aR ?_|(refine w_ixP (f:=fun w:Wd=>[AV.str w.name,.int .i64 w.fam]) hl rfl rfl ?_)|with_reducible refine zI fun y hy=>?_|((with_reducible refine aC ?_);first|refine aV hrn ?_)|refine aX ?_|with_reducible intro _|with_reducible refine zJ ?_ fun y hy=>?_|refine aP ?_ ?_)
         all_goals first|(exfalso;omega)|exact q_loop (pre++[w],post) ⟨by show ws=_;rw[hl];simp,hb⟩ (Nat.lt_succ_self _) ⟨by rw[len_snoc];rfl,trivial⟩ aS aK aK
       · rw[if_neg h2] at hb;subst hb;rw[show inB w.fam 0 9=false by simpa using h2] at hrn
         repeat' (first|refine aR ?_|(refine w_ixP (f:=fun w:Wd=>[AV.str w.name,.int .i64 w.fam]) hl rfl rfl ?_)|with_reducible refine zI fun y hy=>?_|((with_reducible refine aC ?_);first|refine aV hrn ?_)|refine aX ?_|with_reducible intro _|with_reducible refine zJ ?_ fun y hy=>?_|refine aP ?_ ?_)
         all_goals first|(exfalso;omega)|rfl
     | cons y p2=>
       simp only[List.length_cons] at hpl;have hl2:ws=p1++y::(p2++w::post):=by rw[hl,hp];simp
       by_cases hy:y.name=w.name
       · have hany:pre.any (fun x=>decide (x.name=w.name))=true:=by rw[hp];simp[hy]
         rw[if_pos hany] at hb;subst hb
         repeat' (first|refine aR ?_|(first|refine w_ixP (f:=fun w:Wd=>[AV.str w.name,.int .i64 w.fam]) hl rfl rfl ?_|refine w_ixP (f:=fun w:Wd=>[AV.str w.name,.int .i64 w.fam]) hl2 rfl rfl ?_)|with_reducible refine zI fun y hy=>?_|refine aX ?_|with_reducible intro _|with_reducible refine zJ ?_ fun y hy=>?_|refine aP ?_ ?_)
         all_goals first|(exfalso;omega)|(rename_i hne;exact absurd hy hne)|rfl
       · repeat' (first
          | with_reducible (first|refine Rd.p ?_|refine w_alt ?_ ?_|refine zE ?_|refine zE0 ?_)
          | (first|refine w_ixP (f:=fun w:Wd=>[AV.str w.name,.int .i64 w.fam]) hl rfl rfl ?_|refine w_ixP (f:=fun w:Wd=>[AV.str w.name,.int .i64 w.fam]) hl2 rfl rfl ?_)
          | with_reducible (first|refine zI fun y hy=>?_|refine zL ?_|refine zS ?_|refine zA fun _=>?_|refine zV ?_|refine zC ?_|refine zG ?_|refine zU ?_|refine zG0 ?_|refine zU0 ?_|refine zF ?_)
          | with_reducible (first|refine zX ?_|refine zD fun _=>?_|refine zD0 ?_|refine zN ?_|refine zF0 ?_|refine zX0 ?_|refine z1 ?_|refine z2 ?_|refine z3 ?_|refine z4 ?_|refine z5 ?_|refine z6 ?_|refine z7 ?_|refine z8 ?_|refine y1 ?_|refine y2 ?_|refine y3 ?_|refine y4 ?_|refine y5 ?_|refine y6 ?_|refine y7 ?_|refine y8 ?_|refine Rt.p (fun _=>?_) fun _=>?_)
          | ((with_reducible apply w_ixM);(focus exact rfl);(focus exact rfl);case' hk=>intro y hy)|((with_reducible (first | apply w_val | apply q_ends));(focus exact rfl)))
         all_goals first|(exfalso;omega)|(rename_i hne;exact absurd hne hy)|exact q_loop (p1++[y],p2) ⟨by show pre=_;rw[hp];simp,by show (p1++[y]).any _=false;rw[List.any_append,ha];simp[hy]⟩ (Nat.lt_succ_self _) ⟨by rw[len_snoc];rfl,trivial⟩ aS aK aK
   · rw[if_neg h1] at hb;subst hb;rw[show namedB w.name=false by simpa using h1] at hnm
     repeat' (first|refine aR ?_|(refine w_ixP (f:=fun w:Wd=>[AV.str w.name,.int .i64 w.fam]) hl rfl rfl ?_)|with_reducible refine zI fun y hy=>?_|((with_reducible refine aC ?_);first|refine aV hnm ?_)|refine aX ?_|with_reducible intro _|with_reducible refine zJ ?_ fun y hy=>?_|refine aP ?_ ?_)
     all_goals exact aZ
def ir145:IFn:= ⟨50,[(2,none)],(sO [oo 1 (.box 5 0),oM 2 (kB false)] (sO [oM 3 (kB true),oM 4 (kB false),oM 5 (kB false),oM 6 (kB false)] (.seq (sO [oF 7 0 1,oL 8 7] (.blk 0 (.seq (sO [oB 10 .eql 8 (kI 1),oM 9 10] (.cnd 9 .skip (.ops [oB 11 .eql 8 (kI 6),oM 9 11]))) (.cnd 9 (.ops [oM 3 (kB false),oM 5 (kB true)]) (sO [oB 13 .eql 8 (kI 2),oM 12 13] (.cnd 12 (.ops [oM 5 (kB true),oM 6 (kB true)]) (sO [oB 15 .eql 8 (kI 3),oM 14 15] (.cnd 14 (.ops [oM 4 (kB true)]) (.ops [oM 6 (kB true)]))))))))) (sO [oM 16 3,oo 17 (.not 16),oM 18 17,⟨(some 19),(some (18,true)),(.flA 1 1)⟩,⟨(some 20),(some (18,true)),(.ld 1 false 19)⟩,⟨(some 21),(some (18,true)),(.bin .neq 20 (kI 0))⟩,oo 22 (.pick 18 21 (kB false)),oM 23 22,⟨(some 24),(some (23,false)),(.mov 4)⟩,⟨(some 25),(some (23,false)),(.not 24)⟩,⟨(some 26),(some (23,false)),(.mov 25)⟩,⟨(some 27),(some (26,true)),(.flA 2 1)⟩,⟨(some 28),(some (26,true)),(.ld 1 false 27)⟩,⟨(some 29),(some (26,true)),(.bin .neq 28 (kI 0))⟩,⟨(some 30),(some (23,false)),(.pick 26 29 (kB false))⟩,oo 31 (.pick 23 (kB true) 30),oM 32 31,⟨(some 33),(some (32,false)),(.mov 5)⟩,⟨(some 34),(some (32,false)),(.not 33)⟩,⟨(some 35),(some (32,false)),(.mov 34)⟩,⟨(some 36),(some (35,true)),(.flA 3 1)⟩,⟨(some 37),(some (35,true)),(.ld 1 false 36)⟩,⟨(some 38),(some (35,true)),(.bin .neq 37 (kI 0))⟩,⟨(some 39),(some (32,false)),(.pick 35 38 (kB false))⟩,oo 40 (.pick 32 (kB true) 39),oM 41 40,⟨(some 42),(some (41,false)),(.mov 6)⟩,⟨(some 43),(some (41,false)),(.not 42)⟩,⟨(some 44),(some (41,false)),(.mov 43)⟩,⟨(some 45),(some (44,true)),(.flA 4 1)⟩,⟨(some 46),(some (44,true)),(.ld 1 false 45)⟩,⟨(some 47),(some (44,true)),(.bin .neq 46 (kI 0))⟩,⟨(some 48),(some (41,false)),(.pick 44 47 (kB false))⟩,oo 49 (.pick 41 (kB true) 48),oM 2 49] .ret))))⟩
theorem needless_c(d:Dl)(hk:inB d.kind 1 6=true):FV 145 [dlA d] (.bool (!formD d)):=by
 obtain⟨k1,k2⟩:=inB_ex hk;obtain⟨kind,bag,other,wood,count⟩:=d;dsimp only at k1 k2;have hc:kind=1∨kind=2∨kind=3∨kind=4∨kind=5∨kind=6:=by omega
 clear hk k1 k2;rcases hc with rfl|rfl|rfl|rfl|rfl|rfl
 all_goals
  refine wk ir145 Tryz.func145 ?_;unfold ir145
  repeat' (first|refine aR ?_|refine aX ?_|with_reducible intro _|refine aP ?_ ?_)
 all_goals first|(exfalso;simp at*;done)|(refine congrArg AV.bool ?_;simp_all [formD];done)|(refine congrArg AV.bool ?_;rw[Bool.eq_iff_iff];simp_all [formD];done)|(refine congrArg AV.bool ?_;rw[Bool.eq_iff_iff];simp_all [formD];omega)
def trV(s:Nat)(tr:List Int)(h:Nat):AV:=match tr with
 | []=> .nsl
 | _::_=> .slc 1 (iR tr) (.own s h)
def trS(tr:List Int)(h:Nat):Nat×Res:=match tr with
 | []=>(0,.dead)
 | _::_=>(h,.row [])
def rtRow(t:Tb)(x:AV):List AV:=t.bags.map (AV.int .i64)++[.int .i64 t.mixed,.int .i64 t.cens,x]
def tbS(s g:Nat)(t:Tb)(tr:List Int)(h:Nat):List (Nat×(Nat×Res)):=[(1000,(g,.row (rtRow t (trV s tr h)))),(s,trS tr h)]
theorem rt_get{t:Tb}{x:AV}(hb:t.bags.length=4)(k:Nat):(rtRow t x)[k]?=if k<4 then (t.bags[k]?).map (AV.int .i64) else[AV.int .i64 t.mixed,.int .i64 t.cens,x][k-4]?:=by
 unfold rtRow;have hl:(t.bags.map (AV.int .i64)).length=4:=by rw[List.length_map,hb]
 by_cases h:k<4
 · rw[if_pos h,List.getElem?_append_left (by omega),List.getElem?_map]
 · rw[if_neg h,List.getElem?_append_right (by omega),hl]
theorem rt_len{t:Tb}{x:AV}(hb:t.bags.length=4):(rtRow t x).length=7:=by unfold rtRow;simp[hb]
theorem rt_bag{t:Tb}{x:AV}(hb:t.bags.length=4){k:Nat}(hk:k<4):(rtRow t x)[k]?=some (.int .i64 (t.bags.getD k 0)):=by rw[rt_get hb,if_pos hk,List.getD_eq_getElem?_getD,List.getElem?_eq_getElem (by omega)];rfl
theorem rt_setB{t:Tb}{x:AV}(hb:t.bags.length=4){k:Nat}(hk:k<4)(v:Int):(rtRow t x).set k (.int .i64 v)=rtRow {t with bags:=t.bags.set k v } x:=by unfold rtRow;rw[List.set_append_left _ _ (by rw[List.length_map];omega),←List.map_set]
theorem rt_setM{t:Tb}{x:AV}(hb:t.bags.length=4)(v:Int):(rtRow t x).set 4 (.int .i64 v)=rtRow {t with mixed:=v } x:=by unfold rtRow;rw[List.set_append_right _ _ (by rw[List.length_map];omega),List.length_map,hb];rfl
theorem rt_setC{t:Tb}{x:AV}(hb:t.bags.length=4)(v:Int):(rtRow t x).set 5 (.int .i64 v)=rtRow {t with cens:=v } x:=by unfold rtRow;rw[List.set_append_right _ _ (by rw[List.length_map];omega),List.length_map,hb];rfl
theorem rt_setT{t:Tb}{x:AV}(hb:t.bags.length=4)(y:AV):(rtRow t x).set 6 y=rtRow t y:=by unfold rtRow;rw[List.set_append_right _ _ (by rw[List.length_map];omega),List.length_map,hb];rfl
section
variable {P:Program} {K:(Nat→AV)→Sig→Prop} {e:Nat→AV} {σ:Sig} {x v:IOpd} {r:List IStep} {t:Tb} {g i d off w:Nat} {y:AV} {b:Int}
theorem w_rtB(hx:x.ev e= .ref i g off)(ho:off=w)(hσ:σ i=(g,.row (rtRow t y)))(hb:t.bags.length=4)(hw:w<4)(hv:t.bags.getD w 0=b)(hk:stepsW P r K (upd e d (.int .i64 b)) σ):stepsW P (⟨some d,none,.ld 1 false x⟩::r) K e σ:=
 w_ldAt hx hσ (by rw[ho,←hv];exact rt_bag hb hw) rfl hk
theorem w_rtM(hx:x.ev e= .ref i g off)(ho:off=4)(hσ:σ i=(g,.row (rtRow t y)))(hb:t.bags.length=4)(hk:stepsW P r K (upd e d (.int .i64 t.mixed)) σ):stepsW P (⟨some d,none,.ld 1 false x⟩::r) K e σ:=
 w_ldAt hx hσ (by rw[ho,rt_get hb];rfl) rfl hk
theorem w_rtC(hx:x.ev e= .ref i g off)(ho:off=5)(hσ:σ i=(g,.row (rtRow t y)))(hb:t.bags.length=4)(hk:stepsW P r K (upd e d (.int .i64 t.cens)) σ):stepsW P (⟨some d,none,.ld 1 false x⟩::r) K e σ:=
 w_ldAt hx hσ (by rw[ho,rt_get hb];rfl) rfl hk
theorem w_rtT(hx:x.ev e= .ref i g off)(ho:off=6)(hσ:σ i=(g,.row (rtRow t y)))(hb:t.bags.length=4)(hv:forceA y=some y)(hk:stepsW P r K (upd e d y) σ):stepsW P (⟨some d,none,.ld 1 false x⟩::r) K e σ:=
 w_ldAt hx hσ (by rw[ho,rt_get hb];rfl) hv hk
theorem w_rtSB(hx:x.ev e= .ref i g off)(ho:off=w)(hv:v.ev e= .int .i64 b)(hσ:σ i=(g,.row (rtRow t y)))(hb:t.bags.length=4)(hw:w<4)(hk:stepsW P r K e (upd σ i (g,.row (rtRow {t with bags:=t.bags.set w b } y)))):stepsW P (⟨none,none,.st 1 x v⟩::r) K e σ:=by refine w_stAt (a:= .int .i64 b) hx hσ (by rw[hv];rfl) (by rw[rt_len hb];omega) ?_;rw[ho,rt_setB hb hw];exact hk
theorem w_rtSM(hx:x.ev e= .ref i g off)(ho:off=4)(hv:v.ev e= .int .i64 b)(hσ:σ i=(g,.row (rtRow t y)))(hb:t.bags.length=4)(hk:stepsW P r K e (upd σ i (g,.row (rtRow {t with mixed:=b } y)))):stepsW P (⟨none,none,.st 1 x v⟩::r) K e σ:=by refine w_stAt (a:= .int .i64 b) hx hσ (by rw[hv];rfl) (by rw[rt_len hb];omega) ?_;rw[ho,rt_setM hb];exact hk
theorem w_rtSC(hx:x.ev e= .ref i g off)(ho:off=5)(hv:v.ev e= .int .i64 b)(hσ:σ i=(g,.row (rtRow t y)))(hb:t.bags.length=4)(hk:stepsW P r K e (upd σ i (g,.row (rtRow {t with cens:=b } y)))):stepsW P (⟨none,none,.st 1 x v⟩::r) K e σ:=by refine w_stAt (a:= .int .i64 b) hx hσ (by rw[hv];rfl) (by rw[rt_len hb];omega) ?_;rw[ho,rt_setC hb];exact hk
theorem w_rtST{z:AV}(hx:x.ev e= .ref i g off)(ho:off=6)(hv:cellsO 1 (v.ev e)=some (1=1,[z]))(hσ:σ i=(g,.row (rtRow t y)))(hb:t.bags.length=4)(hk:stepsW P r K e (upd σ i (g,.row (rtRow t z)))):stepsW P (⟨none,none,.st 1 x v⟩::r) K e σ:=by refine w_stAt (a:=z) hx hσ hv (by rw[rt_len hb];omega) ?_;rw[ho,rt_setT hb];exact hk
end
theorem renL_rt(ρ:List (Nat×Nat))(t:Tb)(x:AV):renL ρ (rtRow t x)=rtRow t (ren ρ x):=by unfold rtRow;rw[renL_app2,renL_nI];rfl
theorem ren_trV{ρ:List (Nat×Nat)}{s q:Nat}(h:lk ρ s=some q)(tr:List Int)(g:Nat):ren ρ (trV s tr g)=trV q tr g:=by
 cases tr with
 | nil=>rfl
 | cons x r=>
   show AV.slc 1 (iR (x::r)) (renT ρ (.own s g))=_
   simp only[renT,h];rfl
theorem upd_comm{σ:Sig}{p q:Nat}{x y:Nat×Res}(h:p≠q):upd (upd σ p x) q y=upd (upd σ q y) p x:=by
 funext j
 simp only[upd_eq];by_cases h1:j=q
 · subst h1;rw[if_pos rfl,if_neg (fun e=>h e.symm),if_pos rfl]
 · rw[if_neg h1,if_neg h1]
theorem ACall.tab{P:Program}{f:Nat}{args0 args:List AV}{s0 p q g h0 d:Nat}{t:Tb}{tr:List Int}{α:Type}{V:α→AV→Prop}{T:α→Tb}{R:α→List Int}{H:α→Nat}{σ:Sig}{Q:AV→Sig→Prop}(h:RawC P f args0 (sg (tbS s0 g t tr h0)) (SR V (fun x=>tbS s0 g (T x) (R x) (H x))))(hs0:Nat.beq 1000 s0=false)(hq:Nat.ble YS q=true)(hpq:Nat.beq p q=false)(hr1:renOK [(s0,q),(1000,p)]=true)(hr2:renOK [(1000,p),(s0,q)]=true)(ha1:args0=renL (flipL [(1000,p)]) args)(ha2:args0=renL (flipL [(1000,p),(s0,q)]) args)(hp:σ p=(g,.row (rtRow t (trV q tr h0))))(hσq:σ q=trS tr h0)(hQ:∀x av,V x av→ren [(s0,q),(1000,p)] av=av→ren [(1000,p),(s0,q)] av=av→Q av (upd (upd σ q (trS (R x) (H x))) p (g,.row (rtRow (T x) (trV q (R x) (H x))))))(hV:∀x av,V x av→ ∃n,av= .int .i64 n):ACall P f args σ d Q:=by
 have hne:p≠q:=fun e=>by rw[e] at hpq;simp at hpq
 have hs1:s0≠1000:=fun e=>by rw[e] at hs0;simp at hs0
 have hqp:Nat.beq q p=false:=by
  cases h:Nat.beq q p with
  | false=>rfl
  | true=>exact absurd (nbeq.1 h).symm hne
 have hs2:Nat.beq s0 1000=false:=by
  cases h:Nat.beq s0 1000 with
  | false=>rfl
  | true=>exact absurd (nbeq.1 h) hs1
 cases tr with
 | nil=>
   have e0:sg (tbS s0 g t [] h0)=sg [(1000,(g,.row (rtRow t .nsl)))]:=by
    funext j
    show (match Nat.beq 1000 j with | true=>_ | false=>(match Nat.beq s0 j with | true=>((0,Res.dead):Nat×Res) | false=>(0,.dead)))=(match Nat.beq 1000 j with | true=>_ | false=>_)
    split
    · rfl
    · split<;>rfl
   rw[e0] at h;refine ACall.liftN h [(1000,p)] [(s0,q)] (by simp[outsB,hq]) hr1 ha1 ?_ ⟨⟨_,by rw[hp]⟩,trivial⟩ fun av σ0' hR=>?_
   · show _=[(1000,((σ p).1,renR _ (σ p).2))]
     rw[hp];simp only[renR,renL_rt];rfl
   · obtain⟨x,hv,hsl⟩:=hR;obtain⟨k1,k2,-⟩:=hsl;obtain⟨n,rfl⟩:=hV x av hv;have l1:lk [(s0,q),(1000,p)] s0=some q:=by simp[lk]
     show Q (.int .i64 n) (upd (upd σ p ((σ0' 1000).1,renR [(s0,q),(1000,p)] (σ0' 1000).2)) q ((σ0' s0).1,renR [(s0,q),(1000,p)] (σ0' s0).2))
     have e1:((trS (R x) (H x)).1,renR [(s0,q),(1000,p)] (trS (R x) (H x)).2)=trS (R x) (H x):=by cases R x<;>rfl
     rw[k1,k2,e1];simp only[renR,renL_rt,ren_trV l1];rw[upd_comm hne];exact hQ x _ hv rfl rfl
 | cons c cs=>
   refine ACall.liftN h [(1000,p),(s0,q)] [] rfl hr2 ha2 ?_ ⟨⟨_,by rw[hp]⟩,⟨[],by rw[hσq];rfl⟩,trivial⟩ fun av σ0' hR=>?_
   · show _=[(1000,((σ p).1,renR (flipL [(1000,p),(s0,q)]) (σ p).2)),(s0,((σ q).1,renR (flipL [(1000,p),(s0,q)]) (σ q).2))]
     have l2:lk (flipL [(1000,p),(s0,q)]) q=some s0:=by simp[flipL,lk,hpq]
     rw[hp,hσq];simp only[renR,renL_rt,ren_trV l2,tbS];rfl
   · obtain⟨x,hv,hsl⟩:=hR;obtain⟨k1,k2,-⟩:=hsl;obtain⟨n,rfl⟩:=hV x av hv;have l1:lk [(1000,p),(s0,q)] s0=some q:=by simp[lk,hs0]
     show Q (.int .i64 n) (upd (upd σ q ((σ0' s0).1,renR [(1000,p),(s0,q)] (σ0' s0).2)) p ((σ0' 1000).1,renR [(1000,p),(s0,q)] (σ0' 1000).2))
     have e1:((trS (R x) (H x)).1,renR [(1000,p),(s0,q)] (trS (R x) (H x)).2)=trS (R x) (H x):=by cases R x<;>rfl
     rw[k1,k2,e1];simp only[renR,renL_rt,ren_trV l1];exact hQ x _ hv rfl rfl
def ir197:IFn:= ⟨53,[(6,none)],(sO [oo 4 (.box 2 1),oo 5 (.box 5 2),oM 6 (kI 0)] (.seq (sO [oF 7 3 5,oL 8 7,oF 9 0 4,oL 10 9,oN 11 10,oB 12 .sub 11 (kI 1),oC 13 87 [8,(kI 0),12],oo 14 (.not 13)] (.cnd 14 (sO [oM 6 (kI 7)] .ret) .skip)) (.seq (sO [oF 15 4 5,oL 16 15,oC 17 87 [16,(kI 1),(kI 12)],oo 18 (.not 17)] (.cnd 18 (sO [oM 6 (kI 2)] .ret) .skip)) (.seq (sO [oM 19 0,oo 20 (.nck 19),oF 21 4 20,oL 22 21,oF 23 4 5,oL 24 23,oB 25 .add 22 24,oB 26 .gtr 25 (kI 12)] (.cnd 26 (sO [oM 6 (kI 8)] .ret) .skip)) (sO [oM 27 0,oM 28 0,oF 29 1 5,oL 30 29,oM 31 0,oo 32 (.nck 31),oF 33 4 32,oL 34 33,oF 35 4 5,oL 36 35,oB 37 .add 34 36,oM 38 0,oF 39 1 5,oL 40 39,oo 41 (.nck 38),oF 42 0 41,oo 43 (.ixAr 4 1 42 40),oL 44 43,oF 45 4 5,oL 46 45,oB 47 .add 44 46,oo 48 (.nck 27),oF 49 4 48,oo 50 (.nck 28),oF 51 0 50,oS 1 49 37,oK 29 30,oK 45 46,oo 52 (.ixAr 4 1 51 30),oS 1 52 47] (sO [oM 6 (kI 0)] .ret))))))⟩
theorem rmix_c(G:Gm)(d:Dl)(g h:Nat)(t:Tb)(tr:List Int)(hn:1≤G.ws.length∧G.ws.length≤6)(ht:tbOK t)(hbg:inB d.bag 0 3=true):
  RawC Tryz.prog 197 [.ref 1000 g 0,gmA G,dlA d] (sg (tbS 1001 g t tr h)) (SR (fun (y:Tb) v=>v= .int .i64 (mixE G.ws.length d t)∧(mixE G.ws.length d t=0→y={t with mixed:=t.mixed+d.count,bags:=setI t.bags d.bag (atI t.bags d.bag+d.count) })) (fun y=>tbS 1001 g y tr h)):=by
 have hb:=ht.b;have h1:=rin_c d.wood 0 (G.ws.length-1);have h2:=rin_c d.count 1 12;have hbi:=inB_t.1 hbg;have hb4:d.bag.toNat<4:=by omega
 have hat:=ht.at hb4;have hm:=ht.m;have hat2:0≤t.bags.getD d.bag.toNat 0∧t.bags.getD d.bag.toNat 0≤12:=hat;obtain⟨E,hE⟩:∃E,mixE G.ws.length d t=E:=⟨_,rfl⟩;rw[hE];unfold mixE at hE;rw[if_pos hbg] at hE;by_cases e1:inB d.wood 0 (G.ws.length-1)=true
 rotate_left
 · rw[if_neg e1] at hE;subst hE;rw[show inB d.wood 0 (G.ws.length-1)=false by simpa using e1] at h1;refine wk ir197 Tryz.func197 ?_;unfold ir197
   repeat' (first|refine aR ?_|((with_reducible refine aC ?_);first|refine aV h1 ?_)|refine aX ?_|with_reducible intro _|refine aP ?_ ?_)
   all_goals first|(exfalso;omega)|exact⟨t,⟨rfl,fun h=>absurd h (by decide)⟩,rfl,rfl,trivial⟩
 rw[if_pos e1] at hE;rw[e1] at h1;by_cases e2:inB d.count 1 12=true
 rotate_left
 · rw[if_neg e2] at hE;subst hE;rw[show inB d.count 1 12=false by simpa using e2] at h2;refine wk ir197 Tryz.func197 ?_;unfold ir197
   repeat' (first|refine aR ?_|((with_reducible refine aC ?_);first|refine aV h1 ?_|refine aV h2 ?_)|refine aX ?_|with_reducible intro _|refine aP ?_ ?_)
   all_goals first|(exfalso;omega)|exact⟨t,⟨rfl,fun h=>absurd h (by decide)⟩,rfl,rfl,trivial⟩
 rw[if_pos e2] at hE;rw[e2] at h2;have hc:=inB_t.1 e2;by_cases e3:12<t.mixed+d.count
 · rw[if_pos e3] at hE;subst hE;refine wk ir197 Tryz.func197 ?_;unfold ir197
   repeat' (first|refine aR ?_|(first|refine w_rtM rfl rfl rfl hb ?_)|((with_reducible refine aC ?_);first|refine aV h1 ?_|refine aV h2 ?_)|refine aX ?_|with_reducible intro _|refine aP ?_ ?_)
   all_goals first|(exfalso;omega)|exact⟨t,⟨rfl,fun h=>absurd h (by decide)⟩,rfl,rfl,trivial⟩
 · rw[if_neg e3] at hE;subst hE;refine wk ir197 Tryz.func197 ?_;unfold ir197
   repeat' (first|refine aR ?_|(first|refine w_rtM rfl rfl rfl hb ?_|refine w_rtB (w:=d.bag.toNat) rfl (by omega) rfl hb hb4 rfl ?_|refine w_rtSM rfl rfl rfl rfl hb ?_|refine w_rtSB (w:=d.bag.toNat) rfl (by omega) rfl rfl hb hb4 ?_)|((with_reducible refine aC ?_);first|refine aV h1 ?_|refine aV h2 ?_)|refine aX ?_|with_reducible intro _|refine aP ?_ ?_)
   all_goals first|(exfalso;omega)|exact⟨_,⟨rfl,fun _=>rfl⟩,rfl,rfl,trivial⟩
def ir196:IFn:= ⟨46,[(6,none)],(sO [oo 4 (.box 2 1),oo 5 (.box 5 2),oM 6 (kI 0)] (.seq (sO [oF 8 3 5,oL 9 8,oF 10 0 4,oL 11 10,oN 12 11,oB 13 .sub 12 (kI 1),oC 14 87 [9,(kI 0),13],oo 15 (.not 14)] (.cnd 15 (sO [oM 6 (kI 7)] .ret) .skip)) (.seq (sO [oM 7 (kI 0)] (.blk 0 (.loop (.seq (sO [oM 16 7,oM 17 0,oo 18 (.nck 17),oF 19 6 18,oL 20 19,oN 21 20,oB 22 .lss 16 21] (.cnd 22 .skip (.exit 0))) (.seq (.blk 1 (sO [oM 25 0,oo 26 (.nck 25),oF 27 6 26,oL 28 27,oM 29 7,oA 30 1 28 29,oL 31 30,oF 32 3 5,oL 33 32,oB 34 .eql 31 33] (.cnd 34 (sO [oM 6 (kI 9)] .ret) .skip))) (.ops [oM 23 7,oB 24 .add 23 (kI 1),oM 7 24])))))) (sO [oM 35 0,oM 36 0,oo 37 (.nck 36),oF 38 6 37,oL 39 38,oF 40 3 5,oL 41 40,oo 42 (.bsl 1 [[z0]] [(0,41)]),oo 43 (.app 1 8 39 42 1001),oo 44 (.nck 35),oF 45 6 44,oS 1 45 43] (sO [oM 6 (kI 0)] .ret)))))⟩
def hint196(P:Program):Hint:={site:=[(43,1001)],nils:=[],frz:=[],mve:=[],wr:=[] }
def trO(tr:List Int)(b:List Bool):Prop:=∀w:Nat,w<6→(b.getD w false=true↔(w:Int)∈tr)
theorem rtrial_c(G:Gm)(d:Dl)(g h:Nat)(t:Tb)(tr:List Int)(hn:1≤G.ws.length∧G.ws.length≤6)(ht:tbOK t)(hr:trO tr t.tried)(hl:tr.length≤1000):
  RawC Tryz.prog 196 [.ref 1000 g 0,gmA G,dlA d] (sg (tbS 1001 g t tr h)) (SR (fun (x:Tb×List Int×Nat) v=>v= .int .i64 (trialE G.ws.length d t)∧(trialE G.ws.length d t=0→x.1={t with tried:=t.tried.set d.wood.toNat true }∧trO x.2.1 (t.tried.set d.wood.toNat true)∧x.2.1.length=tr.length+1)) (fun x=>tbS 1001 g x.1 x.2.1 x.2.2)):=by
 have hb:=ht.b;have hrn:=rin_c d.wood 0 (G.ws.length-1);obtain⟨E,hE⟩:∃E,trialE G.ws.length d t=E:=⟨_,rfl⟩;rw[hE];unfold trialE at hE;by_cases h1:inB d.wood 0 (G.ws.length-1)=true
 rotate_left
 · rw[if_neg h1] at hE;subst hE;rw[show inB d.wood 0 (G.ws.length-1)=false by simpa using h1] at hrn;cases tr with
   | nil=>
     refine RawC.walk (H:=hint196 Tryz.prog) ir196 Tryz.func196 rfl rfl rfl ?_;unfold ir196
     repeat' (first|refine aR ?_|with_reducible refine zI fun y hy=>?_|((with_reducible refine aC ?_);first|refine aV hrn ?_)|refine aX ?_|with_reducible intro _|with_reducible refine zJ ?_ fun y hy=>?_|refine aP ?_ ?_)
     all_goals first|(exfalso;omega)|exact⟨(t,[],h),⟨rfl,fun h=>absurd h (by decide)⟩,rfl,rfl,trivial⟩
   | cons c0 cs=>
     refine RawC.walk (H:=hint196 Tryz.prog) ir196 Tryz.func196 rfl rfl rfl ?_;unfold ir196
     repeat' (first|refine aR ?_|with_reducible refine zI fun y hy=>?_|((with_reducible refine aC ?_);first|refine aV hrn ?_)|refine aX ?_|with_reducible intro _|with_reducible refine zJ ?_ fun y hy=>?_|refine aP ?_ ?_)
     all_goals first|(exfalso;omega)|exact⟨(t,c0::cs,h),⟨rfl,fun h=>absurd h (by decide)⟩,rfl,rfl,trivial⟩
 rw[if_pos h1] at hE;rw[h1] at hrn;have hw:=inB_t.1 h1;have hw6:d.wood.toNat<6:=by omega
 have hrw:=hr d.wood.toNat hw6;rw[show ((d.wood.toNat:Nat):Int)=d.wood by omega] at hrw;have hadd:¬d.wood∈tr→trO (tr++[d.wood]) (t.tried.set d.wood.toNat true):=fun hnot w hw'=>by
  have hlen:=ht.r;rw[List.getD_eq_getElem?_getD,List.getElem?_set];by_cases e:d.wood.toNat=w
  · rw[if_pos e,if_pos (by omega)];have:(w:Int)=d.wood:=by omega
    rw[this];simp
  · rw[if_neg e,←List.getD_eq_getElem?_getD,hr w hw'];have:¬(w:Int)=d.wood:=by omega
    simp[this]
 cases tr with
 | nil=>
   rw[if_neg (fun h=>by have:=hrw.1 h;cases this)] at hE;subst hE;refine RawC.walk (H:=hint196 Tryz.prog) ir196 Tryz.func196 rfl rfl rfl ?_;unfold ir196
   repeat' (first|refine aR ?_|with_reducible refine zI fun y hy=>?_|((with_reducible refine aC ?_);first|refine aV hrn ?_)|refine aX ?_|with_reducible intro _|with_reducible refine zJ ?_ fun y hy=>?_|refine aP ?_ ?_)
   all_goals try (exfalso;omega)
   refine w_loopK [0,5] [5,1000] (fun _:Unit=>True) (fun _=>0) (fun _=>[(7,.int .i64 0)]) (fun _=>[]) () trivial ⟨rfl,trivial⟩ trivial ?_;rintro⟨⟩ _ e σ
   repeat' (first|refine aR ?_|(first|refine w_rtT rfl rfl rfl hb rfl ?_|refine w_rtST rfl rfl rfl rfl hb ?_)|with_reducible refine zI fun y hy=>?_|refine aX ?_|with_reducible intro _|with_reducible refine zJ ?_ fun y hy=>?_|refine aP ?_ ?_)
   all_goals try (exfalso;omega)
   rename_i g2;exact⟨({t with tried:=t.tried.set d.wood.toNat true },[d.wood],g2),⟨rfl,fun _=>⟨rfl,hadd (by simp),rfl⟩⟩,rfl,rfl,trivial⟩
 | cons c0 cs=>
   have hcl:(iR (c0::cs)).length=(c0::cs).length:=List.length_map _;have hcl2:(c0::cs).length=cs.length+1:=rfl;by_cases hm:d.wood∈c0::cs
   · rw[if_pos (hrw.2 hm)] at hE;subst hE;refine RawC.walk (H:=hint196 Tryz.prog) ir196 Tryz.func196 rfl rfl rfl ?_;unfold ir196
     repeat' (first|refine aR ?_|with_reducible refine zI fun y hy=>?_|((with_reducible refine aC ?_);first|refine aV hrn ?_)|refine aX ?_|with_reducible intro _|with_reducible refine zJ ?_ fun y hy=>?_|refine aP ?_ ?_)
     all_goals try (exfalso;omega)
     refine w_loopK [0,5] [5,1000,1001] (fun x:List Int×List Int=>c0::cs=x.1++x.2∧ ¬d.wood∈x.1) (fun x=>x.2.length) (fun x=>[(7,.int .i64 (x.1.length:Int))]) (fun _=>[]) ([],c0::cs) ⟨rfl,by simp⟩ ⟨rfl,trivial⟩ trivial ?_;rintro⟨pre,post⟩ ⟨hp,hq⟩ e σ;dsimp only at hp hq ⊢;have hlen:=congrArg List.length hp;rw[List.length_append] at hlen;cases post with
     | nil=>exfalso;rw[hp,List.append_nil] at hm;exact hq hm
     | cons y post=>
       simp only[List.length_cons] at hlen;by_cases hy:y=d.wood
       · repeat' (first
          | with_reducible (first|refine Rd.p ?_|refine w_alt ?_ ?_|refine zE ?_|refine zE0 ?_)
          | (first|refine w_rtT rfl rfl rfl hb rfl ?_|refine w_ixP hp rfl rfl ?_)
          | with_reducible (first|refine zI fun y hy=>?_|refine zL ?_|refine zS ?_|refine zA fun _=>?_|refine zV ?_|refine zC ?_|refine zG ?_|refine zU ?_|refine zG0 ?_|refine zU0 ?_|refine zF ?_)
          | with_reducible (first|refine zX ?_|refine zD fun _=>?_|refine zD0 ?_|refine zN ?_|refine zF0 ?_|refine zX0 ?_|refine z1 ?_|refine z2 ?_|refine z3 ?_|refine z4 ?_|refine z5 ?_|refine z6 ?_|refine z7 ?_|refine z8 ?_|refine y1 ?_|refine y2 ?_|refine y3 ?_|refine y4 ?_|refine y5 ?_|refine y6 ?_|refine y7 ?_|refine y8 ?_|refine Rt.p (fun _=>?_) fun _=>?_)
          | ((with_reducible apply w_ixM);(focus exact rfl);(focus exact rfl);case' hk=>intro y hy)|((with_reducible (first | apply w_val | apply q_ends));(focus exact rfl)))
         all_goals first|(exfalso;omega)|exact⟨(t,c0::cs,h),⟨rfl,fun h=>absurd h (by decide)⟩,rfl,rfl,trivial⟩
       · repeat' (first
          | with_reducible (first|refine Rd.p ?_|refine w_alt ?_ ?_|refine zE ?_|refine zE0 ?_)
          | (first|refine w_rtT rfl rfl rfl hb rfl ?_|refine w_ixP hp rfl rfl ?_)
          | with_reducible (first|refine zI fun y hy=>?_|refine zL ?_|refine zS ?_|refine zA fun _=>?_|refine zV ?_|refine zC ?_|refine zG ?_|refine zU ?_|refine zG0 ?_|refine zU0 ?_|refine zF ?_)
          | with_reducible (first|refine zX ?_|refine zD fun _=>?_|refine zD0 ?_|refine zN ?_|refine zF0 ?_|refine zX0 ?_|refine z1 ?_|refine z2 ?_|refine z3 ?_|refine z4 ?_|refine z5 ?_|refine z6 ?_|refine z7 ?_|refine z8 ?_|refine y1 ?_|refine y2 ?_|refine y3 ?_|refine y4 ?_|refine y5 ?_|refine y6 ?_|refine y7 ?_|refine y8 ?_|refine Rt.p (fun _=>?_) fun _=>?_)
          | ((with_reducible apply w_ixM);(focus exact rfl);(focus exact rfl);case' hk=>intro y hy)|((with_reducible (first | apply w_val | apply q_ends));(focus exact rfl)))
         all_goals first|(exfalso;omega)|exact q_loop (pre++[y],post) ⟨by show c0::cs=_;rw[hp];simp,by show ¬d.wood∈pre++[y];simp[hq];exact fun e=>hy e.symm⟩ (Nat.lt_succ_self _) ⟨by rw[len_snoc];rfl,trivial⟩ aS aK aK
   · rw[if_neg (fun h=>hm (hrw.1 h))] at hE;subst hE;refine RawC.walk (H:=hint196 Tryz.prog) ir196 Tryz.func196 rfl rfl rfl ?_;unfold ir196
     repeat' (first|refine aR ?_|with_reducible refine zI fun y hy=>?_|((with_reducible refine aC ?_);first|refine aV hrn ?_)|refine aX ?_|with_reducible intro _|with_reducible refine zJ ?_ fun y hy=>?_|refine aP ?_ ?_)
     all_goals try (exfalso;omega)
     refine w_loopK [0,5] [5,1000,1001] (fun x:List Int×List Int=>c0::cs=x.1++x.2) (fun x=>x.2.length) (fun x=>[(7,.int .i64 (x.1.length:Int))]) (fun _=>[]) ([],c0::cs) rfl ⟨rfl,trivial⟩ trivial ?_;rintro⟨pre,post⟩ hp e σ;dsimp only at hp ⊢;have hlen:=congrArg List.length hp;rw[List.length_append] at hlen;cases post with
     | nil=>
       simp only[List.length_nil] at hlen
       repeat' (first|refine aR ?_|(first|refine w_rtT rfl rfl rfl hb rfl ?_|refine w_rtST rfl rfl rfl rfl hb ?_)|with_reducible refine zI fun y hy=>?_|refine aX ?_|with_reducible intro _|with_reducible refine zJ ?_ fun y hy=>?_|refine aP ?_ ?_)
       all_goals try (exfalso;omega)
       rename_i g2;exact⟨({t with tried:=t.tried.set d.wood.toNat true },c0::cs++[d.wood],g2),⟨rfl,fun _=>⟨rfl,hadd hm,len_snoc⟩⟩,rfl,rfl,trivial⟩
     | cons y post=>
       simp only[List.length_cons] at hlen;have hy:¬y=d.wood:=fun e=>hm (by rw[hp,←e];simp)
       repeat' (first|refine aR ?_|(first|refine w_rtT rfl rfl rfl hb rfl ?_|refine w_ixP hp rfl rfl ?_)|with_reducible refine zI fun y hy=>?_|refine aX ?_|with_reducible intro _|with_reducible refine zJ ?_ fun y hy=>?_|refine aP ?_ ?_)
       all_goals first|(exfalso;omega)|exact q_loop (pre++[y],post) (by show c0::cs=_;rw[hp];simp) (Nat.lt_succ_self _) ⟨by rw[len_snoc];rfl,trivial⟩ aS aK aK
def ir146:IFn:= ⟨138,[(6,none)],(sO [oo 4 (.box 2 1),oo 5 (.box 5 2),oM 6 (kI 0)] (.seq (sO [oF 7 0 5,oL 8 7] (.blk 0 (sO [oB 10 .eql 8 (kI 1),oM 9 10] (.cnd 9 (sO [oM 11 0,oo 12 (.ld 2 true 4),oo 13 (.ld 5 true 5),oC 14 196 [11,12,13],oM 6 14] .ret) (sO [oB 16 .eql 8 (kI 6),oM 15 16] (.cnd 15 (.seq (sO [oF 17 3 5,oL 18 17,oF 19 0 4,oL 20 19,oN 21 20,oB 22 .sub 21 (kI 1),oC 23 87 [18,(kI 0),22],oo 24 (.not 23)] (.cnd 24 (sO [oM 6 (kI 7)] .ret) .skip)) (.seq (sO [oM 25 0,oo 26 (.nck 25),oF 27 5 26,oL 28 27,oB 29 .eql 28 (kI 9)] (.cnd 29 (sO [oM 6 (kI 8)] .ret) .skip)) (sO [oM 30 0,oo 31 (.nck 30),oF 32 5 31,oL 33 32,oB 34 .add 33 (kI 1),oo 35 (.nck 30),oF 36 5 35,oS 1 36 34] (sO [oM 6 (kI 0)] .ret)))) .skip)))))) (.seq (sO [oF 37 1 5,oL 38 37,oC 39 87 [38,(kI 0),(kI 3)],oo 40 (.not 39)] (.cnd 40 (sO [oM 6 (kI 2)] .ret) .skip)) (.seq (sO [oF 41 0 5,oL 42 41] (.blk 1 (sO [oB 44 .eql 42 (kI 2),oM 43 44] (.cnd 43 (sO [oM 45 0,oo 46 (.ld 2 true 4),oo 47 (.ld 5 true 5),oC 48 197 [45,46,47],oM 6 48] .ret) (sO [oB 50 .eql 42 (kI 3),oM 49 50] (.cnd 49 (.seq (sO [oF 51 2 5,oL 52 51,oC 53 87 [52,(kI 0),(kI 3)],oo 54 (.not 53)] (.cnd 54 (sO [oM 6 (kI 2)] .ret) .skip)) (.seq (sO [oF 55 2 5,oL 56 55,oF 57 1 5,oL 58 57,oB 59 .eql 56 58] (.cnd 59 (sO [oM 6 (kI 12)] .ret) .skip)) (sO [oM 60 0,oF 61 2 5,oL 62 61,oM 63 0,oF 64 1 5,oL 65 64,oM 66 0,oF 67 2 5,oL 68 67,oo 69 (.nck 66),oF 70 0 69,oo 71 (.ixAr 4 1 70 68),oL 72 71,oM 73 0,oF 74 1 5,oL 75 74,oo 76 (.nck 73),oF 77 0 76,oo 78 (.ixAr 4 1 77 75),oL 79 78,oB 80 .add 72 79,oo 81 (.nck 60),oF 82 0 81,oo 83 (.ixAr 4 1 82 62),oo 84 (.nck 63),oF 85 0 84,oS 1 83 80,oK 64 65,oo 86 (.ixAr 4 1 85 65),oS 1 86 (kI 0)] (sO [oM 6 (kI 0)] .ret)))) .skip)))))) (.seq (sO [oF 87 4 5,oL 88 87,oC 89 87 [88,(kI 1),(kI 12)],oo 90 (.not 89)] (.cnd 90 (sO [oM 6 (kI 2)] .ret) .skip)) (.seq (sO [oF 91 4 5,oL 92 91,oM 93 0,oF 94 1 5,oL 95 94,oo 96 (.nck 93),oF 97 0 96,oo 98 (.ixAr 4 1 97 95),oL 99 98,oB 100 .gtr 92 99] (.cnd 100 (sO [oM 6 (kI 6)] .ret) .skip)) (.seq (sO [oF 101 0 5,oL 102 101,oB 103 .eql 102 (kI 5)] (.cnd 103 (.seq (sO [oM 104 0,oo 105 (.nck 104),oF 106 5 105,oL 107 106,oF 108 4 5,oL 109 108,oB 110 .add 107 109,oB 111 .gtr 110 (kI 9)] (.cnd 111 (sO [oM 6 (kI 8)] .ret) .skip)) (.ops [oM 112 0,oM 113 0,oo 114 (.nck 113),oF 115 5 114,oL 116 115,oF 117 4 5,oL 118 117,oB 119 .add 116 118,oo 120 (.nck 112),oF 121 5 120,oS 1 121 119])) .skip)) (sO [oM 122 0,oF 123 1 5,oL 124 123,oM 125 0,oF 126 1 5,oL 127 126,oo 128 (.nck 125),oF 129 0 128,oo 130 (.ixAr 4 1 129 127),oL 131 130,oF 132 4 5,oL 133 132,oB 134 .sub 131 133,oo 135 (.nck 122),oF 136 0 135,oo 137 (.ixAr 4 1 136 124),oS 1 137 134] (sO [oM 6 (kI 0)] .ret)))))))))⟩
theorem rdealA_c(G:Gm)(d:Dl)(g h:Nat)(t:Tb)(tr:List Int)(hn:1≤G.ws.length∧G.ws.length≤6)(ht:tbOK t)(hr:trO tr t.tried)(hl:tr.length≤1000)(hk:inB d.kind 1 6=true)(h45:inB d.bag 0 3=true→ ¬(d.kind=4∨d.kind=5)):
  RawC Tryz.prog 146 [.ref 1000 g 0,gmA G,dlA d] (sg (tbS 2001 g t tr h)) (SR (fun (x:Tb×List Int×Nat) v=>v= .int .i64 (dealE G.ws.length d t)∧(dealE G.ws.length d t=0→x.1=dealT d t∧trO x.2.1 (dealT d t).tried∧x.2.1.length≤tr.length+1)) (fun x=>tbS 2001 g x.1 x.2.1 x.2.2)):=by
 have hb:=ht.b;obtain⟨k1,k2⟩:=inB_t.1 hk;obtain⟨E,hE⟩:∃E,dealE G.ws.length d t=E:=⟨_,rfl⟩;obtain⟨D,hD⟩:∃D,dealT d t=D:=⟨_,rfl⟩;rw[hE,hD];unfold dealE at hE;unfold dealT at hD;have hw:=rin_c d.wood 0 (G.ws.length-1);have hbg:=rin_c d.bag 0 3;have hot:=rin_c d.other 0 3;have hct:=rin_c d.count 1 12;have hm:=ht.m;have hc9:=ht.c;by_cases e1:d.kind=1
 · rw[if_pos e1] at hE hD;have hT:=rtrial_c G d g h t tr hn ht hr hl;rw[hE] at hT;refine wk ir146 Tryz.func146 ?_;unfold ir146
   repeat' (first|refine aR ?_|((with_reducible refine aC ?_);first|((refine ACall.tab (α:=Tb×List Int×Nat) (p:=1000) (q:=2001) (T:=fun x=>x.1) (R:=fun x=>x.2.1) (H:=fun x=>x.2.2) hT rfl rfl rfl rfl rfl rfl rfl rfl rfl ?_ (by rintro x av ⟨hx,-⟩;exact⟨_,hx⟩);rintro⟨t2,tr2,h2⟩ _ ⟨rfl,hx⟩ _ _)))|refine aX ?_|with_reducible intro _|refine aP ?_ ?_)
   all_goals first|(exfalso;omega)|exact⟨(t2,tr2,h2),⟨rfl,fun h0=>by obtain⟨q1,q2,q3⟩:=hx h0;rw[←hD];exact⟨q1,q2,by dsimp only at q3 ⊢;omega⟩⟩,rfl,rfl,trivial⟩
 rw[if_neg e1] at hE hD;by_cases e6:d.kind=6
 · rw[if_neg (by omega),if_neg (by omega),if_neg (by omega),if_neg (by omega)] at hE hD;unfold placeE at hE;by_cases q1:inB d.wood 0 (G.ws.length-1)=true
   · rw[if_pos q1] at hE;rw[q1] at hw;by_cases q2:9<t.cens+1
     · rw[if_pos q2] at hE;subst hE;refine wk ir146 Tryz.func146 ?_;unfold ir146
       repeat' (first|refine aR ?_|(first|refine w_rtC rfl rfl rfl hb ?_)|((with_reducible refine aC ?_);first|refine aV hw ?_)|refine aX ?_|with_reducible intro _|refine aP ?_ ?_)
       all_goals first|(exfalso;omega)|exact⟨(t,tr,h),⟨rfl,fun h=>absurd h (by decide)⟩,rfl,rfl,trivial⟩
     · rw[if_neg q2] at hE;subst hE;refine wk ir146 Tryz.func146 ?_;unfold ir146
       repeat' (first|refine aR ?_|(first|refine w_rtC rfl rfl rfl hb ?_|refine w_rtSC rfl rfl rfl rfl hb ?_)|((with_reducible refine aC ?_);first|refine aV hw ?_)|refine aX ?_|with_reducible intro _|refine aP ?_ ?_)
       all_goals first|(exfalso;omega)|exact⟨({t with cens:=t.cens+1 },tr,h),⟨rfl,fun _=>⟨hD,by rw[←hD];exact hr,Nat.le_succ _⟩⟩,rfl,rfl,trivial⟩
   · rw[if_neg q1] at hE;subst hE;rw[show inB d.wood 0 (G.ws.length-1)=false by simpa using q1] at hw;refine wk ir146 Tryz.func146 ?_;unfold ir146
     repeat' (first|refine aR ?_|((with_reducible refine aC ?_);first|refine aV hw ?_)|refine aX ?_|with_reducible intro _|refine aP ?_ ?_)
     all_goals first|(exfalso;omega)|exact⟨(t,tr,h),⟨rfl,fun h=>absurd h (by decide)⟩,rfl,rfl,trivial⟩
 by_cases q1:inB d.bag 0 3=true
 rotate_left
 · have hq1:inB d.bag 0 3=false:=by simpa using q1
   have ha:asideE d t=2:=by unfold asideE;rw[if_neg (fun h=>q1 h.1)]
   have hE2:E=2:=by
    rw[←hE];by_cases e2:d.kind=2
    · rw[if_pos e2];unfold mixE;rw[if_neg q1]
    rw[if_neg e2];by_cases e3:d.kind=3
    · rw[if_pos e3];unfold pourE;rw[if_neg (fun h=>q1 h.1)]
    rw[if_neg e3];by_cases e4:d.kind=4
    · rw[if_pos e4];exact ha
    rw[if_neg e4,if_pos (by omega)];unfold passE;rw[ha];rfl
   subst hE2;rw[hq1] at hbg;refine wk ir146 Tryz.func146 ?_;unfold ir146
   repeat' (first|refine aR ?_|((with_reducible refine aC ?_);first|refine aV hbg ?_)|refine aX ?_|with_reducible intro _|refine aP ?_ ?_)
   all_goals first|(exfalso;omega)|exact⟨(t,tr,h),⟨rfl,fun h=>absurd h (by decide)⟩,rfl,rfl,trivial⟩
 rw[q1] at hbg;have hbi:=inB_t.1 q1;have hb4:d.bag.toNat<4:=by omega
 have hat:=ht.at hb4;have hat2:0≤t.bags.getD d.bag.toNat 0∧t.bags.getD d.bag.toNat 0≤12:=hat;by_cases e2:d.kind=2
 · rw[if_pos e2] at hE hD;have hT:=rmix_c G d g h t tr hn ht q1;rw[hE] at hT;refine wk ir146 Tryz.func146 ?_;unfold ir146
   repeat' (first|refine aR ?_|((with_reducible refine aC ?_);first|refine aV hbg ?_|((refine ACall.tab (α:=Tb) (p:=1000) (q:=2001) (T:=fun x=>x) (R:=fun x=>tr) (H:=fun x=>h) hT rfl rfl rfl rfl rfl rfl rfl rfl rfl ?_ (by rintro x av ⟨hx,-⟩;exact⟨_,hx⟩);rintro t2 _ ⟨rfl,hx⟩ _ _)))|refine aX ?_|with_reducible intro _|refine aP ?_ ?_)
   all_goals first|(exfalso;omega)|exact⟨(t2,tr,h),⟨rfl,fun h0=>by rw[←hD];exact⟨hx h0,hr,Nat.le_succ _⟩⟩,rfl,rfl,trivial⟩
 rw[if_neg e2] at hE hD;by_cases e3:d.kind=3
 · rw[if_pos e3] at hE hD;unfold pourE at hE;by_cases q2:inB d.other 0 3=true
   rotate_left
   · rw[if_neg (fun h=>q2 h.2)] at hE;subst hE;rw[show inB d.other 0 3=false by simpa using q2] at hot;refine wk ir146 Tryz.func146 ?_;unfold ir146
     repeat' (first|refine aR ?_|((with_reducible refine aC ?_);first|refine aV hbg ?_|refine aV hot ?_)|refine aX ?_|with_reducible intro _|refine aP ?_ ?_)
     all_goals first|(exfalso;omega)|exact⟨(t,tr,h),⟨rfl,fun h=>absurd h (by decide)⟩,rfl,rfl,trivial⟩
   rw[if_pos ⟨q1,q2⟩] at hE;rw[q2] at hot;have hoi:=inB_t.1 q2;have ho4:d.other.toNat<4:=by omega
   have hao:0≤t.bags.getD d.other.toNat 0∧t.bags.getD d.other.toNat 0≤12:=ht.at ho4;by_cases q3:d.bag=d.other
   · rw[if_pos q3] at hE;subst hE;refine wk ir146 Tryz.func146 ?_;unfold ir146
     repeat' (first|refine aR ?_|((with_reducible refine aC ?_);first|refine aV hbg ?_|refine aV hot ?_)|refine aX ?_|with_reducible intro _|refine aP ?_ ?_)
     all_goals first|(exfalso;omega)|exact⟨(t,tr,h),⟨rfl,fun h=>absurd h (by decide)⟩,rfl,rfl,trivial⟩
   · rw[if_neg q3] at hE;subst hE;have hb2:({t with bags:=t.bags.set d.other.toNat (t.bags.getD d.other.toNat 0+t.bags.getD d.bag.toNat 0) }:Tb).bags.length=4:=by show (List.set _ _ _).length=4;rw[List.length_set];exact hb
     refine wk ir146 Tryz.func146 ?_;unfold ir146
     repeat' (first|refine aR ?_|(first|refine w_rtB (w:=d.bag.toNat) rfl (by omega) rfl hb hb4 rfl ?_|refine w_rtB (w:=d.other.toNat) rfl (by omega) rfl hb ho4 rfl ?_|refine w_rtSB (w:=d.other.toNat) rfl (by omega) rfl rfl hb ho4 ?_|refine w_rtSB (w:=d.bag.toNat) rfl (by omega) rfl rfl hb2 hb4 ?_)|((with_reducible refine aC ?_);first|refine aV hbg ?_|refine aV hot ?_)|refine aX ?_|with_reducible intro _|refine aP ?_ ?_)
     all_goals first|(exfalso;omega)|exact⟨(_,tr,h),⟨rfl,fun _=>⟨hD,by rw[←hD];exact hr,Nat.le_succ _⟩⟩,rfl,rfl,trivial⟩
 rw[if_neg e3] at hE hD;exact absurd (show d.kind=4∨d.kind=5 by omega) (h45 q1)
theorem rdealB_c(G:Gm)(d:Dl)(g h:Nat)(t:Tb)(tr:List Int)(hn:1≤G.ws.length∧G.ws.length≤6)(ht:tbOK t)(hr:trO tr t.tried)(hl:tr.length≤1000)(hk:inB d.kind 1 6=true)(h45:d.kind=4∨d.kind=5)(q1:inB d.bag 0 3=true):
  RawC Tryz.prog 146 [.ref 1000 g 0,gmA G,dlA d] (sg (tbS 2001 g t tr h)) (SR (fun (x:Tb×List Int×Nat) v=>v= .int .i64 (dealE G.ws.length d t)∧(dealE G.ws.length d t=0→x.1=dealT d t∧trO x.2.1 (dealT d t).tried∧x.2.1.length≤tr.length+1)) (fun x=>tbS 2001 g x.1 x.2.1 x.2.2)):=by
 have hb:=ht.b;obtain⟨k1,k2⟩:=inB_t.1 hk;obtain⟨E,hE⟩:∃E,dealE G.ws.length d t=E:=⟨_,rfl⟩;obtain⟨D,hD⟩:∃D,dealT d t=D:=⟨_,rfl⟩;rw[hE,hD];unfold dealE at hE;unfold dealT at hD;have hw:=rin_c d.wood 0 (G.ws.length-1);have hbg:=rin_c d.bag 0 3;have hot:=rin_c d.other 0 3;have hct:=rin_c d.count 1 12;have hm:=ht.m;have hc9:=ht.c;have e1:¬d.kind=1:=by omega
 have e2:¬d.kind=2:=by omega
 have e3:¬d.kind=3:=by omega
 rw[if_neg e1,if_neg e2,if_neg e3] at hE hD;rw[q1] at hbg;have hbi:=inB_t.1 q1;have hb4:d.bag.toNat<4:=by omega
 have hat:=ht.at hb4;have hat2:0≤t.bags.getD d.bag.toNat 0∧t.bags.getD d.bag.toNat 0≤12:=hat;by_cases q2:inB d.count 1 12=true
 rotate_left
 · have ha:asideE d t=2:=by unfold asideE;rw[if_neg (fun h=>q2 h.2)]
   have hE2:E=2:=by
    rw[←hE];by_cases e4:d.kind=4
    · rw[if_pos e4];exact ha
    rw[if_neg e4,if_pos (by omega)];unfold passE;rw[ha];rfl
   subst hE2;rw[show inB d.count 1 12=false by simpa using q2] at hct;refine wk ir146 Tryz.func146 ?_;unfold ir146
   repeat' (first|refine aR ?_|((with_reducible refine aC ?_);first|refine aV hbg ?_|refine aV hct ?_)|refine aX ?_|with_reducible intro _|refine aP ?_ ?_)
   all_goals first|(exfalso;omega)|exact⟨(t,tr,h),⟨rfl,fun h=>absurd h (by decide)⟩,rfl,rfl,trivial⟩
 rw[q2] at hct;have hci:=inB_t.1 q2;by_cases q3:atI t.bags d.bag<d.count
 · have ha:asideE d t=6:=by unfold asideE;rw[if_pos ⟨q1,q2⟩,if_pos q3]
   have hE2:E=6:=by
    rw[←hE];by_cases e4:d.kind=4
    · rw[if_pos e4];exact ha
    rw[if_neg e4,if_pos (by omega)];unfold passE;rw[ha];rfl
   subst hE2;have q3':t.bags.getD d.bag.toNat 0<d.count:=q3;refine wk ir146 Tryz.func146 ?_;unfold ir146
   repeat' (first|refine aR ?_|(first|refine w_rtB (w:=d.bag.toNat) rfl (by omega) rfl hb hb4 rfl ?_)|((with_reducible refine aC ?_);first|refine aV hbg ?_|refine aV hct ?_)|refine aX ?_|with_reducible intro _|refine aP ?_ ?_)
   all_goals first|(exfalso;omega)|exact⟨(t,tr,h),⟨rfl,fun h=>absurd h (by decide)⟩,rfl,rfl,trivial⟩
 have ha:asideE d t=0:=by unfold asideE;rw[if_pos ⟨q1,q2⟩,if_neg q3]
 have q3':¬t.bags.getD d.bag.toNat 0<d.count:=q3;by_cases e4:d.kind=4
 · rw[if_pos e4] at hE hD;rw[ha] at hE;subst hE;refine wk ir146 Tryz.func146 ?_;unfold ir146
   repeat' (first|refine aR ?_|(first|refine w_rtB (w:=d.bag.toNat) rfl (by omega) rfl hb hb4 rfl ?_|refine w_rtSB (w:=d.bag.toNat) rfl (by omega) rfl rfl hb hb4 ?_)|((with_reducible refine aC ?_);first|refine aV hbg ?_|refine aV hct ?_)|refine aX ?_|with_reducible intro _|refine aP ?_ ?_)
   all_goals first|(exfalso;omega)|exact⟨(_,tr,h),⟨rfl,fun _=>⟨hD,by rw[←hD];exact hr,Nat.le_succ _⟩⟩,rfl,rfl,trivial⟩
 have e5:d.kind=5:=by omega
 rw[if_neg e4,if_pos e5] at hE hD;unfold passE at hE;rw[if_pos ha] at hE;by_cases q4:9<t.cens+d.count
 · rw[if_pos q4] at hE;subst hE;refine wk ir146 Tryz.func146 ?_;unfold ir146
   repeat' (first|refine aR ?_|(first|refine w_rtB (w:=d.bag.toNat) rfl (by omega) rfl hb hb4 rfl ?_|refine w_rtC rfl rfl rfl hb ?_)|((with_reducible refine aC ?_);first|refine aV hbg ?_|refine aV hct ?_)|refine aX ?_|with_reducible intro _|refine aP ?_ ?_)
   all_goals first|(exfalso;omega)|exact⟨(t,tr,h),⟨rfl,fun h=>absurd h (by decide)⟩,rfl,rfl,trivial⟩
 · rw[if_neg q4] at hE;subst hE;have hat3:0≤({t with cens:=t.cens+d.count }:Tb).bags.getD d.bag.toNat 0∧({t with cens:=t.cens+d.count }:Tb).bags.getD d.bag.toNat 0≤12:=hat2;refine wk ir146 Tryz.func146 ?_;unfold ir146
   repeat' (first|refine aR ?_|(first|refine w_rtB (w:=d.bag.toNat) rfl (by omega) rfl hb hb4 rfl ?_|refine w_rtC rfl rfl rfl hb ?_|refine w_rtSC rfl rfl rfl rfl hb ?_|refine w_rtB (t:={t with cens:=t.cens+d.count }) (b:=t.bags.getD d.bag.toNat 0) (w:=d.bag.toNat) rfl (by omega) rfl hb hb4 rfl ?_|refine w_rtSB (t:={t with cens:=t.cens+d.count }) (w:=d.bag.toNat) rfl (by omega) rfl rfl hb hb4 ?_)|((with_reducible refine aC ?_);first|refine aV hbg ?_|refine aV hct ?_)|refine aX ?_|with_reducible intro _|refine aP ?_ ?_)
   all_goals first|(exfalso;omega)|exact⟨(_,tr,h),⟨rfl,fun _=>⟨hD,by rw[←hD];exact hr,Nat.le_succ _⟩⟩,rfl,rfl,trivial⟩
theorem rdeal_c(G:Gm)(d:Dl)(g h:Nat)(t:Tb)(tr:List Int)(hn:1≤G.ws.length∧G.ws.length≤6)(ht:tbOK t)(hr:trO tr t.tried)(hl:tr.length≤1000)(hk:inB d.kind 1 6=true):
  RawC Tryz.prog 146 [.ref 1000 g 0,gmA G,dlA d] (sg (tbS 2001 g t tr h)) (SR (fun (x:Tb×List Int×Nat) v=>v= .int .i64 (dealE G.ws.length d t)∧(dealE G.ws.length d t=0→x.1=dealT d t∧trO x.2.1 (dealT d t).tried∧x.2.1.length≤tr.length+1)) (fun x=>tbS 2001 g x.1 x.2.1 x.2.2)):=by
 by_cases h:d.kind=4∨d.kind=5
 · by_cases q1:inB d.bag 0 3=true
   · exact rdealB_c G d g _ t tr hn ht hr hl hk h q1
   · exact rdealA_c G d g _ t tr hn ht hr hl hk fun q=>absurd q q1
 · exact rdealA_c G d g _ t tr hn ht hr hl hk fun _=>h
def ir83:IFn:= ⟨50,[(2,none)],(sO [oo 1 (.box 2 0),oM 2 (kI 0)] (.seq (sO [oF 8 0 1,oL 9 8,oC 10 144 [9],oM 3 10] (sO [oM 11 3,oB 12 .neq 11 (kI 0)] (.cnd 12 (sO [oM 13 3,oM 2 13] .ret) .skip))) (.seq (sO [oF 14 1 1,oL 15 14,oN 16 15,oB 17 .gtr 16 (kI 24)] (.cnd 17 (sO [oM 2 (kI 8)] .ret) .skip)) (sO [oo 18 (.bld [z0,z0,z0,z0,z0,z0,.nsl] []),oo 19 (.box 7 18),oM 4 19] (.seq (sO [oM 5 (kI 0)] (.blk 0 (.loop (.seq (sO [oM 20 5,oF 21 1 1,oL 22 21,oN 23 22,oB 24 .lss 20 23] (.cnd 24 .skip (.exit 0))) (.seq (.blk 1 (sO [oF 27 1 1,oL 28 27,oM 29 5,oA 30 5 28 29,oo 31 (.ld 5 true 30),oo 6 (.new [z0,z0,z0,z0,z0]),oS 5 6 31] (.seq (sO [oF 32 0 6,oL 33 32,oC 34 87 [33,(kI 1),(kI 6)],oo 35 (.not 34)] (.cnd 35 (sO [oM 2 (kI 4)] .ret) .skip)) (.seq (sO [oo 36 (.ld 5 true 6),oC 37 145 [36]] (.cnd 37 (sO [oM 2 (kI 3)] .ret) .skip)) (sO [oM 38 4,oo 39 (.ld 2 true 1),oo 40 (.ld 5 true 6),oC 41 146 [38,39,40],oM 7 41] (sO [oM 42 7,oB 43 .neq 42 (kI 0)] (.cnd 43 (sO [oM 44 7,oM 2 44] .ret) .skip))))))) (.ops [oM 25 5,oB 26 .add 25 (kI 1),oM 5 26])))))) (.seq (sO [oM 45 4,oo 46 (.nck 45),oF 47 5 46,oL 48 47,oB 49 .eql 48 (kI 0)] (.cnd 49 (sO [oM 2 (kI 6)] .ret) .skip)) (sO [oM 2 (kI 0)] .ret)))))))⟩
theorem trO0:trO [] tb0.tried:=fun w hw=>by rcases (by omega:w=0∨w=1∨w=2∨w=3∨w=4∨w=5) with rfl|rfl|rfl|rfl|rfl|rfl<;>simp[tb0]
theorem gRefCheck_c(G:Gm)(hw:G.ws.length<1000)(hd:G.ds.length<1000)(hs:∀w∈G.ws,w.name.size≤1000):FV 83 [gmA G] (.int .i64 (gmErr G)):=by
 have hcw:=checkWoods_c G.ws hw hs;obtain⟨R,hR⟩:∃R,gmErr G=R:=⟨_,rfl⟩;rw[hR];unfold gmErr at hR;obtain⟨W,hW⟩:∃W,(if G.ws=[] then (6:Int) else if 6<G.ws.length then 8 else wsErr [] G.ws)=W:=⟨_,rfl⟩;rw[hW] at hcw;by_cases hW0:W=0
 rotate_left
 · have hRW:R=W:=by
    rw[←hR,←hW];by_cases h1:G.ws=[]
    · rw[if_pos h1,if_pos h1]
    rw[if_neg h1,if_neg h1];by_cases h2:6<G.ws.length
    · rw[if_pos h2,if_pos h2]
    rw[if_neg h2,if_neg h2,if_neg];rw[if_neg h1,if_neg h2] at hW;rw[hW];exact hW0
   subst hRW;refine wk ir83 Tryz.func83 ?_;unfold ir83
   repeat' (first|refine aR ?_|with_reducible refine zI fun y hy=>?_|((with_reducible refine aC ?_);first|refine aV hcw ?_)|refine aX ?_|with_reducible intro _|with_reducible refine zJ ?_ fun y hy=>?_|refine aP ?_ ?_)
   all_goals exact aZ
 subst hW0;have h1:¬G.ws=[]:=fun h=>by rw[if_pos h] at hW;exact absurd hW (by decide)
 rw[if_neg h1] at hW hR;have h2:¬6<G.ws.length:=fun h=>by rw[if_pos h] at hW;exact absurd hW (by decide)
 rw[if_neg h2] at hW hR;rw[if_pos hW] at hR;have hpos:0<G.ws.length:=List.length_pos_iff.2 h1;by_cases h3:24<G.ds.length
 · rw[if_pos h3] at hR;subst hR;refine wk ir83 Tryz.func83 ?_;unfold ir83
   repeat' (first|refine aR ?_|with_reducible refine zI fun y hy=>?_|((with_reducible refine aC ?_);first|refine aV hcw ?_)|refine aX ?_|with_reducible intro _|with_reducible refine zJ ?_ fun y hy=>?_|refine aP ?_ ?_)
   all_goals exact aZ
 rw[if_neg h3] at hR;refine wk ir83 Tryz.func83 ?_;unfold ir83
 repeat' (first|refine aR ?_|with_reducible refine zI fun y hy=>?_|((with_reducible refine aC ?_);first|refine aV hcw ?_)|refine aX ?_|with_reducible intro _|with_reducible refine zJ ?_ fun y hy=>?_|refine aP ?_ ?_)
 all_goals try (exfalso;omega)
 rename_i g19
 refine w_loopK [1,4] [1] (fun x:List Dl×List Dl×Tb×List Int×Nat=>G.ds=x.1++x.2.1∧(if dsErr G.ws.length x.2.2.1 x.2.1=0 then (if (dsTab x.2.2.1 x.2.1).cens=0 then 6 else 0) else dsErr G.ws.length x.2.2.1 x.2.1)=R∧tbOK x.2.2.1∧trO x.2.2.2.1 x.2.2.1.tried∧x.2.2.2.1.length≤x.1.length) (fun x=>x.2.1.length) (fun x=>[(5,.int .i64 (x.1.length:Int))])
  (fun x=>[(19,(g19,.row (rtRow x.2.2.1 (trV 2001 x.2.2.2.1 x.2.2.2.2)))),(2001,trS x.2.2.2.1 x.2.2.2.2)]) ([],G.ds,tb0,[],0) ⟨rfl,hR,tb0_ok,trO0,Nat.le_refl _⟩ ⟨rfl,trivial⟩ ⟨rfl,rfl,trivial⟩ ?_
 rintro⟨pre,post,t,tr,h⟩ ⟨hl,hb,ht,hto,htl⟩ e σ;dsimp only at hl hb ht hto htl ⊢;have hlen:=congrArg List.length hl;rw[List.length_append] at hlen;have hbg:=ht.b;cases post with
 | nil=>
   simp only[List.length_nil] at hlen;rw[show dsErr G.ws.length t []=0 from rfl,if_pos rfl] at hb;by_cases hc:t.cens=0
   · rw[show (dsTab t []).cens=t.cens from rfl,if_pos hc] at hb;subst hb
     repeat' (first|refine aR ?_|(first|refine w_rtC rfl rfl rfl hbg ?_)|with_reducible refine zI fun y hy=>?_|refine aX ?_|with_reducible intro _|with_reducible refine zJ ?_ fun y hy=>?_|refine aP ?_ ?_)
     all_goals exact aZ
   · rw[show (dsTab t []).cens=t.cens from rfl,if_neg hc] at hb;subst hb
     repeat' (first|refine aR ?_|(first|refine w_rtC rfl rfl rfl hbg ?_)|with_reducible refine zI fun y hy=>?_|refine aX ?_|with_reducible intro _|with_reducible refine zJ ?_ fun y hy=>?_|refine aP ?_ ?_)
     all_goals first|(exfalso;omega)|rfl
 | cons d post=>
   simp only[List.length_cons] at hlen;have hk:=rin_c d.kind 1 6;rw[dsErr] at hb;obtain⟨E,hE⟩:∃E,dlErr G.ws.length d t=E:=⟨_,rfl⟩;have hE':=hE;unfold dlErr at hE';rw[hE] at hb;by_cases e1:inB d.kind 1 6=true
   rotate_left
   · rw[if_neg e1] at hE';subst hE';simp only[show ¬(4:Int)=0 from by decide,if_false] at hb;subst hb;rw[show inB d.kind 1 6=false by simpa using e1] at hk
     repeat' (first|refine aR ?_|(refine w_ixP (f:=fun d:Dl=>[AV.int .i64 d.kind,.int .i64 d.bag,.int .i64 d.other,.int .i64 d.wood,.int .i64 d.count]) hl rfl rfl ?_)|with_reducible refine zI fun y hy=>?_|((with_reducible refine aC ?_);first|refine aV hk ?_)|refine aX ?_|with_reducible intro _|with_reducible refine zJ ?_ fun y hy=>?_|refine aP ?_ ?_)
     all_goals exact aZ
   rw[if_pos e1] at hE';rw[e1] at hk;have hnd:=needless_c d e1;by_cases e2:formD d=true
   rotate_left
   · rw[if_neg e2] at hE';subst hE';simp only[show ¬(3:Int)=0 from by decide,if_false] at hb;subst hb;rw[show formD d=false by simpa using e2] at hnd
     repeat' (first|refine aR ?_|(refine w_ixP (f:=fun d:Dl=>[AV.int .i64 d.kind,.int .i64 d.bag,.int .i64 d.other,.int .i64 d.wood,.int .i64 d.count]) hl rfl rfl ?_)|with_reducible refine zI fun y hy=>?_|((with_reducible refine aC ?_);first|refine aV hk ?_|refine aV hnd ?_)|refine aX ?_|with_reducible intro _|with_reducible refine zJ ?_ fun y hy=>?_|refine aP ?_ ?_)
     all_goals exact aZ
   rw[if_pos e2] at hE';rw[e2] at hnd;have hdl:=rdeal_c G d g19 h t tr ⟨by omega,by omega⟩ ht hto (by omega) e1;rw[hE'] at hdl;by_cases e3:E=0
   · subst e3;rw[if_pos rfl] at hb
     repeat' (first|refine aR ?_|(refine w_ixP (f:=fun d:Dl=>[AV.int .i64 d.kind,.int .i64 d.bag,.int .i64 d.other,.int .i64 d.wood,.int .i64 d.count]) hl rfl rfl ?_)|with_reducible refine zI fun y hy=>?_|((with_reducible refine aC ?_);first|refine aV hk ?_|refine aV hnd ?_|((refine ACall.tab (α:=Tb×List Int×Nat) (p:=19) (q:=2001) (T:=fun x=>x.1) (R:=fun x=>x.2.1) (H:=fun x=>x.2.2) hdl rfl rfl rfl rfl rfl rfl rfl rfl rfl ?_ (by rintro x av ⟨hx,-⟩;exact⟨_,hx⟩);rintro⟨t2,tr2,h2⟩ _ ⟨rfl,hx⟩ _ _)))|refine aX ?_|with_reducible intro _|with_reducible refine zJ ?_ fun y hy=>?_|refine aP ?_ ?_)
     all_goals try (exfalso;omega)
     all_goals
      obtain⟨q1,q2,q3⟩:=hx rfl;dsimp only at q1 q2 q3;subst q1;exact q_loop (pre++[d],post,dealT d t,tr2,h2) ⟨by rw[hl];simp,hb,dealT_ok e1 ht hE',q2,by dsimp only;rw[len_snoc];omega⟩ (Nat.lt_succ_self _) ⟨by rw[len_snoc];rfl,trivial⟩ ⟨rfl,rfl,trivial⟩ aK aK
   · rw[if_neg e3,if_neg e3] at hb;subst hb
     repeat' (first|refine aR ?_|(refine w_ixP (f:=fun d:Dl=>[AV.int .i64 d.kind,.int .i64 d.bag,.int .i64 d.other,.int .i64 d.wood,.int .i64 d.count]) hl rfl rfl ?_)|with_reducible refine zI fun y hy=>?_|((with_reducible refine aC ?_);first|refine aV hk ?_|refine aV hnd ?_|((refine ACall.tab (α:=Tb×List Int×Nat) (p:=19) (q:=2001) (T:=fun x=>x.1) (R:=fun x=>x.2.1) (H:=fun x=>x.2.2) hdl rfl rfl rfl rfl rfl rfl rfl rfl rfl ?_ (by rintro x av ⟨hx,-⟩;exact⟨_,hx⟩);rintro⟨t2,tr2,h2⟩ _ ⟨rfl,hx⟩ _ _)))|refine aX ?_|with_reducible intro _|with_reducible refine zJ ?_ fun y hy=>?_|refine aP ?_ ?_)
     all_goals exact aZ
theorem szL_288{G:Gm}(h:GOK G):(szL (stepsG G.ds) tb0.bags).length≤288:=by have h1:=acts_len G.ds h.cnt;have h2:=h.d24;rw[←szL_nrm,←acts_sp,szL_len];have h3:drawN ((actsF G.ds).map spOf)≤((actsF G.ds).map spOf).length:=List.length_filter_le _ _;rw[List.length_map] at h3;omega
section
variable {P:Program}
structure FlatR {α:Type} (row:α→List AV) (sz:Nat):Prop where
 len:∀x,(row x).length=sz
 norm:∀x,normL (row x)=row x
 scal:∀x,(row x).all AV.scal=true
 frz:∀i g c x,frzL i g c (row x)=row x
 ren:∀ρ x,renL ρ (row x)=row x
variable {α:Type} {row:α→List AV} {sz:Nat}
theorem FlatR.flat_len(h:FlatR row sz):∀xs:List α,(xs.map row).flatten.length=xs.length*sz
 | []=>by simp
 | x::xs=>by simp only[List.map_cons,List.flatten_cons,List.length_append,h.len,h.flat_len xs,List.length_cons,Nat.add_mul];omega
theorem FlatR.chunk(h:FlatR row sz):∀xs:List α,chunk sz xs.length (normL (xs.map row).flatten)=xs.map row
 | []=>rfl
 | x::xs=>by
   have e:normL ((x::xs).map row).flatten=row x++normL (xs.map row).flatten:=by
    simp only[List.map_cons,List.flatten_cons,normL,List.map_append]
    congr 1
    exact h.norm x
   rw[e,List.length_cons,Go.Abs.chunk,List.take_left' (h.len x),List.drop_left' (h.len x),h.chunk xs];rfl
theorem FlatR.set(h:FlatR row sz){pre post:List α}{y y':α}{j:Nat}{c:AV}(hj:j<sz)(hy:(row y).set j c=row y'):((pre++y::post).map row).flatten.set (pre.length*sz+j) c=((pre++y'::post).map row).flatten:=by rw[List.map_append,List.map_cons,List.flatten_append,List.flatten_cons,List.set_append_right _ _ (by rw[h.flat_len];omega),h.flat_len,Nat.add_sub_cancel_left,List.set_append_left _ _ (by rw[h.len];exact hj),hy];simp
theorem ACall.liftNS{f:Nat}{args0 args:List AV}{l0:List (Nat×(Nat×Res))}{σ:Sig}{β:Type}{V:β→AV→Prop}{L:β→List (Nat×(Nat×Res))}{d:Nat}{Q:AV→Sig→Prop}(h:RawC P f args0 (sg l0) (SR V L))(ρi os:List (Nat×Nat))(hos:outsB d os=true)(hr:renOK (os++ρi)=true)(ha:args0=renL (flipL ρi) args)(h0:l0=pull (flipL ρi) σ ρi)(hl:liveL σ ρi)(hc:∀x,covers (L x) (os++ρi)=true)(hQ:∀x av,V x av→Q (ren (os++ρi) av) (pushV (os++ρi) (L x) (os++ρi) σ)):ACall P f args σ d Q:=
 ACall.liftN h ρi os hos hr ha h0 hl fun av σ0' ⟨x,hV,hs⟩=>by rw[push_slots hs (hc x)];exact hQ x av hV
end
def drwN:List Dl→Int
 | []=>0
 | d::r=>(if drawsB d=true then d.count else 0)+drwN r
theorem drwN_snoc(d:Dl):∀l:List Dl,drwN (l++[d])=drwN l+(if drawsB d=true then d.count else 0)
 | []=>by show _+(0:Int)=0+_;omega
 | a::r=>by
   show _+drwN (r++[d])=_+drwN r+_
   rw[drwN_snoc d r];omega
theorem dsErr_snoc{n:Nat}{d:Dl}:∀{l:List Dl} {t:Tb},dsErr n t l=0→dlErr n d (dsTab t l)=0→dsErr n t (l++[d])=0
 | [],t,_,h=>by
   show dsErr n t (d::[])=0
   rw[dsErr,if_pos (show dlErr n d t=0 from h)];rfl
 | a::r,t,h0,h=>by
   rw[dsErr] at h0;by_cases ha:dlErr n a t=0
   · rw[if_pos ha] at h0;show dsErr n t (a::(r++[d]))=0
     rw[dsErr,if_pos ha];exact dsErr_snoc h0 h
   · rw[if_neg ha] at h0;exact absurd h0 ha
theorem dsTab_snoc{d:Dl}:∀{l:List Dl} {t:Tb},dsTab t (l++[d])=dealT d (dsTab t l)
 | [],_=>rfl
 | _::r,_=>dsTab_snoc (l:=r)
structure mkG (n:Nat) (D:List Dl) (T:Tb) (had:Int):Prop where
 e:dsErr n tb0 D=0
 t:dsTab tb0 D=T
 h:drwN D=had
theorem mkG.nil(n:Nat):mkG n [] tb0 0:=⟨rfl,rfl,rfl⟩
theorem mkG.ok{n:Nat}{D:List Dl}{T:Tb}{had:Int}(h:mkG n D T had):tbOK T:=by rw[←h.t];exact deals_tab D tb0 tb0_ok h.e
theorem mkG.snoc{n:Nat}{D:List Dl}{T:Tb}{had:Int}{d:Dl}(h:mkG n D T had)(hk:inB d.kind 1 6=true)(hf:formD d=true)(h0:dealE n d T=0):mkG n (D++[d]) (dealT d T) (had+if drawsB d=true then d.count else 0):=by
 refine⟨dsErr_snoc h.e ?_,?_,?_⟩
 · rw[h.t];unfold dlErr;rw[if_pos hk,if_pos hf];exact h0
 · rw[dsTab_snoc,h.t]
 · rw[drwN_snoc,h.h]
section
variable {n:Nat} {D:List Dl} {T:Tb} {had b o w c:Int} (h:mkG n D T had)
include h
theorem mkG.trial(hw:0≤w∧w<n)(ht:T.tried.getD w.toNat false=false):mkG n (D++[⟨1,0,0,w,0⟩]) {T with tried:=T.tried.set w.toNat true } had:=by
 have:=h.snoc (d:=⟨1,0,0,w,0⟩) rfl rfl (by
  show trialE n _ T=0
  unfold trialE;rw[if_pos (inB_t.2 (by dsimp only;omega)),if_neg (by dsimp only;rw[ht];decide)])
 have e:had+(if drawsB ⟨1,0,0,w,0⟩=true then (0:Int) else 0)=had:=by show had+0=had;omega
 rw[e] at this;exact this
theorem mkG.mix(hb:0≤b∧b≤3)(hw:0≤w∧w<n)(hc:1≤c∧c≤12)(hm:T.mixed+c≤12):mkG n (D++[⟨2,b,0,w,c⟩]) {T with mixed:=T.mixed+c,bags:=setI T.bags b (atI T.bags b+c) } had:=by
 have:=h.snoc (d:=⟨2,b,0,w,c⟩) rfl rfl (by
  show mixE n _ T=0
  unfold mixE;rw[if_pos (inB_t.2 (by dsimp only;omega)),if_pos (inB_t.2 (by dsimp only;omega)),if_pos (inB_t.2 (by dsimp only;omega)),if_neg (by dsimp only;omega)])
 have e:had+(if drawsB ⟨2,b,0,w,c⟩=true then c else 0)=had:=by show had+0=had;omega
 rw[e] at this;exact this
theorem mkG.pour(hb:0≤b∧b≤3)(ho:0≤o∧o≤3)(hne:b≠o):mkG n (D++[⟨3,b,o,0,0⟩]) {T with bags:=setI (setI T.bags o (atI T.bags o+atI T.bags b)) b 0 } had:=by
 have:=h.snoc (d:=⟨3,b,o,0,0⟩) rfl rfl (by
  show pourE _=0
  unfold pourE;rw[if_pos ⟨inB_t.2 (by dsimp only;omega),inB_t.2 (by dsimp only;omega)⟩,if_neg hne])
 have e:had+(if drawsB ⟨3,b,o,0,0⟩=true then (0:Int) else 0)=had:=by show had+0=had;omega
 rw[e] at this;exact this
theorem mkG.asideE(hb:0≤b∧b≤3)(hc:1≤c∧c≤atI T.bags b){k:Int}:Go.Abs.asideE ⟨k,b,0,0,c⟩ T=0:=by have:=h.ok.at (b:=b) (by omega);unfold Go.Abs.asideE;rw[if_pos ⟨inB_t.2 (by dsimp only;omega),inB_t.2 (by dsimp only;omega)⟩,if_neg (by dsimp only;omega)]
theorem mkG.aside(hb:0≤b∧b≤3)(hc:1≤c∧c≤atI T.bags b):mkG n (D++[⟨4,b,0,0,c⟩]) {T with bags:=setI T.bags b (atI T.bags b-c) } (had+c):=
 h.snoc (d:=⟨4,b,0,0,c⟩) rfl rfl (h.asideE hb hc)
theorem mkG.pass(hb:0≤b∧b≤3)(hc:1≤c∧c≤atI T.bags b)(h9:T.cens+c≤9):mkG n (D++[⟨5,b,0,0,c⟩]) {T with bags:=setI T.bags b (atI T.bags b-c),cens:=T.cens+c } (had+c):=
 h.snoc (d:=⟨5,b,0,0,c⟩) rfl rfl (by
  show passE _ T=0
  unfold passE;rw[if_pos (h.asideE hb hc),if_neg (by dsimp only;omega)])
theorem mkG.place(hw:0≤w∧w<n)(h9:T.cens+1≤9):mkG n (D++[⟨6,0,0,w,0⟩]) {T with cens:=T.cens+1 } had:=by
 have:=h.snoc (d:=⟨6,0,0,w,0⟩) rfl rfl (by
  show placeE n _ T=0
  unfold placeE;rw[if_pos (inB_t.2 (by dsimp only;omega)),if_neg (by omega)])
 have e:had+(if drawsB ⟨6,0,0,w,0⟩=true then (0:Int) else 0)=had:=by show had+0=had;omega
 rw[e] at this;exact this
end
structure madeO (G:Gm) (woods drawn cens:Int):Prop where
 w:madeW G.ws
 n1:1≤G.ws.length
 n2:(G.ws.length:Int)≤woods
 d:G.ds.length≤24
 e:gmErr G=0
 h:drwN G.ds≤drawn
 c:(dsTab tb0 G.ds).cens≤cens
theorem mkG.made{G:Gm}{T:Tb}{had woods drawn cens:Int}(h:mkG G.ws.length G.ds T had)(hw:madeW G.ws)(n1:1≤G.ws.length)(n2:(G.ws.length:Int)≤woods)(h6:woods≤6)(hd:G.ds.length≤24)(hh:had≤drawn)(hc:1≤T.cens∧T.cens≤cens):madeO G woods drawn cens:=by refine⟨hw,n1,n2,hd,?_,by rw[h.h];exact hh,by rw[h.t];exact hc.2⟩;unfold gmErr;rw[if_neg (by intro e;rw[e] at n1;simp at n1),if_neg (by omega),if_pos (madeW_ok hw).1,if_neg (by omega),if_pos h.e,h.t,if_neg (by omega)]
theorem boxOf_s(l:List Int)(hl:l.length<2^62):RawC Tryz.prog 15 [.slc 1 (iR l) .non] (sg []) (SR (fun (x:Nat×Int) v=>v= .ref 6 x.1 0) (fun x=>[(6,(x.1,.row [.int .u64 x.2]))])):=
 (boxOf_c l hl).mono fun _ _ ⟨g,w,h1,h2⟩=>⟨(g,w),h1,h2,trivial⟩
def g3:Gm:=⟨[⟨⟨#[97]⟩,1⟩,⟨⟨#[98]⟩,2⟩,⟨⟨#[99]⟩,3⟩],[⟨1,0,0,0,0⟩,⟨1,0,0,1,0⟩,⟨2,0,0,0,2⟩,⟨2,0,0,1,1⟩,⟨2,0,0,2,1⟩,⟨5,0,0,0,3⟩]⟩
end Go.Abs
