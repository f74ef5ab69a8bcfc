/- A part of the proofs: contracts of functions. -/
import Derived.Test.YtioggblimkgioaaGreatProg
import Derived.Test.YtioggblimkgioaaGreatSnd3
import Derived.Lib.Overlaps
import Derived.Lib.AppendZerosOnto
import Derived.Deep.RegionLaw
import Derived.Laws.Externs
import Derived.Test.YtioggblimkgioaaGreatA0
import Derived.Test.YtioggblimkgioaaGreatQ1a
import Derived.Test.YtioggblimkgioaaGreatQ1b
import Derived.Test.YtioggblimkgioaaGreatQ1c
set_option linter.unusedVariables false
set_option linter.unusedSimpArgs false
set_option maxRecDepth 20000
set_option maxHeartbeats 4000000
set_option maxHeartbeats 1000000
namespace Go.Abs
open Go.Proofs
def ir72:IFn:= ⟨64,[(2,some (4,true)),(3,some (1,false))],(sO [oo 1 (.box 5 0),oo 2 (.new [.nsl,.nsl,.nsl,.nsl]),oo 3 (.new [z0])] (sO [oF 12 0 1,oo 13 (.ld 2 true 12),oC 14 122 [13],oM 11 14,oE 15 0 11,oE 16 1 11,oo 4 (.new [.nsl,.nsl,.nsl,.nsl]),oS 4 4 15,oM 5 16] (.seq (sO [oM 17 5,oB 18 .neq 17 (kI 0)] (.cnd 18 (sO [oo 19 (.ld 4 true 4),oM 20 5,oS 4 2 19,oS 1 3 20] .ret) .skip)) (.seq (sO [oF 21 2 1,oL 22 21,oN 23 22,oB 24 .gtr 23 (kI 4)] (.cnd 24 (sO [oo 25 (.ld 4 true 4),oS 4 2 25,oS 1 3 (kI 8)] .ret) .skip)) (.seq (sO [oF 26 2 1,oL 27 26,oN 28 27,oM 29 (kI 0)] (.blk 0 (.loop (sO [oB 30 .lss 29 28] (.seq (.cnd 30 .skip (.exit 0)) (.seq (.blk 1 (sO [oA 31 1 27 29,oo 32 (.ld 1 true 31),oo 7 (.new [.nsl]),oS 1 7 32] (sO [oo 33 (.ld 1 true 7),oo 34 (.ld 4 true 4),oC 35 124 [34],⟨none,none,(.chk 1 true 7 33)⟩,oC 36 123 [33,35],oM 8 36] (sO [oM 37 8,oB 38 .neq 37 (kI 0)] (.cnd 38 (sO [oo 39 (.ld 4 true 4),oM 40 8,oS 4 2 39,oS 1 3 40] .ret) .skip))))) (.ops [oB 41 .add 29 (kI 1),oM 29 41]))))))) (.seq (sO [oo 42 (.ld 4 true 4),oo 43 (.ld 5 true 1),oC 44 138 [42,43],oM 9 44] (sO [oM 45 9,oB 46 .neq 45 (kI 0)] (.cnd 46 (sO [oo 47 (.ld 4 true 4),oM 48 9,oS 4 2 47,oS 1 3 48] .ret) .skip))) (.seq (sO [oo 49 (.ld 4 true 4),oF 50 4 1,oL 51 50,oC 52 139 [49,51],oM 10 52] (sO [oM 53 10,oB 54 .neq 53 (kI 0)] (.cnd 54 (sO [oo 55 (.ld 4 true 4),oM 56 10,oS 4 2 55,oS 1 3 56] .ret) .skip))) (.seq (sO [oo 57 (.ld 4 true 4),oo 58 (.ld 5 true 1),oC 59 73 [57,58]] (.blk 2 (.rf 59 [60,61] .skip (.blk 3 (sO [oo 62 (.ld 4 true 4),oS 4 2 62,oS 1 3 (kI 0)] .ret))))) (sO [oo 63 (.ld 4 true 4),oS 4 2 63,oS 1 3 (kI 12)] .ret)))))))))⟩
theorem checked_c(M:Md)(hw:M.g.ws.length<1000)(hd:M.g.ds.length<1000)(hs:∀w∈M.g.ws,w.name.size≤1000):FV 72 [mdA M] (.tup [tbA M.g (crsO M.g).1,.int .i64 (mdErr M)]):=by
 have hT:=tableOf_c M.g hw hd hs;have hnR:(noR M.no).length=M.no.length:=List.length_map _;obtain⟨R,hR⟩:∃R,mdErr M=R:=⟨_,rfl⟩;rw[hR];unfold mdErr at hR;by_cases h0:(crsO M.g).2=0
 rotate_left
 · rw[if_neg h0] at hR;subst hR;refine wk ir72 Tryz.func72 ?_;unfold ir72
   repeat' (first|refine aR ?_|with_reducible refine zI fun y hy=>?_|((with_reducible refine aC ?_);first|refine aV hT ?_)|refine aX ?_|with_reducible intro _|with_reducible refine zJ ?_ fun y hy=>?_|refine aP ?_ ?_)
   all_goals exact aZ
 rw[if_pos h0] at hR;obtain⟨hG,_,hC1,hC2,hC3⟩:=crsK_ok h0;have hcl:=hG.cen;rw[h0,hC1] at hT;rw[hC1] at hR ⊢;by_cases hn4:M.no.length≤4
 rotate_left
 · rw[if_neg hn4] at hR;subst hR;refine wk ir72 Tryz.func72 ?_;unfold ir72
   repeat' (first|refine aR ?_|with_reducible refine zI fun y hy=>?_|((with_reducible refine aC ?_);first|refine aV hT ?_)|refine aX ?_|with_reducible intro _|with_reducible refine zJ ?_ fun y hy=>?_|refine aP ?_ ?_)
   all_goals exact aZ
 rw[if_pos hn4] at hR;have hwo:=twoods_c M.g (crsG M.g);refine wk ir72 Tryz.func72 ?_;unfold ir72
 repeat' (first|refine aR ?_|with_reducible refine zI fun y hy=>?_|((with_reducible refine aC ?_);first|refine aV hT ?_)|refine aX ?_|with_reducible intro _|with_reducible refine zJ ?_ fun y hy=>?_|refine aP ?_ ?_)
 all_goals try (exfalso;omega)
 refine w_loopK [1,2,3,4,27,28] [1,2,3,4] (fun x:List (List (List Int))×List (List (List Int))=>M.no=x.1++x.2∧nosErr M.g.ws.length M.no=nosErr M.g.ws.length x.2) (fun x=>x.2.length) (fun x=>[(29,.int .i64 (x.1.length:Int))]) (fun _=>[]) ([],M.no) ⟨rfl,rfl⟩ ⟨rfl,trivial⟩ trivial ?_;rintro⟨pre,post⟩ ⟨hl,hb⟩ e σ;dsimp only at hl hb ⊢;have hlen:=congrArg List.length hl;rw[List.length_append] at hlen;cases post with
 | cons n post=>
   simp only[List.length_cons] at hlen;have hck:=checkNose_c n M.g.ws.length hw;rw[nosErr] at hb;by_cases hn:noErr M.g.ws.length n=0
   · rw[if_pos hn] at hb;rw[hn] at hck
     repeat' (first|refine aR ?_|(first|refine w_ixP (f:=fun n:List (List Int)=>[AV.slc 1 (llR n) .non]) hl rfl rfl ?_)|with_reducible refine zI fun y hy=>?_|((with_reducible refine aC ?_);first|refine aV hwo ?_|refine aV hck ?_)|refine aX ?_|with_reducible intro _|with_reducible refine zJ ?_ fun y hy=>?_|refine aP ?_ ?_)
     all_goals first|(exfalso;omega)|exact q_loop (pre++[n],post) ⟨by show M.no=_;rw[hl];simp,hb⟩ (Nat.lt_succ_self _) ⟨by rw[len_snoc];rfl,trivial⟩ aS aK aK
   · rw[if_neg hn] at hb;rw[hb,if_neg hn] at hR;subst hR
     repeat' (first|refine aR ?_|(first|refine w_ixP (f:=fun n:List (List Int)=>[AV.slc 1 (llR n) .non]) hl rfl rfl ?_)|with_reducible refine zI fun y hy=>?_|((with_reducible refine aC ?_);first|refine aV hwo ?_|refine aV hck ?_)|refine aX ?_|with_reducible intro _|with_reducible refine zJ ?_ fun y hy=>?_|refine aP ?_ ?_)
     all_goals first|(exfalso;omega)|rfl
 | nil=>
   simp only[List.length_nil] at hlen;have hno0:nosErr M.g.ws.length M.no=0:=hb;rw[if_pos hno0] at hR;obtain⟨c0,C',hcc⟩:=List.exists_cons_of_ne_nil hC3;have hc0:=hC2.c c0 (by rw[hcc];simp);have hcs:=checkSmells_c M c0 C' (by omega) (by omega) hw;have hcf:=checkFacts_c M.g c0 C' M.fa (by omega) hw;rw[hc0.1,←hcc] at hcs hcf;by_cases h1:smErr M.no.length (censG (stepsG M.g.ds)) M.g.ws.length M.sm=0
   rotate_left
   · rw[if_neg h1] at hR;subst hR
     repeat' (first|refine aR ?_|with_reducible refine zI fun y hy=>?_|((with_reducible refine aC ?_);first|refine aV hcs ?_)|refine aX ?_|with_reducible intro _|with_reducible refine zJ ?_ fun y hy=>?_|refine aP ?_ ?_)
     all_goals exact aZ
   rw[if_pos h1] at hR;rw[h1] at hcs;by_cases h2:fcErr (censG (stepsG M.g.ds)) M.g.ws.length M.fa=0
   rotate_left
   · rw[if_neg h2] at hR;subst hR
     repeat' (first|refine aR ?_|with_reducible refine zI fun y hy=>?_|((with_reducible refine aC ?_);first|refine aV hcs ?_|refine aV hcf ?_)|refine aX ?_|with_reducible intro _|with_reducible refine zJ ?_ fun y hy=>?_|refine aP ?_ ?_)
     all_goals exact aZ
   rw[if_pos h2] at hR;rw[h2] at hcf;have hM:MdOK M (censG (stepsG M.g.ds)):=⟨hn4,nosErr_ok hno0,(smErr_ok h1).1,(smErr_ok h1).2,(fcErr_ok h2).1,(fcErr_ok h2).2⟩;have hit:=left_it M (crsG M.g) hM (by omega) hG.n6 hC2;have hlf:=tleft_c M (crsG M.g);obtain⟨L,hL⟩:∃L,lfF M (crsG M.g)=L:=⟨_,rfl⟩;rw[hL] at hR hit
   repeat' (first|refine aR ?_|with_reducible refine zI fun y hy=>?_|((with_reducible refine aC ?_);first|refine aV hcs ?_|refine aV hcf ?_|refine aV hlf ?_)|refine aX ?_|with_reducible intro _|with_reducible refine zJ ?_ fun y hy=>?_|refine aP ?_ ?_)
   all_goals try (exfalso;omega)
   rename_i gg;refine w_rfM encC L rfl hit (fun _=>rfl) [2,3,4] (fun (rest:List (List Int×Int)) (_:Unit)=>rest=L) (fun _=>[]) () rfl trivial ?_ ?_
   · rintro c rest _ hr σ';rw[if_neg (by rw[←hr];exact List.cons_ne_nil _ _)] at hR;subst hR
     repeat' (first|refine aR ?_|with_reducible refine zI fun y hy=>?_|refine aX ?_|with_reducible intro _|with_reducible refine zJ ?_ fun y hy=>?_|refine aP ?_ ?_)
     all_goals exact aZ
   · rintro _ hr σ';rw[if_pos hr.symm] at hR;subst hR
     repeat' (first|refine aR ?_|with_reducible refine zI fun y hy=>?_|refine aX ?_|with_reducible intro _|with_reducible refine zJ ?_ fun y hy=>?_|refine aP ?_ ?_)
     all_goals exact aZ
def ir19:IFn:= ⟨31,[(2,some (1,false)),(3,some (1,false)),(4,none)],(sO [oo 1 (.box 5 0),oo 2 (.new [.nsl]),oo 3 (.new [.nsl]),oM 4 (kI 0)] (sO [oo 9 (.ld 5 true 1),oC 10 72 [9],oM 8 10,oE 11 0 8,oE 12 1 8,oo 5 (.new [.nsl,.nsl,.nsl,.nsl]),oS 4 5 11,oM 4 12] (.seq (sO [oM 13 4,oB 14 .neq 13 (kI 0)] (.cnd 14 (sO [oM 15 4,⟨none,none,(.st 1 2 (.k .nsl))⟩,⟨none,none,(.st 1 3 (.k .nsl))⟩,oM 4 15] .ret) .skip)) (.seq (sO [oo 16 (.ld 4 true 5),oo 17 (.ld 5 true 1),oC 18 73 [16,17]] (.blk 0 (.rf 18 [19,20] (sO [oM 6 19] (.ops [oM 7 20])) (.blk 1 (.ops [oL 21 2,oM 22 6,oo 23 (.bsl 1 [[.nsl]] [(0,22)]),oL 25 3,oM 26 7,oo 27 (.bsl 1 [[z0]] [(0,26)]),oo 24 (.app 1 24 21 23 24),oK 3 25,oo 28 (.app 1 8 25 27 28),oS 1 2 24,oS 1 3 28]))))) (sO [oL 29 2,oL 30 3,oS 1 2 29,oK 3 30,oS 1 3 30,oM 4 (kI 0)] .ret)))))⟩
def lqV(l:List (List Int×Int))(g:Nat):AV:=match l with
 | []=> .nsl
 | _::_=> .slc 1 (llR (l.map (·.1))) (.own 24 g)
def lqW(l:List (List Int×Int))(g:Nat):AV:=match l with
 | []=> .nsl
 | _::_=> .slc 1 (iR (l.map (·.2))) (.own 28 g)
def lqX(l:List (List Int×Int))(g:Nat):Nat×Res:=match l with
 | []=>(0,.dead)
 | _::_=>(g,.row [])
theorem lf_len(M:Md)(C:List (List Int×Int)):(lfF M C).length≤C.length:=by unfold lfF;exact Nat.le_trans (List.length_filter_le _ _) (by rw[List.length_map];exact Nat.le_refl _)
theorem mdErr_ok{M:Md}(h:mdErr M=0):MdOK M (censG (stepsG M.g.ds))∧(crsO M.g).2=0∧lfF M (crsO M.g).1≠[]:=by
 unfold mdErr at h;by_cases h0:(crsO M.g).2=0
 · rw[if_pos h0] at h;by_cases h1:M.no.length≤4
   · rw[if_pos h1] at h;by_cases h2:nosErr M.g.ws.length M.no=0
     · rw[if_pos h2] at h;by_cases h3:smErr M.no.length (censG (stepsG M.g.ds)) M.g.ws.length M.sm=0
       · rw[if_pos h3] at h;by_cases h4:fcErr (censG (stepsG M.g.ds)) M.g.ws.length M.fa=0
         · rw[if_pos h4] at h;by_cases h5:lfF M (crsO M.g).1=[]
           · rw[if_pos h5] at h;exact absurd h (by decide)
           · exact⟨⟨h1,nosErr_ok h2,(smErr_ok h3).1,(smErr_ok h3).2,(fcErr_ok h4).1,(fcErr_ok h4).2⟩,h0,h5⟩
         · rw[if_neg h4] at h;exact absurd h h4
       · rw[if_neg h3] at h;exact absurd h h3
     · rw[if_neg h2] at h;exact absurd h h2
   · rw[if_neg h1] at h;exact absurd h (by decide)
 · rw[if_neg h0] at h;exact absurd h h0
theorem kLeft_c(M:Md)(hw:M.g.ws.length<1000)(hd:M.g.ds.length<1000)(hs:∀w∈M.g.ws,w.name.size≤1000):FV 19 [mdA M] (crsA (lfO M).1 (lfO M).2):=by
 have hck:=checked_c M hw hd hs;obtain⟨R,hR⟩:∃R,lfO M=R:=⟨_,rfl⟩;rw[hR];unfold lfO at hR;by_cases h0:mdErr M=0
 rotate_left
 · rw[if_neg h0] at hR;subst hR;refine wk ir19 Tryz.func19 ?_;unfold ir19
   repeat' (first|refine aR ?_|with_reducible refine zI fun y hy=>?_|((with_reducible refine aC ?_);first|refine aV hck ?_)|refine aX ?_|with_reducible intro _|with_reducible refine zJ ?_ fun y hy=>?_|refine aP ?_ ?_)
   all_goals exact aZ
 rw[if_pos h0] at hR;rw[h0] at hck;have hmd:=mdErr_ok h0;obtain⟨hM,h1,hne⟩:=hmd;obtain⟨hG,_,hC1,hC2,hC3⟩:=crsK_ok h1;have hcl:=hG.cen;rw[hC1] at hck hR;have h5:(lfF M (crsG M.g)).length≤5000:=Nat.le_trans (lf_len M _) hC2.l;have hit:=left_it M (crsG M.g) hM (by omega) hG.n6 hC2;have hlf:=tleft_c M (crsG M.g);obtain⟨L,hL⟩:∃L,lfF M (crsG M.g)=L:=⟨_,rfl⟩;rw[hL] at hR hit h5;refine wk ir19 Tryz.func19 ?_;unfold ir19
 repeat' (first|refine aR ?_|with_reducible refine zI fun y hy=>?_|((with_reducible refine aC ?_);first|refine aV hck ?_|refine aV hlf ?_)|refine aX ?_|with_reducible intro _|with_reducible refine zJ ?_ fun y hy=>?_|refine aP ?_ ?_)
 all_goals try (exfalso;omega)
 rename_i g1 g2 g3 g5;refine w_rfM encC L rfl hit (fun _=>rfl) [] (fun (rest:List (List Int×Int)) (y:List (List Int×Int)×Nat×Nat)=>y.1++rest=L) (fun y=>[(2,(g2,.row [lqV y.1 y.2.1])),(3,(g3,.row [lqW y.1 y.2.2])),(24,lqX y.1 y.2.1),(28,lqX y.1 y.2.2)]) ([],0,0) rfl ⟨rfl,rfl,rfl,rfl,trivial⟩ ?_ ?_
 · rintro⟨c,n⟩ rest ⟨l,ga,gb⟩ hl σ';dsimp only at hl ⊢;have hlen:=congrArg List.length hl;rw[List.length_append,List.length_cons] at hlen;cases l with
   | nil=>
     repeat' (first|refine aR ?_|with_reducible refine zI fun y hy=>?_|refine aX ?_|with_reducible intro _|with_reducible refine zJ ?_ fun y hy=>?_|refine aP ?_ ?_)
     all_goals try (exfalso;omega)
     all_goals
      rename_i ga' gb';exact q_rnd ([(c,n)],ga',gb') hl aS aK
   | cons x l=>
     have hml:(List.map (fun x=>x.1) (x::l)).length=(x::l).length:=by rw[List.length_map]
     have hml2:(List.map (fun x=>x.2) (x::l)).length=(x::l).length:=by rw[List.length_map]
     repeat' (first|refine aR ?_|with_reducible refine zI fun y hy=>?_|refine aX ?_|with_reducible intro _|with_reducible refine zJ ?_ fun y hy=>?_|refine aP ?_ ?_)
     all_goals try (exfalso;omega)
     all_goals
      rename_i ga' gb';have e1:llR (List.map (fun x=>x.1) (x::l)++[c])=llR ((x::l++[(c,n)]).map (·.1)):=by simp
      have e2:iR (List.map (fun x=>x.2) (x::l)++[n])=iR ((x::l++[(c,n)]).map (·.2)):=by simp
      exact q_rnd (x::l++[(c,n)],ga',gb') (by show (x::l++[(c,n)])++rest=_;rw[List.append_assoc];exact hl) ⟨congrArg (fun z=>(g2,Res.row [AV.slc 1 z (.own 24 ga')])) e1,congrArg (fun z=>(g3,Res.row [AV.slc 1 z (.own 28 gb')])) e2,rfl,rfl,trivial⟩ aK
 · rintro⟨l,ga,gb⟩ hl σ';dsimp only at hl ⊢;rw[List.append_nil] at hl;rw[←hl] at hR;subst hR;cases l with
   | nil=>
     repeat' (first|refine aR ?_|with_reducible refine zI fun y hy=>?_|refine aX ?_|with_reducible intro _|with_reducible refine zJ ?_ fun y hy=>?_|refine aP ?_ ?_)
     all_goals first|(exfalso;omega)|rfl
   | cons x l=>
     repeat' (first|refine aR ?_|with_reducible refine zI fun y hy=>?_|refine aX ?_|with_reducible intro _|with_reducible refine zJ ?_ fun y hy=>?_|refine aP ?_ ?_)
     all_goals exact aZ
def vdN(c n:Nat):Int:=if c=n then 1 else if c=0 then 2 else 3
def vdF{α:Type}(p:α→Bool)(l:List α):Int:=vdN (l.filter p).length l.length
def sureT(L:List (List Int))(i w:Nat):Int:=vdF (fun c:List Int=>decide (c.getD i 0=(w:Int))) L
def tabF(k n:Nat)(f:Nat→Nat→Int):List (List Int):=(List.range k).map fun i=>(List.range n).map fun w=>f i w
theorem tabF_len(k n:Nat)(f:Nat→Nat→Int):(tabF k n f).length=k:=by simp[tabF]
theorem tabF_row{k n:Nat}{f:Nat→Nat→Int}{r:List Int}(h:r∈tabF k n f):r.length=n:=by simp only[tabF,List.mem_map] at h;obtain⟨i,_,rfl⟩:=h;simp
theorem tabF_get{k n:Nat}{f:Nat→Nat→Int}{i:Nat}(h:i<k):(tabF k n f)[i]?=some ((List.range n).map fun w=>f i w):=by simp[tabF,List.getElem?_range h]
abbrev lfL(M:Md):List (List Int):=(lfO M).1.map (·.1)
def sureO(M:Md):List (List Int)×Int:=if mdErr M=0 then (tabF (censG (stepsG M.g.ds)) M.g.ws.length (sureT (lfL M)),0) else ([],mdErr M)
abbrev llE(x:List (List Int)×Int):AV:= .tup [.slc 1 (llR x.1) .non,.int .i64 x.2]
def lnV(l:List (List Int)):AV:=match l with
 | []=> .nsl
 | _::_=> .slc 1 (llR l) .non
abbrev lnE(x:List (List Int)×Int):AV:= .tup [lnV x.1,.int .i64 x.2]
theorem sub_lnE(x:List (List Int)×Int):Sub (lnE x) (llE x):=by
 obtain⟨l,e⟩:=x;cases l with
 | nil=>exact Sub.tupM (.cons Sub.nil (.cons (Sub.refl _) .nil))
 | cons=>exact Sub.refl _
theorem lnV_ne{l:List (List Int)}(h:l≠[]):lnV l= .slc 1 (llR l) .non:=by
 cases l with
 | nil=>exact absurd rfl h
 | cons=>rfl
theorem lf_ok{M:Md}(h:mdErr M=0):lfL M≠[]∧(lfL M).length≤5000∧ ∀c∈lfL M,c.length=censG (stepsG M.g.ds)∧ ∀w∈c,0≤w∧w<(M.g.ws.length:Int):=by
 obtain⟨_,h1,hne⟩:=mdErr_ok h;obtain⟨_,_,hC1,hC2,_⟩:=crsK_ok h1;have e:lfO M=(lfF M (crsG M.g),0):=by unfold lfO;rw[if_pos h,hC1]
 rw[hC1] at hne;unfold lfL;rw[e];dsimp only;refine⟨fun hn=>hne (List.map_eq_nil_iff.1 hn),by rw[List.length_map];exact Nat.le_trans (lf_len M _) hC2.l,fun c hc=>?_⟩;obtain⟨x,hx,rfl⟩:=List.mem_map.1 hc;unfold lfF at hx;obtain⟨y,hy,rfl⟩:=List.mem_map.1 (List.mem_filter.1 hx).1;have:=hC2.c y hy;exact⟨this.1,this.2.1⟩
def ir114:IFn:= ⟨27,[(4,none)],(sO [oM 4 (kI 0)] (sO [oM 5 (kI 0)] (.seq (sO [oM 8 0,oN 9 8,oM 10 (kI 0)] (.blk 0 (.loop (sO [oB 11 .lss 10 9] (.seq (.cnd 11 .skip (.exit 0)) (.seq (.blk 1 (sO [oA 12 1 8 10,oL 13 12,oM 7 13] (sO [oM 14 1,oM 15 7,oo 16 (.callV 14 [15])] (.cnd 16 (.ops [oM 17 5,oB 18 .add 17 (kI 1),oM 5 18]) .skip)))) (.ops [oB 19 .add 10 (kI 1),oM 10 19]))))))) (.seq (sO [oM 20 5] (.blk 2 (sO [oM 22 0,oN 23 22,oB 24 .eql 20 23,oM 21 24] (.cnd 21 (sO [oM 4 (kI 1)] .ret) (sO [oB 26 .eql 20 (kI 0),oM 25 26] (.cnd 25 (sO [oM 4 (kI 2)] .ret) .skip)))))) (sO [oM 4 (kI 3)] .ret)))))⟩
def ir115:IFn:= ⟨11,[(4,none)],(sO [oM 4 (kB false)] (sO [oM 5 0,oL 6 1,oA 7 1 5 6,oL 8 7,oL 9 2,oB 10 .eql 8 9,oM 4 10] .ret))⟩
def ir47:IFn:= ⟨51,[(2,none),(3,none)],(sO [oo 1 (.box 5 0),oM 2 (.k .nsl),oM 3 (kI 0)] (sO [oo 11 (.ld 5 true 1),oC 12 19 [11],oM 10 12,oE 13 0 10,oE 14 1 10,oE 15 2 10,oM 4 13,oM 5 14,oM 6 15] (.seq (sO [oM 16 6,oB 17 .neq 16 (kI 0)] (.cnd 17 (sO [oM 18 6,oM 2 (.k .nsl),oM 3 18] .ret) .skip)) (sO [oM 19 4,oo 20 (.ixA 1 19 (kI 0)),oL 21 20,oN 22 21,oo 23 (.mks 1 24 [.nsl] 22 22),oM 7 23] (.seq (sO [oM 24 7,oN 25 24,oM 26 (kI 0)] (.blk 0 (.loop (sO [oB 27 .lss 26 25] (.seq (.cnd 27 .skip (.exit 0)) (.seq (.blk 1 (sO [oM 28 26,oo 8 (.new [z0]),oS 1 8 28] (.seq (.seq (.frz 8) (.ops [oF 29 0 1,oF 30 0 29,oL 31 30,oN 32 31,oM 33 (kI 0)])) (.blk 2 (.loop (sO [oB 34 .lss 33 32] (.seq (.cnd 34 .skip (.exit 2)) (.seq (.blk 3 (sO [oM 35 33,oo 9 (.new [z0]),oS 1 9 35] (.seq (.frz 9) (.ops [oM 36 7,oL 37 8,oM 38 7,oL 39 8,oA 40 1 38 39,oL 41 40,oM 42 4,oo 43 (.mkf (.func 115) [] [8,9]),oC 44 114 [42,43],oK 8 37,oK 8 39,oK 40 41,oo 45 (.bsl 1 [[z0]] [(0,44)]),oo 46 (.app 1 8 41 45 46),oK 8 37,oA 47 1 36 37,oS 1 47 46])))) (.ops [oB 48 .add 33 (kI 1),oM 33 48]))))))))) (.ops [oB 49 .add 26 (kI 1),oM 26 49]))))))) (.seq (.seq (.frz 7) (.ops [oM 50 7,oM 2 50,oM 3 (kI 0)])) .ret))))))⟩
def hint47(P:Program):Hint:={site:=[],nils:=[],frz:=[(32,8),(36,9),(50,7)],mve:=[],wr:=[] }
theorem verdict_c(k:Nat)(a b:List AV)(p:List Int→Bool)(l:List (List Int))(hl:l.length<1000000)(hf:∀x∈l,FV k [.slc 1 (iR x) .non,.pin a,.pin b] (.bool (p x))):FV 114 [.slc 1 (llR l) .non,.clo (.func k) [] [.pin a,.pin b]] (.int .i64 (vdF p l)):=by
 obtain⟨R,hR⟩:∃R,vdF p l=R:=⟨_,rfl⟩;rw[hR];unfold vdF vdN at hR;have hfl:=List.length_filter_le p l;refine wk ir114 Tryz.func114 ?_;unfold ir114
 repeat' (first|refine aR ?_|refine aX ?_|with_reducible intro _|refine aP ?_ ?_)
 refine w_loopK [0,1,8,9] [] (fun x:List (List Int)×List (List Int)=>l=x.1++x.2) (fun x=>x.2.length) (fun x=>[(10,.int .i64 x.1.length),(5,.int .i64 ((x.1.filter p).length:Nat))]) (fun _=>[]) ([],l) rfl ⟨rfl,rfl,trivial⟩ trivial ?_;rintro⟨pre,post⟩ hll e σ;dsimp only at hll ⊢;have hlen:=congrArg List.length hll;rw[List.length_append] at hlen;have hpl:=List.length_filter_le p pre;cases post with
 | nil=>
   rw[List.append_nil] at hll;subst hll;simp only[List.length_nil] at hlen;by_cases h1:(l.filter p).length=l.length
   · rw[if_pos h1] at hR;subst hR
     repeat' (first|refine aR ?_|refine aX ?_|with_reducible intro _|refine aP ?_ ?_)
     all_goals exact aZ
   · rw[if_neg h1] at hR;by_cases h2:(l.filter p).length=0
     · rw[if_pos h2] at hR;subst hR
       repeat' (first|refine aR ?_|refine aX ?_|with_reducible intro _|refine aP ?_ ?_)
       all_goals exact aZ
     · rw[if_neg h2] at hR;subst hR
       repeat' (first|refine aR ?_|refine aX ?_|with_reducible intro _|refine aP ?_ ?_)
       all_goals first|(exfalso;omega)|rfl
 | cons c post=>
   simp only[List.length_cons] at hlen;have hfc:=hf c (by rw[hll];simp);cases hpc:p c with
   | false=>
     rw[hpc] at hfc;have he:((pre++[c]).filter p).length=(pre.filter p).length:=by rw[List.filter_append,List.filter_cons,hpc];simp
     repeat' (first|refine aR ?_|(refine w_ixP (f:=fL) hll rfl rfl ?_)|((with_reducible refine aC ?_);first|refine aV hfc ?_)|refine aX ?_|with_reducible intro _|refine aP ?_ ?_)
     all_goals first|(exfalso;omega)|exact q_loop (pre++[c],post) (by show l=_;rw[hll];simp) (Nat.lt_succ_self _) ⟨by rw[len_snoc];rfl,by dsimp only;rw[he];rfl,trivial⟩ aS aK aK
   | true=>
     rw[hpc] at hfc;have he:((pre++[c]).filter p).length=(pre.filter p).length+1:=by rw[List.filter_append,List.filter_cons,hpc];simp
     repeat' (first|refine aR ?_|(refine w_ixP (f:=fL) hll rfl rfl ?_)|((with_reducible refine aC ?_);first|refine aV hfc ?_)|refine aX ?_|with_reducible intro _|refine aP ?_ ?_)
     all_goals first|(exfalso;omega)|exact q_loop (pre++[c],post) (by show l=_;rw[hll];simp) (Nat.lt_succ_self _) ⟨by rw[len_snoc];rfl,by dsimp only;rw[he];rfl,trivial⟩ aS aK aK
theorem sure1_c(c:List Int)(i w:Nat)(hi:i<c.length)(hc:c.length<1000):FV 115 [.slc 1 (iR c) .non,.pin [.int .i64 (i:Int)],.pin [.int .i64 (w:Int)]] (.bool (decide (c.getD i 0=(w:Int)))):=by
 have hcl:(iR c).length=c.length:=List.length_map _;obtain⟨hA,hA2⟩:=at_split (l:=c) (i:=i) (d:=0) hi;have hai:AV.int .i64 (i:Int)= .int .i64 ((c.take i).length:Int):=int_eq (by rw[hA2]);obtain⟨x,hx⟩:∃x,c.getD i 0=x:=⟨_,rfl⟩;rw[hx] at hA ⊢;refine wk ir115 Tryz.func115 ?_;unfold ir115
 repeat' (first|refine aR ?_|(first|refine w_ixP (f:=fI) hA rfl hai ?_)|refine aX ?_|with_reducible intro _|refine aP ?_ ?_)
 all_goals exact aZ
section
variable {P:Program}
abbrev ownN(k:Nat)(x:List Int×Nat):AV:= .slc 1 (iR x.1) (.own k x.2)
def curN(k:Nat)(cur:List Int)(g:Nat):AV:=match cur with
 | []=> .nsl
 | _::_=> .slc 1 (iR cur) (.own k g)
def curSN(k:Nat)(cur:List Int)(g:Nat):List (Nat×(Nat×Res)):=match cur with
 | []=>[]
 | _::_=>[(k,(g,.row []))]
theorem frzL_id{i g:Nat}{c:List AV}:∀{l:List AV},(∀a∈l,frzA i g c a=a)→frzL i g c l=l
 | [],_=>rfl
 | a::r,h=>by
   show frzA i g c a::frzL i g c r=a::r
   rw[h a (by simp),frzL_id fun b hb=>h b (by simp[hb])]
theorem frzL_ow{i g k n:Nat}{c:List AV}{xs:List (List Int×Nat)}:frzL i g c (xs.map (ownN k)++List.replicate n AV.nsl)=xs.map (ownN k)++List.replicate n AV.nsl:=
 frzL_id fun a ha=>(List.mem_append.1 ha).elim (fun ha=>by obtain⟨x,_,rfl⟩:=List.mem_map.1 ha;simp[frzA]) (fun ha=>by rw[(List.mem_replicate.1 ha).2];simp[frzA])
theorem frzL_ow2{i g k n h:Nat}{c:List AV}{xs:List (List Int×Nat)}{cur:List Int}:frzL i g c (xs.map (ownN k)++curN k cur h::List.replicate n AV.nsl)=xs.map (ownN k)++curN k cur h::List.replicate n AV.nsl:=by
 refine frzL_id fun a ha=>(List.mem_append.1 ha).elim (fun ha=>by obtain⟨x,_,rfl⟩:=List.mem_map.1 ha;simp[frzA]) fun ha=>?_;rcases List.mem_cons.1 ha with rfl | ha
 · cases cur<;>simp[curN,frzA]
 · rw[(List.mem_replicate.1 ha).2];simp[frzA]
theorem w_frzK{Q:Post}{e:Nat→AV}{σ:Sig}{t i g j gj:Nat}{c row:List AV}(hx:e t= .ref i g 0)(hσ:σ i=(g,.row c))(hs:c.all AV.scal=true)(hji:j≠i)(hj:σ j=(gj,.row row))(hrow:frzL i g c row=row)(hk:Q .nor (upd (frzE i g c e) t (.pin (normL c))) (upd (frzS i g c σ) j (gj,.row row))):awp P (.frz (.t t)) Q e σ:=by
 have h0:frzS i g c σ j=(gj,.row row):=by simp[frzS,hji,hj,frzR,hrow]
 rw[←upd_same h0] at hk;exact w_frzR hx hσ hs hk
theorem w_chC{K:(Nat→AV)→Sig→Prop}{e:Nat→AV}{σ:Sig}{x:IOpd}{t:Nat}{r:List IStep}{i g off:Nat}{pre post:List AV}{c:AV}(hx:x.ev e= .ref i g off)(hσ:σ i=(g,.row (pre++c::post)))(ho:off=pre.length)(hc:forceA c=some c)(ht:e t=c)(hk:stepsW P r K e σ):stepsW P (⟨none,none,.chk 1 false x t⟩::r) K e σ:=by
 subst ho;refine w_det0 (p:=(g=g∧True)∧c=e t) (v:= .junk) (σ':=σ) (fun _=>?_) ⟨⟨rfl,trivial⟩,ht.symm⟩ hk;have:(pre++c::post)[pre.length]?=some c:=by simp
 show (match ldO 1 false σ (x.ev e) with
  | some (p,v)=>some (p∧v=e t,AV.junk,σ)
  | none=>none)=_
 rw[hx];simp only[ldO,hσ,partO,this,hc,liftV,okV]
theorem chunkN(k:Nat):∀(xs:List (List Int×Nat)),chunk 1 xs.length (normL (xs.map (ownN k)))=llR (xs.map (·.1))
 | []=>rfl
 | x::xs=>by have:=chunkN k xs;simp only[List.length_cons,List.map_cons,normL,chunk];simp only[normL] at this;rw[show List.drop 1 (AV.norm (ownN k x)::List.map AV.norm (List.map (ownN k) xs))=List.map AV.norm (List.map (ownN k) xs) from rfl,this];rfl
theorem w_frzNk{Q:Post}{e:Nat→AV}{σ:Sig}{t i g n k:Nat}{xs:List (List Int×Nat)}(hx:e t= .msl i g n 1)(hσ:σ i=(g,.row (xs.map (ownN k))))(hn:xs.length=n)(hk:Q .nor (upd (frzE i g (xs.map (ownN k)) e) t (.slc 1 (llR (xs.map (·.1))) .non)) (frzS i g (xs.map (ownN k)) σ)):awp P (.frz (.t t)) Q e σ:=by
 subst hn;have he:frzE i g (xs.map (ownN k)) e t= .slc 1 (llR (xs.map (·.1))) .non:=by simp[frzE,hx,frzA,chunkN]
 rw[←upd_same he] at hk;show frzW (e t) e σ _
 rw[hx];show (match σ i with|(g',.row c)=>g=g'∧c.all AV.scal=true∧Q .nor (frzE i g c e) (frzS i g c σ) | _=>False)
 rw[hσ];exact⟨rfl,by simp[AV.scal],hk⟩
end
theorem kSure_c(M:Md)(hw:M.g.ws.length<1000)(hd:M.g.ds.length<1000)(hs:∀w∈M.g.ws,w.name.size≤1000):FV 47 [mdA M] (lnE (sureO M)):=by
 have hLf:=kLeft_c M hw hd hs;by_cases h0:mdErr M=0
 rotate_left
 · rw[show lfO M=([],mdErr M) by unfold lfO;rw[if_neg h0]] at hLf;rw[show sureO M=([],mdErr M) by unfold sureO;rw[if_neg h0]];refine RawC.walk (H:=hint47 Tryz.prog) ir47 Tryz.func47 rfl rfl rfl ?_;unfold ir47
   repeat' (first|refine aR ?_|((with_reducible refine aC ?_);first|refine aV hLf ?_)|refine aX ?_|with_reducible intro _|refine aP ?_ ?_)
   all_goals exact aZ
 rw[show sureO M=(tabF (censG (stepsG M.g.ds)) M.g.ws.length (sureT (lfL M)),0) by unfold sureO;rw[if_pos h0]];obtain⟨hne,h5,hok⟩:=lf_ok h0;obtain⟨_,h1,_⟩:=mdErr_ok h0;obtain⟨hG,_⟩:=crsK_ok h1;have hk1:=hG.cen.1;have hk9:=hG.cen.2;have hw1:=hG.n1;have hw6:=hG.n6;rw[show (lfO M).2=0 by unfold lfO;rw[if_pos h0]] at hLf;replace hLf:FV 19 [mdA M] (.tup [.slc 1 (llR (lfL M)) .non,.slc 1 (iR ((lfO M).1.map (·.2))) .non,.int .i64 0]):=subV2 hLf (sub_crsA _ _);generalize lfL M=L at hLf hne h5 hok ⊢;generalize (lfO M).1.map (·.2)=Lw at hLf;obtain⟨k,hk⟩:∃k,censG (stepsG M.g.ds)=k:=⟨_,rfl⟩;obtain⟨W,hW⟩:∃W,M.g.ws.length=W:=⟨_,rfl⟩;have hwR:(wR M.g.ws).length=M.g.ws.length:=List.length_map _;rw[hk] at hk1 hk9 hok ⊢;rw[hW] at hok hwR hw1 hw6;try rw[hW]
 rw[show lnE (tabF k W (sureT L),0)=llE (tabF k W (sureT L),0) by unfold lnE;rw[lnV_ne (List.ne_nil_of_length_pos (by rw[tabF_len];omega))]];obtain⟨c0,L',hcc⟩:=List.exists_cons_of_ne_nil hne;have hc0:=(hok c0 (by rw[hcc];simp)).1;have hcl:(iR c0).length=c0.length:=List.length_map _
 have hV:∀i j:Nat,i<k→j<W→FV 114 [.slc 1 (llR L) .non,.clo (.func 115) [] [.pin [.int .i64 (i:Int)],.pin [.int .i64 (j:Int)]]] (.int .i64 (sureT L i j)):=fun i j hi hj=>
  verdict_c _ _ _ _ L (by omega) fun x hx=>by have:=(hok x hx).1;exact sure1_c x i j (by omega) (by omega)
 refine RawC.walk (H:=hint47 Tryz.prog) ir47 Tryz.func47 rfl rfl rfl ?_;unfold ir47
 repeat' (first|refine aR ?_|(first|refine w_ixP (f:=fL) (pre:=[]) hcc rfl rfl ?_|(refine w_mksL (n:=c0.length) rfl (by omega) ?_;intro g23;rw[hc0]))|((with_reducible refine aC ?_);first|refine aV hLf ?_)|refine aX ?_|with_reducible intro _|refine aP ?_ ?_)
 all_goals try (exfalso;omega)
 refine w_loopK [1,4,7,25] [1] (fun x:List (List Int×Nat)=>x.length≤k∧x.map (·.1)=tabF x.length W (sureT L)) (fun x=>k-x.length) (fun x=>[(26,.int .i64 x.length)])
  (fun x=>[(23,(g23,.row (x.map (ownN 46)++List.replicate (k-x.length) AV.nsl)))]) [] ⟨by simp,rfl⟩ ⟨rfl,trivial⟩ ⟨rfl,trivial⟩ ?_
 rintro done ⟨hd1,hd2⟩ e1 σ1;dsimp only at hd1 hd2 ⊢;by_cases hlt:done.length<k
 case neg=>
  have hfin:done.map (ownN 46)++List.replicate (k-done.length) AV.nsl=done.map (ownN 46):=by rw[show k-done.length=0 by omega];simp
  have hdk:done.length=k:=by omega
  repeat' (first|refine aR ?_|refine aL ?_|(refine w_frzNk (k:=46) (xs:=done) rfl (show _ from congrArg (fun c=>((g23,Res.row c):Nat×Res)) hfin) (by omega) ?_)|refine aX ?_|with_reducible intro _|refine aP ?_ ?_)
  all_goals first|(exfalso;omega)|(rw[hd2,hdk];rfl)
 have hrep:List.replicate (k-done.length) AV.nsl=AV.nsl::List.replicate (k-done.length-1) AV.nsl:=by rw[show k-done.length=(k-done.length-1)+1 by omega,List.replicate_succ];simp
 have hdl:(done.map (ownN 46)).length=done.length:=by simp
 repeat' (first|refine aR ?_|refine aL ?_|(refine w_frzK (j:=23) rfl rfl rfl (by decide) rfl frzL_ow ?_)|refine aX ?_|with_reducible intro _|refine aP ?_ ?_)
 all_goals try (exfalso;omega)
 refine w_loopK [1,4,7,8,25,26,32] [1] (fun x:Nat×List Int×Nat=>x.1≤W∧x.2.1=(List.range x.1).map fun b=>sureT L done.length b) (fun x=>W-x.1) (fun x=>[(33,.int .i64 x.1)])
  (fun x=>[(23,(g23,.row (done.map (ownN 46)++curN 46 x.2.1 x.2.2::List.replicate (k-done.length-1) AV.nsl)))]++curSN 46 x.2.1 x.2.2) (0,[],0) ⟨Nat.zero_le _,rfl⟩ ⟨rfl,trivial⟩ (by exact⟨congrArg (fun c=>((g23,Res.row (done.map (ownN 46)++c)):Nat×Res)) hrep,trivial⟩) ?_
 rintro⟨b,cur,g46⟩ ⟨hb,hc⟩ e2 σ2;dsimp only at hb hc ⊢;have hcl:cur.length=b:=by rw[hc];simp
 by_cases hb2:b<W
 case neg=>
  have hb3:b=W:=by omega
  cases cur with
  | nil=>exfalso;simp at hcl;omega
  | cons c0 cur=>
    have hnx:done.map (ownN 46)++curN 46 (c0::cur) g46::List.replicate (k-done.length-1) AV.nsl=(done++[(c0::cur,g46)]).map (ownN 46)++List.replicate (k-(done++[(c0::cur,g46)]).length) AV.nsl:=by rw[List.map_append,List.length_append,List.append_assoc];rfl
    repeat' (first|refine aR ?_|refine aX ?_|with_reducible intro _|refine aP ?_ ?_)
    all_goals try (exfalso;omega)
    refine q_loop (done++[(c0::cur,g46)]) ?_ ?_ aS (by exact⟨congrArg (fun c=>((g23,Res.row c):Nat×Res)) hnx,trivial⟩) aK aK
    · refine⟨by simp;omega,?_⟩;rw[List.map_append,hd2,List.length_append,List.length_singleton];unfold tabF;rw[List.range_succ,List.map_append];simp only[List.map_cons,List.map_nil];rw[hc,hb3]
    · simp;omega
 have hv:=hV done.length b hlt hb2;have hcn:cur++[sureT L done.length b]=(List.range (b+1)).map fun b=>sureT L done.length b:=by rw[List.range_succ,List.map_append,←hc];rfl
 cases cur with
 | nil=>
   repeat' (first|refine aR ?_|(first|refine w_ldC rfl rfl (by rw[hdl];omega) rfl ?_|refine w_chC rfl rfl (by rw[hdl];omega) rfl rfl ?_|refine w_stC rfl rfl (by rw[hdl];omega) rfl ?_)|refine aL ?_|(refine w_frzK (j:=23) rfl rfl rfl (by decide) rfl frzL_ow2 ?_)|((with_reducible refine aC ?_);first|refine aV hv ?_)|refine aX ?_|with_reducible intro _|refine aP ?_ ?_)
   all_goals try (exfalso;omega)
   all_goals
    refine q_loop (b+1,[_],_) ?_ ?_ aS aS aK aK
    · exact⟨by dsimp only;omega,hcn⟩
    · dsimp only;omega
 | cons c0 cur=>
   repeat' (first|refine aR ?_|(first|refine w_ldC rfl rfl (by rw[hdl];omega) rfl ?_|refine w_chC rfl rfl (by rw[hdl];omega) rfl rfl ?_|refine w_stC rfl rfl (by rw[hdl];omega) rfl ?_)|refine aL ?_|(refine w_frzK (j:=23) rfl rfl rfl (by decide) rfl frzL_ow2 ?_)|((with_reducible refine aC ?_);first|refine aV hv ?_)|refine aX ?_|with_reducible intro _|refine aP ?_ ?_)
   all_goals try (exfalso;omega)
   all_goals
    refine q_loop (b+1,c0::cur++[_],_) ?_ ?_ aS aS aK aK
    · exact⟨by dsimp only;omega,hcn⟩
    · dsimp only;omega
section
variable {P:Program}
def renTF(ρ:List (Nat×Nat)):Tag→Tag
 | .own i g=>match lk ρ i with
   | some j=> .own j g
   | none=> .non
 | .full=> .full
 | .non=> .non
mutual
def renF(ρ:List (Nat×Nat)):AV→AV
 | .slc sz es t=> .slc sz es (renTF ρ t)
 | .msl i g n sz=>match lk ρ i with
   | some j=> .msl j g n sz
   | none=> .junk
 | .ref i g o=>match lk ρ i with
   | some j=> .ref j g o
   | none=> .junk
 | .agg c=> .agg (renFL ρ c)
 | .tup c=> .tup (renFL ρ c)
 | .clo f a b=> .clo f (renFL ρ a) (renFL ρ b)
 | .ifc t v=> .ifc t (renF ρ v)
 | .map i g=>match lk ρ i with
   | some j=> .map j g
   | none=> .junk
 | .itr i g=>match lk ρ i with
   | some j=> .itr j g
   | none=> .junk
 | .sub i g o n s=>match lk ρ i with
   | some j=> .sub j g o n s
   | none=> .junk
 | a=>a
def renFL(ρ:List (Nat×Nat)):List AV→List AV
 | []=>[]
 | a::r=>renF ρ a::renFL ρ r
end
mutual
theorem renF_rel{ρ:List (Nat×Nat)}{G G':GS}(h:RenOK ρ G G'):∀{a:AV} {v:Value},Rel G a v→Rel G' (renF ρ a) v
 | .junk,_,_=>trivial
 | .int _ _,_,hh=>hh
 | .bool _,_,hh=>hh
 | .str _,_,hh=>hh
 | .nsl,_,hh=>hh
 | .npt,_,hh=>hh
 | .nfn,_,hh=>hh
 | .nif,_,hh=>hh
 | .nmp,_,hh=>hh
 | .slc sz es .non,_,hh=>hh.imp (fun h=>⟨h.1.weak,h.2⟩) fun⟨b,o,cap,h1,h2,h3,h4⟩=>⟨b,o,cap,h1,h2,h3.toPure.mono h.pl,trivial⟩
 | .slc sz es .full,_,hh=>hh.imp (fun h=>h) fun⟨b,o,cap,h1,h2,h3,h4⟩=>⟨b,o,cap,h1,h2,h3.toPure.mono h.pl,h4⟩
 | .slc sz es (.own i g),v,hh=>by
   simp only[renF,renTF];split
   · rename_i j hj;refine hh.imp (fun h=>⟨h.1.own,h.2⟩) fun⟨b,o,cap,h1,h2,h3,h4⟩=>⟨b,o,cap,h1,h2,h3.toPure.mono h.pl,?_⟩;exact Or.imp (h.m _ _ hj _ _) id h4
   · exact hh.imp (fun h=>⟨h.1.weak,h.2⟩) fun⟨b,o,cap,h1,h2,h3,h4⟩=>⟨b,o,cap,h1,h2,h3.toPure.mono h.pl,trivial⟩
 | .msl i g n sz,v,hh=>by
   simp only[renF];split
   · rename_i j hj;obtain⟨b,cap,h1,h2,h3⟩:=hh;exact⟨b,cap,h1,h2,h.m _ _ hj _ _ h3⟩
   · trivial
 | .pin _,_,⟨b,o,h1,h2⟩=>⟨b,o,h1,h2.toPure.mono h.pl⟩
 | .ref i g o,v,hh=>by
   simp only[renF];split
   · rename_i j hj;obtain⟨b,lim,h1,h2⟩:=hh;exact⟨b,lim,h1,h.m _ _ hj _ _ h2⟩
   · trivial
 | .agg _,_,⟨vs,h1,h2⟩=>⟨vs,h1,renFL_rel h h2⟩
 | .tup _,_,⟨vs,h1,h2⟩=>⟨vs,h1,renFL_rel h h2⟩
 | .clo _ _ _,_,⟨f,c,h1,h2,h3⟩=>⟨f,c,h1,renFL_rel h h2,renFL_rel h h3⟩
 | .ifc _ _,_,⟨y,h1,h2⟩=>⟨y,h1,renF_rel h h2⟩
 | .map i g,v,hh=>by
   simp only[renF];split
   · rename_i j hj;obtain⟨b,h1,h2⟩:=hh;exact⟨b,h1,h.m _ _ hj _ _ h2⟩
   · trivial
 | .fmp _ _,_,⟨b,ks,vs,h1,h2,h3,h4⟩=>⟨b,ks,vs,h1,h.K _ _ _ h2,RelL.mono (GS.pure_mono h.pl) h3,RelL.mono (GS.pure_mono h.pl) h4⟩
 | .itr i g,v,hh=>by
   simp only[renF];split
   · rename_i j hj;obtain⟨b,h1,h2⟩:=hh;exact⟨b,h1,h.m _ _ hj _ _ h2⟩
   · trivial
 | .mpv _ _,_,hh=>hh.elim
 | .itv _ _ _,_,hh=>hh.elim
 | .sub i g o n s,v,hh=>by
   simp only[renF];split
   · rename_i j hj;obtain⟨b,o',cap,lim,h1,h2,h3,h4⟩:=hh;exact⟨b,o',cap,lim,h1,h2,h.m _ _ hj _ _ h3,h4⟩
   · trivial
theorem renFL_rel{ρ:List (Nat×Nat)}{G G':GS}(h:RenOK ρ G G'):∀{l:List AV} {vs:List Value},RelL G l vs→RelL G' (renFL ρ l) vs
 | [],_,hh=>hh
 | _::_,_,⟨v,r,h1,h2,h3⟩=>⟨v,r,h1,renF_rel h h2,renFL_rel h h3⟩
end
theorem RawC.liftCoreF{f:Nat}{args0 args:List AV}{σ0 σ:Sig}{R:AV→Sig→Prop}{d:Nat}{Q:AV→Sig→Prop}(h:RawC P f args0 σ0 R)(ρi:List (Nat×Nat))(os:List (Nat×Nat))(hos:∀i j,(i,j)∈os→j=d∨YS≤j)(hr:renOK (os++ρi)=true)(ha:args0=renL (flipL ρi) args)(hl:liveL σ ρi)(keep:Bool)(hs1:∀i j,(i,j)∈ρi→σ0 i=((σ j).1,renR (flipL ρi) (σ j).2))(hs2:∀i,(∀j,(i,j)∉ρi)→i≠YS→σ0 i=(0,.dead))(hk:keep=true→σ0 YS=σ YS∧ ∃l s,σ YS=(0,.yld l s))(hk':keep=false→σ0 YS=(0,.dead))(hQ:∀av σ0',R av σ0'→Q (renF (os++ρi) av) (push (os++ρi) σ0' (os++ρi) (if keep then upd σ YS (σ0' YS) else σ))):ACall P f args σ d Q:=by
 refine⟨h.1,fun Y T G w vals hI hY hT hvals=>?_⟩;obtain⟨hone,hy2,hy1⟩:=renOK_iff hr;generalize hρ:os++ρi=ρ at*;have hsub:∀i j,(i,j)∈ρi→lk ρ i=some j:=fun i j hm=>mem_look hone.a (by rw[←hρ];simp[hm]);have hmem:∀i j,lk ρ i=some j→(i,j)∈ρi∨(j=d∨YS≤j):=by
  intro i j hij;have:=look_mem hij;rw[←hρ,List.mem_append] at this;rcases this with h | h
  · exact .inr (hos i j h)
  · exact .inl h
 have hYS:lk (flipL ρ) YS=none:=by
  cases hh:lk (flipL ρ) YS with
  | none=>rfl
  | some i=>exact absurd (List.mem_map.2 ⟨_,look_mem (hone.look_flip.1 hh),rfl⟩) hy2
 have hL:LiftIn ρ σ σ0:=by
  refine⟨hone,fun i c hc=>?_⟩;by_cases hex:∃j,(i,j)∈ρi
  · obtain⟨j,hj⟩:=hex;have:=hs1 i j hj;obtain⟨c',hc'⟩:=liveL_iff hl i j hj;exact⟨j,c',hsub i j hj,by rw[this,←hc']⟩
  · by_cases hi:i=YS
    · subst hi;cases hkp:keep with
      | true=>obtain⟨k1,l,s',k2⟩:=hk hkp;rw[k1,k2] at hc;cases hc
      | false=>rw[hk' hkp] at hc;cases hc
    · rw[hs2 i (fun j hj=>hex ⟨j,hj⟩) hi] at hc;cases hc
 have hrin:RenOK (flipL ρi) G (G0of ρ G):=by refine⟨fun _ _ _ h=>h,fun j i hji g x hm=>?_⟩;have:lk ρ i=some j:=hsub i j (mem_flip.2 (look_mem hji));simp only[G0of,this];exact hm
 have hI0:Inv (G0of ρ G) σ0 w:=by
  refine⟨hI.kok,fun i c hc=>?_,fun i=>?_,fun i i' b x y hii h1 h2 h3 h4=>?_⟩
  · obtain⟨j,c',hj,hsj⟩:=hL.row i c hc;have hm0:∀g,(G0of ρ G).m i g=G.m j g:=fun g=>by simp only[G0of,hj]
    have hji:(i,j)∈ρi:=by
     by_cases hex:∃j',(i,j')∈ρi
     · obtain⟨j',hj'⟩:=hex;have:=hsub i j' hj';rw[hj] at this;cases this;exact hj'
     · by_cases hi:i=YS
       · subst hi;exact absurd (List.mem_map.2 ⟨_,look_mem hj,rfl⟩) hy1
       · rw[hs2 i (fun j hj=>hex ⟨j,hj⟩) hi] at hc;cases hc
    have hs0:=hs1 i j hji;rw[hs0,hsj] at hc;simp only[renR] at hc;cases hc;have hg:(σ0 i).1=(σ j).1:=by rw[hs0]
    rw[hg];rcases hI.res j c' (by rw[hsj]) with⟨h1,h2⟩ | ⟨b,e',lim,vs,T',hR⟩ | ⟨b,hO⟩
    · subst h1;exact .inl ⟨rfl,by rw[hm0];exact h2⟩
    rotate_left
    · obtain⟨o,ho,hrel⟩:=hO.obj;exact .inr (.inr ⟨b,by rw[hm0];exact hO.m,hO.K,o,ho,hrel.ren fun _ _ _ h=>h⟩)
    · refine .inr (.inl ⟨b,e',lim,vs,T',⟨by rw[hm0];exact hR.m,hR.obj,by rw[renL_len];exact hR.fit,hR.lim,hR.K,fun q a hq=>?_⟩⟩);rw[renL_get,Option.map_eq_some_iff] at hq;obtain⟨a0,hq,rfl⟩:=hq;obtain⟨v,hv,hr⟩:=hR.rel q a0 hq;exact⟨v,hv,ren_rel hrin hr⟩
  · cases hj:lk ρ i with
    | none=>exact⟨0,fun g _=>by simp only[G0of,hj]⟩
    | some j=>obtain⟨N,hN⟩:=hI.fresh j;exact⟨N,fun g hg=>by simp only[G0of,hj];exact hN g hg⟩
  · obtain⟨c1,h1⟩:=h1;obtain⟨c2,h2⟩:=h2;obtain⟨j1,c1',k1,q1⟩:=hL.row i c1 h1;obtain⟨j2,c2',k2,q2⟩:=hL.row i' c2 h2;simp only[G0of,k1] at h3;simp only[G0of,k2] at h4;refine hI.dist j1 j2 b x y ?_ ⟨c1',by rw[q1]⟩ ⟨c2',by rw[q2]⟩ (by rw[q1];exact h3) (by rw[q2];exact h4);rintro rfl;have e1:=hone.look_flip.2 k1;have e2:=hone.look_flip.2 k2;rw[e1] at e2;cases e2;exact hii rfl
 have hv0:RelL (G0of ρ G) args0 vals:=by rw[ha];exact renL_rel hrin hvals
 have hf0:∀b,Foot (G0of ρ G) σ0 b→Foot G σ b:=fun b hb=>by obtain⟨i,j,x,_,k2,k3⟩:=hL.foot hb;exact⟨j,x,k2,k3⟩
 cases hkp:keep with
 | true=>
   obtain⟨kk,l,s',kk2⟩:=hk hkp;have hY0:YI Y T σ0 (G0of ρ G).K w:=by
    unfold YI at hY ⊢;cases Y with
    | none=>exact absurd (by rw[kk2]) (hY.2 l s')
    | some y=>obtain⟨s,k1,k2⟩:=hY;exact⟨s,by rw[kk];exact k1,k2⟩
   refine (h.2 Y T (G0of ρ G) w vals hI0 hY0 (fun b hb=>hT b (hf0 b hb)) hv0).mono ?_;rintro e w' ⟨v,av,σ0',G0',T',rfl,k1,k2,k3,k4,k5,k6,k7,k8,k9⟩;have hQ':=hQ av σ0' k3;rw[hkp] at hQ';simp only[if_true] at hQ';have hpg:=fun j=>push_get (ρ:=ρ) (σ0:=σ0') (σ:=upd σ YS (σ0' YS)) hone.b j;obtain⟨r1,r2,r3,r4⟩:=lift_inv (T0:=T) (σ':=push ρ σ0' ρ (upd σ YS (σ0' YS))) hL hI k1 k4 k5 k6 hT (fun i j hij=>by rw[hpg,hone.look_flip.2 hij]) (fun j c hj hc=>by
    rw[hpg,hj] at hc ⊢;simp only[upd_eq] at hc ⊢;by_cases hjy:j=YS
    · subst hjy;rw[if_pos rfl] at hc;unfold YI at k7;cases Y with
      | none=>exact absurd (by rw[kk2]) (hY.2 l s')
      | some y=>obtain⟨s,q1,_⟩:=k7;rw[q1] at hc;cases hc
    · rw[if_neg hjy])
   have hys:push ρ σ0' ρ (upd σ YS (σ0' YS)) YS=σ0' YS:=by rw[hpg,hYS];simp[upd_eq]
   refine⟨v,_,_,_,T',rfl,r1,renF_rel r3 k2,hQ',r2,k5.weak fun b _ hb=>hb.imp (hf0 b) id,r4,fun i hi hli hiy=>?_,?_,?_,k9⟩
   · rw[hpg];cases hf:lk (flipL ρ) i with
     | none=>simp only[upd_eq,if_neg (Nat.ne_of_lt hiy)]
     | some i'=>
       rcases hmem i' i (hone.look_flip.1 hf) with hm | hm | hm
       · exact absurd (liveL_iff hl _ _ hm) hli
       · exact absurd hm hi
       · omega
   · unfold YI at k7 ⊢;cases Y with
     | none=>exact absurd (by rw[kk2]) (hY.2 l s')
     | some y=>obtain⟨s,q1,q2⟩:=k7;exact⟨s,by rw[hys];exact q1,q2⟩
   · intro b hb hTb;have hpg':=hpg;rcases r4 b hb with hF | hn
     ·
      obtain⟨j,x,⟨c,hc⟩,hm⟩:=hb;cases hj:lk (flipL ρ) j with
      | none=>
        have hlt:=hI.lt hF;rcases k9 b hTb with h | h
        · exact hT b hF h
        · omega
      | some i=>
        have e:=hpg j;rw[hj] at e;dsimp only at e;rw[e] at hc hm;simp only[G1of,hj] at hm;cases hs:(σ0' i).2 with
        | row c0=>exact k8 b ⟨i,x,⟨c0,hs⟩,hm⟩ hTb
        | dead=>rw[hs] at hc;cases hc
        | yld l s=>rw[hs] at hc;cases hc
     · obtain⟨j,x,⟨c,hc⟩,hm⟩:=hb;cases hj:lk (flipL ρ) j with
       | none=>
         have e:=hpg j;rw[hj] at e;dsimp only at e;simp only[upd_eq] at e;by_cases hjy:j=YS
         · subst hjy;rw[hys] at hc;unfold YI at k7;cases Y with
           | none=>exact absurd (by rw[kk2]) (hY.2 l s')
           | some y=>obtain⟨s,q1,_⟩:=k7;rw[q1] at hc;cases hc
         · rw[if_neg hjy] at e;rw[e] at hc hm;simp only[G1of,hj] at hm;have:=hI.lt (b:=b) ⟨j,x,⟨c,hc⟩,hm⟩;omega
       | some i=>
         have e:=hpg j;rw[hj] at e;dsimp only at e;rw[e] at hc hm;simp only[G1of,hj] at hm;cases hs:(σ0' i).2 with
         | row c0=>exact k8 b ⟨i,x,⟨c0,hs⟩,hm⟩ hTb
         | dead=>rw[hs] at hc;cases hc
         | yld l s=>rw[hs] at hc;cases hc
 | false=>
   have kk:=hk' hkp;have hY0:YI (P:=P) none (fun _=>False) σ0 (G0of ρ G).K w:=⟨fun _ h=>h,fun l s=>by rw[kk];simp⟩;refine (h.2 none (fun _=>False) (G0of ρ G) w vals hI0 hY0 (fun b hb h=>h) hv0).mono ?_;rintro e w' ⟨v,av,σ0',G0',T',rfl,k1,k2,k3,k4,k5,k6,k7,k8,k9⟩;have hQ':=hQ av σ0' k3;rw[hkp] at hQ';simp only[Bool.false_eq_true,if_false] at hQ';have hpg:=fun j=>push_get (ρ:=ρ) (σ0:=σ0') (σ:=σ) hone.b j;obtain⟨r1,r2,r3,r4⟩:=lift_inv (T0:=fun _=>False) (σ':=push ρ σ0' ρ σ) hL hI k1 k4 k5 k6 (fun b _ h=>h) (fun i j hij=>by rw[hpg,hone.look_flip.2 hij]) (fun j c hj hc=>by rw[hpg,hj]);have hys:push ρ σ0' ρ σ YS=σ YS:=by rw[hpg,hYS]
   refine⟨v,_,_,_,T,rfl,r1,renF_rel r3 k2,hQ',r2,k5.weak fun b _ hb=> .inl (hf0 b (hb.resolve_right id)),r4,fun i hi hli hiy=>?_,?_,?_,fun b hb=> .inl hb⟩
   · rw[hpg];cases hf:lk (flipL ρ) i with
     | none=>rfl
     | some i'=>
       rcases hmem i' i (hone.look_flip.1 hf) with hm | hm | hm
       · exact absurd (liveL_iff hl _ _ hm) hli
       · exact absurd hm hi
       · omega
   · have hst:Ext (fun b=>¬T b) G.K w G0'.K w':=k5.weak fun b _ hb hTb=>hT b (hf0 b (hb.resolve_right id)) hTb;unfold YI at hY ⊢;cases Y with
     | none=>exact⟨hY.1,fun l s=>by rw[hys];exact hY.2 l s⟩
     | some y=> obtain⟨s,q1,q2⟩:=hY;exact⟨s,by rw[hys];exact q1,y.stab _ _ _ _ _ _ q2 k1.kok hst⟩
   · intro b hb hTb;rcases r4 b hb with hF | hn
     · exact hT b hF hTb
     · have:=hY.lt hTb;omega
theorem ACall.valF{f:Nat}{args0 args:List AV}{σ:Sig}{v v':AV}{d:Nat}{Q:AV→Sig→Prop}(h:Fn0 P f args0 (fun a=>a=v))(ha:args0=renL [] args)(hv:renF [] v=v')(hQ:Q v' σ):ACall P f args σ d Q:=by
 refine RawC.liftCoreF (σ0:=sg []) h [] [] (fun i j h=>by cases h) rfl ha trivial false (fun i j h=>by cases h) (fun i _ _=>rfl) (fun h=>by cases h) (fun _=>rfl) fun av σ0' hR=>?_;have hR':av=v:=hR;rw[hR'];show Q (renF [] v) σ
 rw[hv];exact hQ
end
theorem frzN_step{G:GS}{σ:Sig}{w:World}{i g b lim:Nat}{cc:List AV}(hI:Inv G σ w)(hm:G.m i g=some (b,0,lim))(hσ:σ i=(g,.row cc))(hsc:cc.all AV.scal=true):
  ∃G',StepOK G σ w G' (frzS i g cc σ) w∧YSame σ (frzS i g cc σ)∧(∀a v,Rel G a v→Rel G' (frzA i g cc a) v)∧(∀b',Foot G' (frzS i g cc σ) b'→Foot G σ b'):=by
 have hlive:live σ i:=⟨cc,by rw[hσ]⟩;rcases hI.res i cc (by rw[hσ]) with⟨_,hn⟩ | ⟨b',e0,lim',vals,T,hR⟩ | ⟨b',hO⟩
 · rw[hσ] at hn;simp only at hn;rw[hm] at hn;cases hn
 rotate_left
 · have hm':=hO.m;rw[hσ] at hm';simp only at hm';rw[hm] at hm';cases hm'
 rw[hσ] at hR;have hmm:=hR.m;simp only at hmm;rw[hm] at hmm;cases hmm;have hfb:Foot G σ b:=⟨i,_,hlive,by rw[hσ];exact hm⟩
 let G':GS:=⟨fun b' o=>if b'=b∧o<cc.length then vals[o]? else G.K b' o,G.m⟩
 have hleK:∀b' o v,G.K b' o=some v→G'.K b' o=some v:=by
  intro b' o v hv;show (if _ then _ else _)=_
  rw[if_neg]
  · exact hv
  · rintro⟨rfl,_⟩;rw[hR.K o (by omega)] at hv;cases hv
 have hle:G.le G':=⟨hleK,fun _ _ _ h=>h⟩;have hcell:∀j a,cc[j]?=some a→ ∃v,G'.K b j=some v∧v.oneCell'=true∧Rel G' a v:=by
  intro j a hj;obtain⟨v,hv,hr⟩:=hR.rel j a hj;refine⟨v,?_,scal_one hr (by rw[List.all_eq_true] at hsc;exact hsc _ (List.mem_of_getElem? hj)),hr.mono hle⟩;show (if _ then _ else _)=_
  rw[if_pos ⟨rfl,(List.getElem?_eq_some_iff.1 hj).1⟩];simpa using hv
 have hkok:Kok G'.K w:=by
  refine⟨fun b' o v hv=>?_⟩;have hv':(if b'=b∧o<cc.length then vals[o]? else G.K b' o)=some v:=hv;split at hv'
  · rename_i hb;obtain⟨rfl,ho⟩:=hb;refine .inl ⟨vals,T,(0,0),hR.obj,hv',?_⟩;obtain⟨v',hv2,hr⟩:=hR.rel o cc[o] (List.getElem?_eq_getElem ho);rw[Nat.zero_add] at hv2;rw[hv2] at hv';cases hv';exact scal_one hr (by rw[List.all_eq_true] at hsc;exact hsc _ (List.getElem_mem ho))
  · exact hI.kok.see _ _ _ hv'
 have hs0:∀j,j≠i→frzS i g cc σ j=((σ j).1,frzR i g cc (σ j).2):=fun j hj=>by simp[frzS,hj]
 have hsi:frzS i g cc σ i=(g,.dead):=by simp[frzS,hσ]
 have hlv:∀j,live (frzS i g cc σ) j→j≠i∧live σ j:=by
  rintro j ⟨c',hc'⟩;have hj:j≠i:=by rintro rfl;rw[hsi] at hc';cases hc'
  rw[hs0 j hj] at hc';refine⟨hj,?_⟩;cases hsj:(σ j).2 with
  | row l=>exact⟨l,hsj⟩
  | dead=>rw[hsj] at hc';cases hc'
  | yld l s=>rw[hsj] at hc';cases hc'
 have hinv:Inv G' (frzS i g cc σ) w:=by
  refine⟨hkok,fun j c' hj=>?_,hI.fresh,fun j k b' p q hjk hj hk hp hq=>?_⟩
  · obtain⟨hji,c0,hc0⟩:=hlv j ⟨c',hj⟩;rw[hs0 j hji] at hj ⊢;rw[hc0] at hj;simp only[frzR] at hj;cases hj;rcases hI.res j c0 hc0 with⟨h1,h2⟩ | ⟨b',e',lim',vs,T',hR'⟩ | ⟨b',hO⟩
    · subst h1;exact .inl ⟨rfl,h2⟩
    rotate_left
    · have hne:b'≠b:=by rintro rfl;exact hI.dist j i b' _ _ hji ⟨c0,hc0⟩ hlive hO.m (by rw[hσ];exact hm)
      have hO':ObjOK G' w j (σ j).1 c0 b':=hO.keep hle (by
       funext o
       show (if _ then _ else _)=_
       rw[if_neg (fun h=>hne h.1)])  rfl
      exact .inr (.inr ⟨b',hO'.m,hO'.K,by obtain⟨o,h1,h2⟩:=hO'.obj;exact⟨o,h1,h2.frz⟩⟩)
    · have hne:b'≠b:=by rintro rfl;exact hI.dist j i b' _ _ hji ⟨c0,hc0⟩ hlive hR'.m (by rw[hσ];exact hm)
      refine .inr (.inl ⟨b',e',lim',vs,T',⟨hR'.m,hR'.obj,by rw[frzL_len];exact hR'.fit,hR'.lim,fun o ho=>?_,fun q y hq=>?_⟩⟩)
      · show (if _ then _ else _)=_
        rw[if_neg (fun h=>hne h.1)];exact hR'.K o ho
      · obtain⟨y',hy,rfl⟩:=frzL_get hq;obtain⟨v,hv,hr⟩:=hR'.rel q y' hy;exact⟨v,hv,frzA_rel hle hm hcell hr⟩
  · obtain⟨hji,lj⟩:=hlv j hj;obtain⟨hki,lk⟩:=hlv k hk;rw[hs0 j hji] at hp;rw[hs0 k hki] at hq;exact hI.dist j k b' p q hjk lj lk hp hq
 have hfoot:∀b',Foot G' (frzS i g cc σ) b'→Foot G σ b':=by rintro b' ⟨j,y,hj,hm'⟩;obtain⟨hji,lj⟩:=hlv j hj;rw[hs0 j hji] at hm';exact⟨j,y,lj,hm'⟩
 have hstep:StepOK G σ w G' (frzS i g cc σ) w:=by
  refine⟨hle,hinv,⟨rfl,rfl,rfl,Nat.le_refl _,fun _ _ _=>rfl,hle.K,fun b' _ hn=>?_⟩,fun b' hb=> .inl (hfoot b' hb)⟩
  funext o
  show (if _ then _ else _)=_
  rw[if_neg];rintro⟨rfl,_⟩;exact hn hfb
 have hys:YSame σ (frzS i g cc σ):=by
  by_cases hy:YS=i
  · refine .inr ⟨fun l s=>by rw[hy,hσ];simp,fun l s=>by rw[hy,hsi];simp⟩
  · cases hsy:(σ YS).2 with
    | yld l s=>exact .inl (by rw[hs0 YS hy,hsy];simp only[frzR];rw[←hsy])
    | dead=>exact .inr ⟨fun l s=>(by rw[hsy];simp),fun l s=>by rw[hs0 YS hy,hsy];simp[frzR]⟩
    | row c'=>exact .inr ⟨fun l s=>(by rw[hsy];simp),fun l s=>by rw[hs0 YS hy,hsy];simp[frzR]⟩
 exact⟨G',hstep,hys,fun a v h=>frzA_rel hle hm hcell h,hfoot⟩
theorem RawC.frz{P:Program}{f:Nat}{args:List AV}{σ0:Sig}{R R':AV→Sig→Prop}(h:RawC P f args σ0 R)(hR:∀av σ',R av σ'→ ∃i g c,σ' i=(g,.row c)∧c.all AV.scal=true∧(∀G w v,Inv G σ' w→Rel G av v→ ∃b lim,G.m i g=some (b,0,lim))∧R' (frzA i g c av) (frzS i g c σ')):RawC P f args σ0 R':=by
 refine⟨h.1,fun Y T G w vals hI hY hT hvals=>(h.2 Y T G w vals hI hY hT hvals).mono ?_⟩;rintro e w' ⟨v,av,σ',G',T',h1,h2,h3,h4,h5,h6,h7,h8,h9,h10⟩;obtain⟨i,g,c,k1,k2,k3,k4⟩:=hR av σ' h4;obtain⟨b,lim,hm⟩:=k3 _ _ _ h2 h3;obtain⟨G2,hst,hys,hrel,hfoot⟩:=frzN_step h2 hm k1 k2;refine⟨v,frzA i g c av,frzS i g c σ',G2,T',h1,hst.inv,hrel _ _ h3,k4,h5.trans hst.le,?_,fun b hb=>h7 b (hfoot b hb),?_,fun b hb=>h9 b (hfoot b hb),h10⟩
 · exact h6.trans hst.ext fun b hb hf=>(h7 b hf).elim .inl fun hn=>absurd hb (Nat.not_lt.2 hn)
 · have:YI Y T' σ' G2.K w':=by
    unfold YI at h8 ⊢
    revert h8
    cases Y with
    | none=>exact id
    | some y=> rintro⟨s,q1,q2⟩;exact⟨s,q1,y.stab _ _ _ _ _ _ q2 hst.inv.kok ⟨hst.ext.os,hst.ext.tape,hst.ext.output,hst.ext.size,fun b hb hn=>hst.ext.block b hb fun hf=>h9 b hf (Classical.not_not.1 hn),hst.ext.le,fun b hb hn=>hst.ext.Kb b hb fun hf=>h9 b hf (Classical.not_not.1 hn)⟩⟩
   exact this.same hys
theorem msl_m{G:GS}{i g n sz:Nat}{v:Value}(h:Rel G (.msl i g n sz) v):∃b lim,G.m i g=some (b,0,lim):=by obtain⟨b,cap,h1,h2,h3⟩:=h;exact⟨b,_,h3⟩
theorem agg_m{G:GS}{i g n sz:Nat}{l:List AV}{v:Value}(h:Rel G (.agg (.msl i g n sz::l)) v):∃b lim,G.m i g=some (b,0,lim):=by obtain⟨vs,h1,v0,r,h2,h3,h4⟩:=h;exact msl_m h3
theorem row_m{G:GS}{σ:Sig}{w:World}{j g0 k i g n sz:Nat}{c:List AV}(hI:Inv G σ w)(hj:σ j=(g0,.row c))(hc:c[k]?=some (.msl i g n sz))(hs:c.all AV.scal=true):∃b lim,G.m i g=some (b,0,lim):=by
 rcases hI.res j c (by rw[hj]) with⟨h1,_⟩ | ⟨b',e0,lim',vals,T,hR⟩ | ⟨b',hO⟩
 · rw[h1] at hc;simp at hc
 · obtain⟨v,_,hr⟩:=hR.rel k _ hc;exact msl_m hr
 · exfalso;obtain⟨o,h1,h2⟩:=hO.obj;unfold ObjRel at h2;split at h2
   all_goals first|(simp[AV.scal] at hs;done)|exact h2
def ir69:IFn:= ⟨30,[(2,none)],(sO [oo 2 (.mov (.k (.int .u64 0)))] (sO [oM 4 0,oM 5 0,oo 6 (.nck 5),oF 7 0 6,oL 8 7,oo 9 (.bin .add 8 (.k (.int .u64 11507291218515648293))),oo 10 (.nck 4),oF 11 0 10,oS 1 11 9] (sO [oM 12 0,oo 13 (.nck 12),oF 14 0 13,oL 15 14,oM 3 15] (sO [oM 16 3,oM 17 3,oo 18 (.bin .shr 17 (.k (.int .u64 32))),oB 19 .xor 16 18,oo 20 (.bin .mul 19 (.k (.int .u64 15485907386658061715))),oM 3 20] (sO [oM 21 3,oM 22 3,oo 23 (.bin .shr 22 (.k (.int .u64 29))),oB 24 .xor 21 23,oo 25 (.bin .mul 24 (.k (.int .u64 14029467366897019727))),oM 3 25] (sO [oM 26 3,oM 27 3,oo 28 (.bin .shr 27 (.k (.int .u64 32))),oB 29 .xor 26 28,oM 2 29] .ret))))))⟩
def ir15:IFn:= ⟨30,[(2,none)],(sO [oo 2 (.mov (.k .npt))] (sO [oo 5 (.bld [(.int .u64 0)] [(0,1,(.k (.int .u64 2685821657736338717)))]),oo 6 (.box 1 5),oM 3 6] (.seq (sO [oM 4 (kI 0)] (.blk 0 (.loop (.seq (sO [oM 7 4,oM 8 0,oN 9 8,oB 10 .lss 7 9] (.cnd 10 .skip (.exit 0))) (.seq (.blk 1 (sO [oM 13 3,oM 14 3,oo 15 (.nck 14),oF 16 0 15,oL 17 16,oM 18 0,oM 19 4,oA 20 1 18 19,oL 21 20,oo 22 (.cvI .u64 21),oB 23 .xor 17 22,oo 24 (.bin .mul 23 (.k (.int .u64 15485907386658061715))),oo 25 (.nck 13),oF 26 0 25,oS 1 26 24] (.ops [oM 27 3,oC 28 69 [27]]))) (.ops [oM 11 4,oB 12 .add 11 (kI 1),oM 4 12])))))) (sO [oM 29 3,oM 2 29] .ret))))⟩
def ir38:IFn:= ⟨14,[(4,none)],(sO [oM 4 (kI 0)] (.seq (sO [oM 5 1,oB 6 .lss 5 (kI 2)] (.cnd 6 (sO [oM 4 (kI 0)] .ret) .skip)) (sO [oM 7 0,oC 8 69 [7],oo 9 (.bin .shr 8 (.k (.int .u64 1))),oM 10 1,oo 11 (.cvI .u64 10),oB 12 .rem 9 11,oo 13 (.cvI .i64 12),oM 4 13] .ret)))⟩
def ir37:IFn:= ⟨15,[(6,none)],(sO [oM 6 (kI 0)] (sO [oM 7 1,oM 8 0,oM 9 2,oM 10 1,oB 11 .sub 9 10,oB 12 .add 11 (kI 1),oC 13 38 [8,12],oB 14 .add 7 13,oM 6 14] .ret))⟩
def ir36:IFn:= ⟨9,[(4,none)],(sO [oM 4 (kB false)] (sO [oM 5 0,oM 6 1,oC 7 38 [5,6],oB 8 .eql 7 (kI 0),oM 4 8] .ret))⟩
theorem turn_c(g:Nat)(w:Int):RawC Tryz.prog 69 [.ref 1000 g 0] (BoxS g w) (BoxR g fun av=>∃n,av= .int .u64 n∧0≤n∧n<18446744073709551616):=by
 refine wk ir69 Tryz.func69 ?_;unfold ir69
 repeat' (first|refine aR ?_|refine aX ?_|with_reducible intro _|refine aP ?_ ?_)
 exact⟨_,⟨_,rfl,(wrap_u64 _).1,(wrap_u64 _).2⟩,rfl⟩
theorem up_mod{a n:Int}(ha:0≤a)(hn:2≤n)(hw:IntKind.u64.wrap n=n):0≤(a.fdiv (2^min (Int.toNat 1) IntKind.u64.bits)).tmod (IntKind.u64.wrap n)∧(a.fdiv (2^min (Int.toNat 1) IntKind.u64.bits)).tmod (IntKind.u64.wrap n)<n:=by rw[hw];have h0:0≤a.fdiv (2^min (Int.toNat 1) IntKind.u64.bits):=Int.fdiv_nonneg ha (by decide);exact⟨Int.tmod_nonneg _ h0,Int.tmod_lt_of_pos _ (by omega)⟩
theorem up_c(g:Nat)(w n:Int)(hn:n<2^62):RawC Tryz.prog 38 [.ref 1000 g 0,.int .i64 n] (BoxS g w) (BoxR g fun av=>∃k,av= .int .i64 k∧0≤k∧(k<n∨k=0)):=by
 by_cases h2:n<2
 · refine RawC.walk (H:=hE Tryz.prog) ir38 Tryz.func38 rfl rfl rfl ?_;unfold ir38
   repeat' (first|refine aR ?_|with_reducible refine zI fun y hy=>?_|refine aX ?_|with_reducible intro _|with_reducible refine zJ ?_ fun y hy=>?_|refine aP ?_ ?_)
   exact⟨_,⟨_,rfl,by omega⟩,rfl⟩
 have hw:=wrap_u64_id n (by omega) (by omega);refine wk ir38 Tryz.func38 ?_;unfold ir38
 repeat' (first|refine aR ?_|with_reducible refine zI fun y hy=>?_|refine aL ?_|((with_reducible apply w_ixM);(focus exact rfl);(focus exact rfl);(focus ((repeat' (with_reducible (first|exact trivial | apply And.intro)))<;>(first|(have:=up_mod ha (by omega:2≤n) hw;unfold inI;omega)|exact sd)));case' hk=>intro y hy)|((with_reducible apply w_slM);(focus exact rfl);(focus exact rfl);(focus exact rfl);(focus ((repeat' (with_reducible (first|exact trivial | apply And.intro)))<;>(first|(have:=up_mod ha (by omega:2≤n) hw;unfold inI;omega)|exact sd))))|((with_reducible apply w_val);(focus exact rfl);(focus ((repeat' (with_reducible (first|exact trivial | apply And.intro)))<;>(first|(have:=up_mod ha (by omega:2≤n) hw;unfold inI;omega)|exact sd))))|((with_reducible apply w_det);(focus exact fun _=>rfl);(focus ((repeat' (with_reducible (first|exact trivial | apply And.intro)))<;>(first|(have:=up_mod ha (by omega:2≤n) hw;unfold inI;omega)|exact sd)));case' hk=>intro _)|((with_reducible apply w_det0);(focus exact fun _=>rfl);(focus ((repeat' (with_reducible (first|exact trivial | apply And.intro)))<;>(first|(have:=up_mod ha (by omega:2≤n) hw;unfold inI;omega)|exact sd))))|((with_reducible apply q_ends);(focus exact rfl);(focus ((repeat' (with_reducible (first|exact trivial | apply And.intro)))<;>(first|(have:=up_mod ha (by omega:2≤n) hw;unfold inI;omega)|exact sd))))|((with_reducible refine aC ?_);first|(refine ACall.box (turn_c _ _) rfl rfl rfl ?_;rintro _ _ ⟨_,rfl,ha,_⟩))|refine aX ?_|with_reducible intro _|with_reducible refine zJ ?_ fun y hy=>?_|refine aP ?_ ?_)
 have:=up_mod ha (by omega:2≤n) hw;exact⟨_,⟨_,rfl,by omega⟩,rfl⟩
abbrev ltV(n:Int)(av:AV):Prop:=∃k,av= .int .i64 k∧0≤k∧k<n
theorem upp_c(g:Nat)(w n:Int)(h0:0<n)(hn:n<2^62):RawC Tryz.prog 38 [.ref 1000 g 0,.int .i64 n] (BoxS g w) (BoxR g (ltV n)):=
 (up_c g w n hn).mono fun _ _ ⟨w',⟨k,h1,h2,h3⟩,h4⟩=>⟨w',⟨k,h1,h2,by omega⟩,h4⟩
theorem any_c(g:Nat)(w a b:Int)(h0: -1000000<a)(h1:a<1000000)(h2: -1000000<b)(h3:b<1000000):RawC Tryz.prog 37 [.ref 1000 g 0,.int .i64 a,.int .i64 b] (BoxS g w) (BoxR g fun av=>∃k,av= .int .i64 k∧a≤k∧(k≤b∨k=a)):=by
 refine wk ir37 Tryz.func37 ?_;unfold ir37
 repeat' (first|refine aR ?_|((with_reducible refine aC ?_);first|(refine ACall.box (up_c _ _ _ (by omega)) rfl rfl rfl ?_;rintro _ _ ⟨_,rfl,_,_⟩))|refine aX ?_|with_reducible intro _|refine aP ?_ ?_)
 exact⟨_,⟨_,rfl,by omega⟩,rfl⟩
theorem one_c(g:Nat)(w n:Int)(hn:n<2^62):RawC Tryz.prog 36 [.ref 1000 g 0,.int .i64 n] (BoxS g w) (BoxR g fun av=>∃t,av= .bool t):=by
 refine wk ir36 Tryz.func36 ?_;unfold ir36
 repeat' (first|refine aR ?_|((with_reducible refine aC ?_);first|(refine ACall.box (up_c _ _ _ (by omega)) rfl rfl rfl ?_;rintro _ _ ⟨_,rfl,_,_⟩))|refine aX ?_|with_reducible intro _|refine aP ?_ ?_)
 exact⟨_,⟨_,rfl⟩,rfl⟩
theorem boxOf_c(l:List Int)(hl:l.length<2^62):RawC Tryz.prog 15 [.slc 1 (iR l) .non] (sg []) (fun av σ'=>∃g w,av= .ref 6 g 0∧σ' 6=(g,.row [.int .u64 w])):=by
 have hL:(iR l).length=l.length:=by simp
 refine wk ir15 Tryz.func15 ?_;unfold ir15
 repeat' (first
  | with_reducible (first|refine Rd.p ?_|refine w_alt ?_ ?_|refine zE ?_|refine zE0 ?_)
  | with_reducible (first|refine zI fun y hy=>?_|refine zL ?_|refine zS ?_|refine zA fun _=>?_|refine zV ?_|refine zC ?_|refine zG ?_|refine zU ?_|refine zG0 ?_|refine zU0 ?_|refine zF ?_)
  | with_reducible (first|refine zX ?_|refine zD fun _=>?_|refine zD0 ?_|refine zN ?_|refine zF0 ?_|refine zX0 ?_|refine z1 ?_|refine z2 ?_|refine z3 ?_|refine z4 ?_|refine z5 ?_|refine z6 ?_|refine z7 ?_|refine z8 ?_|refine y1 ?_|refine y2 ?_|refine y3 ?_|refine y4 ?_|refine y5 ?_|refine y6 ?_|refine y7 ?_|refine y8 ?_|refine Rt.p (fun _=>?_) fun _=>?_)
  | ((with_reducible apply w_ixM);(focus exact rfl);(focus exact rfl);case' hk=>intro y hy)|((with_reducible (first | apply w_val | apply q_ends));(focus exact rfl)))
 refine w_loopK [0,3] [] (fun x:Nat×Int=>x.1≤l.length) (fun x=>l.length-x.1) (fun x=>[(4,.int .i64 x.1)]) (fun x=>[(6,(_,.row [.int .u64 x.2]))]) (0,_) (Nat.zero_le _) ⟨rfl,trivial⟩ ⟨rfl,trivial⟩ ?_;rintro⟨k,w⟩ hk e σ;dsimp only at hk ⊢
 repeat' (first
  | with_reducible (first|refine Rd.p ?_|refine w_alt ?_ ?_|refine zE ?_|refine zE0 ?_)
  | with_reducible (first|refine zI fun y hy=>?_|refine zL ?_|refine zS ?_|refine zA fun _=>?_|refine zV ?_|refine zC ?_|refine zG ?_|refine zU ?_|refine zG0 ?_|refine zU0 ?_|refine zF ?_)
  | ((with_reducible refine acall_id ?_);refine ACall.box (turn_c _ _) rfl rfl rfl ?_;rintro _ _ ⟨_,rfl,_,_⟩)
  | with_reducible (first|refine zX ?_|refine zD fun _=>?_|refine zD0 ?_|refine zN ?_|refine zF0 ?_|refine zX0 ?_|refine z1 ?_|refine z2 ?_|refine z3 ?_|refine z4 ?_|refine z5 ?_|refine z6 ?_|refine z7 ?_|refine z8 ?_|refine y1 ?_|refine y2 ?_|refine y3 ?_|refine y4 ?_|refine y5 ?_|refine y6 ?_|refine y7 ?_|refine y8 ?_|refine Rt.p (fun _=>?_) fun _=>?_)
  | ((with_reducible apply w_ixM);(focus exact rfl);(focus exact rfl);case' hk=>intro y hy)|((with_reducible (first | apply w_val | apply q_ends));(focus exact rfl)))
 · simp at*;exact q_loop (k+1,_) (by dsimp only;omega) (by dsimp only;omega) ⟨rfl,trivial⟩ ⟨rfl,trivial⟩ ⟨rfl,rfl,trivial⟩ trivial
 · exact⟨_,_,rfl,rfl⟩
section
variable {P:Program}
theorem w_apmN{K:(Nat→AV)→Sig→Prop}{e:Nat→AV}{σ:Sig}{x y:IOpd}{r:List IStep}{d i:Nat}{a:Int}{t:Tag}(hx:x.ev e= .nsl)(hy:y.ev e= .slc 1 [[.int .i64 a]] t)(hk:∀g,stepsW P r K (upd e d (.msl i g 1 1)) (newS σ i g ([a].map (AV.int .i64)))):stepsW P (⟨some d,none,.apm 1 8 x y i⟩::r) K e σ:=by
 refine w_det (p:=True∧1=1∧(0+1)*8≤140737488355328) (v:=fun g=> .msl i g (0+1) 1) (σ':=fun g=>newS σ i g ([]++[[AV.int .i64 a]].flatten)) (fun g=>?_) ⟨trivial,rfl,by omega⟩ hk;show (match baseM 1 σ (x.ev e),rowsO 1 (y.ev e) with
  | some (p,n,c,σ'),some (q,ys)=>(match ys with
    | []=>some (p∧q,x.ev e,σ)
    | _::_=>some (p∧q∧(n+ys.length)*8≤140737488355328,AV.msl i g (n+ys.length) 1,newS σ' i g (c++ys.flatten)))
  | some (p,n,c,σ'),none=>(match rowsM 1 σ (y.ev e) with
    | some (q,m,ys)=>some (p∧q∧(n+m)*8≤140737488355328,AV.msl i g (n+m) 1,newS σ' i g (c++ys))
    | none=>none)
  | _,_=>none)=_
 rw[hx,hy];rfl
theorem w_apmI{K:(Nat→AV)→Sig→Prop}{e:Nat→AV}{σ:Sig}{x y:IOpd}{r:List IStep}{d i i' g' n:Nat}{a:Int}{xs:List Int}{t:Tag}(hx:x.ev e= .msl i' g' n 1)(hσ:σ i'=(g',.row (xs.map (AV.int .i64))))(hn:xs.length=n)(hn2:n≤1000000)(hy:y.ev e= .slc 1 [[.int .i64 a]] t)(hk:∀g,stepsW P r K (upd e d (.msl i g (n+1) 1)) (newS (upd σ i' (g',.dead)) i g ((xs++[a]).map (AV.int .i64)))):stepsW P (⟨some d,none,.apm 1 8 x y i⟩::r) K e σ:=by
 refine w_det (p:=(g'=g'∧1=1∧(xs.map (AV.int .i64)).length=n*1)∧1=1∧(n+1)*8≤140737488355328) (v:=fun g=> .msl i g (n+1) 1) (σ':=fun g=>newS (upd σ i' (g',.dead)) i g (xs.map (AV.int .i64)++[[AV.int .i64 a]].flatten)) (fun g=>?_) ⟨⟨rfl,rfl,by simp;omega⟩,rfl,by omega⟩ fun g=>?_
 · show (match baseM 1 σ (x.ev e),rowsO 1 (y.ev e) with
    | some (p,n,c,σ'),some (q,ys)=>(match ys with
      | []=>some (p∧q,x.ev e,σ)
      | _::_=>some (p∧q∧(n+ys.length)*8≤140737488355328,AV.msl i g (n+ys.length) 1,newS σ' i g (c++ys.flatten)))
    | some (p,n,c,σ'),none=>(match rowsM 1 σ (y.ev e) with
      | some (q,m,ys)=>some (p∧q∧(n+m)*8≤140737488355328,AV.msl i g (n+m) 1,newS σ' i g (c++ys))
      | none=>none)
    | _,_=>none)=_
   rw[hx,hy];simp only[baseM,hσ,rowsO];rfl
 · have:=hk g;rw[List.map_append] at this;exact this
end
theorem isPerm.of_perm{n:Nat}{l l':List Int}(h:isPerm n l)(hp:List.Perm l' l):isPerm n l':=
 ⟨by rw[hp.length_eq,h.len],hp.nodup_iff.2 h.nd,fun x hx=>h.bd x (hp.mem_iff.1 hx)⟩
theorem isPerm.snoc{n:Nat}{l:List Int}(h:isPerm n l):isPerm (n+1) (l++[(n:Int)]):=by
 refine⟨by simp[h.len],?_,fun x hx=>?_⟩
 · rw[List.nodup_append];exact⟨h.nd,by simp,fun a ha b hb=>by simp at hb;subst hb;have:=h.bd a ha;omega⟩
 · rcases List.mem_append.1 hx with hx | hx
   · have:=h.bd x hx;omega
   · simp at hx;omega
theorem swap_perm{l:List Int}{i k:Nat}(hi:i<l.length)(hk:k<l.length):List.Perm ((l.set i (l.getD k 0)).set k (l.getD i 0)) l:=by
 have e1:l.getD k 0=l[k]:=by simp[hk]
 have e2:l.getD i 0=l[i]:=by simp[hi]
 rw[e1,e2];exact List.set_set_perm hi hk
def ir18:IFn:= ⟨36,[(4,none)],(sO [oM 4 (.k .nsl)] (sO [oM 5 (.k .nsl)] (.seq (sO [oM 6 (kI 0)] (.blk 0 (.loop (.seq (sO [oM 8 6,oM 9 1,oB 10 .lss 8 9] (.cnd 10 .skip (.exit 0))) (.seq (.blk 1 (sO [oM 13 0,oM 14 6,oB 15 .add 14 (kI 1),oC 16 38 [13,15],oM 7 16] (sO [oM 17 5,oM 18 6,oo 19 (.bsl 1 [[z0]] [(0,18)]),oo 20 (.apm 1 8 17 19 5),oM 5 20] (.ops [oM 21 5,oM 22 6,oM 23 5,oM 24 7,oM 25 5,oM 26 7,oA 27 1 25 26,oL 28 27,oM 29 5,oM 30 6,oA 31 1 29 30,oL 32 31,oA 33 1 21 22,oS 1 33 28,oA 34 1 23 24,oS 1 34 32])))) (.ops [oM 11 6,oB 12 .add 11 (kI 1),oM 6 12])))))) (.seq (.seq (.frz 5) (.ops [oM 35 5,oM 4 35])) .ret))))⟩
def hint18(P:Program):Hint:={site:=[(20,5)],nils:=[],frz:=[(35,5)],mve:=[],wr:=[20] }
def ir39:IFn:= ⟨6,[(2,none)],(sO [oo 2 (.nil 1 2)] (sO [oo 3 (.bsl 1 [] []),oM 4 0,oo 5 (.app 1 8 3 4 2),oM 2 5] .ret))⟩
def hint39(P:Program):Hint:={site:=[(5,2)],nils:=[(2,1)],frz:=[],mve:=[],wr:=[] }
theorem ints_c(l:List Int)(hl:l.length<2^40):FV 39 [.slc 1 (iR l) .non] (.slc 1 (iR l) .non):=by
 have h1:(iR l).length=l.length:=by simp
 refine RawC.walk (H:=hint39 Tryz.prog) ir39 Tryz.func39 rfl rfl rfl ?_;unfold ir39
 repeat' (first|refine aR ?_|refine aX ?_|with_reducible intro _|refine aP ?_ ?_)
 rfl
def ordV(xs:List Int)(g:Nat):AV:=match xs with
 | []=> .nsl
 | _::_=> .msl 5 g xs.length 1
def ordS(xs:List Int)(g:Nat):List (Nat×(Nat×Res)):=match xs with
 | []=>[]
 | _::_=>[(5,(g,.row (xs.map (AV.int .i64))))]
theorem order_c(g:Nat)(w:Int)(n:Nat)(hn:1≤n∧n≤1000):RawC Tryz.prog 18 [.ref 1000 g 0,.int .i64 n] (BoxS g w) (BoxR g fun av=>∃l,av= .slc 1 (iR l) .non∧isPerm n l):=by
 refine RawC.walk (H:=hint18 Tryz.prog) ir18 Tryz.func18 rfl rfl rfl ?_;unfold ir18
 repeat' (first|refine aR ?_|refine aX ?_|with_reducible intro _|refine aP ?_ ?_)
 refine w_loopK [0,1] [] (fun x:List Int×Nat×Int=>x.1.length≤n∧isPerm x.1.length x.1) (fun x=>n-x.1.length) (fun x=>[(6,.int .i64 x.1.length),(5,ordV x.1 x.2.1)])
  (fun x=>[(1000,(g,.row [.int .u64 x.2.2]))]++ordS x.1 x.2.1) ([],0,_) ⟨Nat.zero_le _,⟨rfl,List.nodup_nil,fun x hx=>by cases hx⟩⟩ ⟨rfl,rfl,trivial⟩ (by exact⟨rfl,trivial⟩) ?_
 rintro⟨xs,g5,w⟩ ⟨hl,hp⟩ e σ;dsimp only at hl hp ⊢;by_cases hlt:xs.length<n
 case neg=>
  cases xs with
  | nil=>exfalso;simp at hlt;omega
  | cons x0 xs=>
    repeat' (first|refine aR ?_|refine aL ?_|(refine w_frzI rfl rfl rfl ?_)|refine aX ?_|with_reducible intro _|refine aP ?_ ?_)
    refine⟨_,⟨x0::xs,rfl,?_⟩,rfl⟩;have:(x0::xs).length=n:=by omega
    rw[←this];exact hp
 have hps:=hp.snoc;have hsl:(xs++[(xs.length:Int)]).length=xs.length+1:=by simp
 cases xs with
 | nil=>
   have hz:([]:List Int).length=0:=rfl
   repeat' (first|refine aR ?_|(first|(refine w_apmN rfl rfl ?_;intro _)|refine w_ldI rfl rfl (by exact Nat.le_of_ble_eq_true rfl) ?_|refine w_stI rfl rfl rfl (by exact Nat.le_of_ble_eq_true rfl) ?_)|refine aL ?_|(have hk0:k=0:=(by omega);subst hk0;clear hk1 hk2)|((with_reducible refine aC ?_);first|(refine ACall.box (up_c _ _ _ (by omega)) rfl rfl rfl ?_;rintro _ _ ⟨k,rfl,hk1,hk2⟩))|refine aX ?_|with_reducible intro _|refine aP ?_ ?_)
   refine q_loop ([0],_,_) ?_ ?_ aS (by exact⟨rfl,rfl,trivial⟩) aK aK
   · exact⟨by simp;omega,hps⟩
   · simp;omega
 | cons x0 xs=>
   have hlx:(x0::xs).length=xs.length+1:=rfl;have hq:∀k:Nat,k<xs.length+2→isPerm (xs.length+2) (((x0::xs++[((x0::xs).length:Int)]).set ((((x0::xs).length:Nat):Int).toNat*1) ((x0::xs++[((x0::xs).length:Int)]).getD (k*1) 0)).set (k*1) ((x0::xs++[((x0::xs).length:Int)]).getD ((((x0::xs).length:Nat):Int).toNat*1) 0)):=by
    intro k hk;have e1:(((x0::xs).length:Nat):Int).toNat*1=xs.length+1:=by simp
    rw[e1,Nat.mul_one];exact hps.of_perm (swap_perm (by simp) (by simp;omega))
   repeat' (first|refine aR ?_|(first|(refine w_apmI rfl rfl rfl (by omega) rfl ?_;intro g')|refine w_ldI rfl rfl (by first | omega|(simp;omega)) ?_|refine w_stI rfl rfl rfl (by first | omega|(simp;omega)) ?_)|((with_reducible refine aC ?_);first|(refine ACall.box (up_c _ _ _ (by omega)) rfl rfl rfl ?_;rintro _ _ ⟨k,rfl,hk1,hk2⟩))|refine aX ?_|with_reducible intro _|refine aP ?_ ?_)
   have hq2:=hq k.toNat (by omega);generalize hnl:((x0::xs++[((x0::xs).length:Int)]).set ((((x0::xs).length:Nat):Int).toNat*1) ((x0::xs++[((x0::xs).length:Int)]).getD (k.toNat*1) 0)).set (k.toNat*1) ((x0::xs++[((x0::xs).length:Int)]).getD ((((x0::xs).length:Nat):Int).toNat*1) 0)=nl at hq2;cases nl with
   | nil=>have:=hq2.len;simp at this
   | cons y0 ys=>
     have hyl:(y0::ys).length=(x0::xs).length+1:=by rw[hq2.len];rfl
     refine q_loop (y0::ys,g',_) ?_ ?_ (by exact⟨int_eq (by dsimp only;rw[hyl];rfl),(congrArg (fun n=>AV.msl 5 g' n 1) hyl.symm),trivial⟩) (by exact⟨rfl,rfl,trivial⟩) aK aK
     · refine⟨by dsimp only;omega,?_⟩;dsimp only;rw[hyl,hlx];exact hq2
     · dsimp only;omega
end Go.Abs
namespace Go.Abs
open Go.Proofs Go.RowKit Go.Lib
theorem wp_cpI(w:World){o:Oper}{a:Act}{K:Act→World→Prop}{Q:Exit→Act→World→Prop}(d s:Operand)(t t':TypeId)(ho:o.op= .call {callee:= .builtin .copy,args:= #[d,s],argTypes:= #[t,t'] })(v u:Value)(hd:a.eval d=v)(hs:a.eval s=u){P:Program}{v':Value}{w':World}(hr:(Builtin.copy_ #[t,t'] o.type #[v,u]).run P w= .ok v' w')(h:K (a.put o.dst v') w'):o.wp P a w K Q:=by
 unfold Oper.wp execOp;simp only[ho,resolve,invoke,builtin,Sem.run_bind,Sem.run_pure,Result.andThen_ok,List.map_toArray,List.map_cons,List.map_nil,hd,hs,hr];exact h
theorem wpL_cpI(w:World){ops:Array Oper}{rest:List Oper}{o:Oper}{a:Act}{Q:Exit→Act→World→Prop}{P:Program}(hgd:o.guard=none)(d s:Operand)(t t':TypeId)(ho:o.op= .call {callee:= .builtin .copy,args:= #[d,s],argTypes:= #[t,t'] })(v u:Value)(hd:a.eval d=v)(hs:a.eval s=u){v':Value}{w':World}(hr:(Builtin.copy_ #[t,t'] o.type #[v,u]).run P w= .ok v' w')(h:wpList P ops Q rest (a.put o.dst v') w'):wpList P ops Q (o::rest) a w:=
 wpList_plain hgd fun _ hK=>wp_cpI w d s t t' ho v u hd hs hr (hK _ _ h)
theorem st_cpI{ops:Array Oper}{o:Oper}{a:Act}{w:World}{K:Act→World→Prop}{Q:Exit→Act→World→Prop}{E:Prop}{P:Program}(hg:o.guard=none)(d x:Operand)(t t':TypeId)(hop:o.op=Op.call {callee:=Callee.builtin Builtin.copy,args:= #[d,x],argTypes:= #[t,t'] })(v u:Value)(hd:a.eval d=v)(hx:a.eval x=u){v':Value}{w':World}(hr:(Builtin.copy_ #[t,t'] o.type #[v,u]).run P w= .ok v' w')(hK:K (a.put o.dst v') w'):
  if Region.wanted o (yielded ops a.tmps)=true then Oper.wp P o a w K Q else E:=by
 have hw:Region.wanted o (yielded ops a.tmps)=true:=by simp[Region.wanted,hg]
 rw[if_pos hw];exact wp_cpI w d x t t' hop v u hd hx hr hK
set_option maxRecDepth 100000 in
theorem insA(v':Value)(n:Nat)(w w':World)(b:Option Addr)(c:Nat)(hb:b=none→n=0∧c=0)(vl:Addr)(vc:Nat)(hrun:∀ty,(Builtin.append_ #[42,42] ty #[.slice b n c,.slice (some vl) 1 vc]).run Tryz.prog w= .ok v' w'):
  Calls Tryz.prog 120 #[.slice b n c,.int .i64 n,.slice (some vl) 1 vc] w fun e W=>e= .returned v'∧W=w':=by
 go_enter Tryz.func120,Tryz.ntmps120
 cases b with
 | none=>
   obtain⟨rfl,rfl⟩:=hb rfl
   go_wp2_with (at_builtin;refine Lib.wpList_append_run _ rfl _ _ _ _ rfl _ _ rfl rfl _ _ (hrun _) ?_)
   go_ret
   exact⟨rfl,rfl⟩
 | some a=>
   go_wp2_with (at_builtin;refine Lib.wpList_append_run _ rfl _ _ _ _ rfl _ _ rfl rfl _ _ (hrun _) ?_)
   all_goals (go_ret;exact⟨rfl,rfl⟩)
set_option maxRecDepth 100000 in
theorem insB(n c i:Nat)(hi:i<n)(hroom:n+1≤c)(hn63:n≤4000000000000000000)(b vb vc:Nat)(w W1 W2:World)(hov:∀lb cb,(callFunc 179 #[.slice (some ⟨vb,0,none⟩) 1 vc,.slice (some ⟨b,i+1,none⟩) lb cb]).run Tryz.prog w= .ok (.value (.bool false)) w)(hcp1:∀ty dc sc,(Builtin.copy_ #[42,42] ty #[.slice (some ⟨b,i+1,none⟩) (n-i) dc,.slice (some ⟨b,i,none⟩) (n+1-i) sc]).run Tryz.prog w.drew= .ok (goInt (n-i:Nat)) W1)(hcp2:∀ty dc,(Builtin.copy_ #[42,42] ty #[.slice (some ⟨b,i,none⟩) (n+1-i) dc,.slice (some ⟨vb,0,none⟩) 1 vc]).run Tryz.prog W1= .ok (goInt 1) W2):
  Calls Tryz.prog 120 #[.slice (some ⟨b,0,none⟩) n c,.int .i64 i,.slice (some ⟨vb,0,none⟩) 1 vc] w fun e W=>e= .returned (.slice (some ⟨b,0,none⟩) (n+1) c)∧W=W2:=by
 have hz2:¬((i:Int)=(n:Int)):=by omega
 have hw1:IntKind.i64.wrap ((i:Int)+(1:Int))=(i:Int)+(1:Int):=by rw[IntKind.wrap_i64];omega
 have hb1:(0:Int)≤(i:Int)+(1:Int):=by omega
 have hin:i≤n:=by omega
 have htn:((i:Int)+(1:Int)).toNat=i+1:=by omega
 have hb2:¬(c=i+1):=by omega
 have hb3:(i:Int)≤(n:Int)+(1:Int):=by omega
 have hb4:¬(c=i):=by omega
 go_enter Tryz.func120,Tryz.ntmps120
 go_wp2_with (simp only[hov])
 go_region_law (refine st_cpI rfl _ _ 42 42 rfl _ _ (by simp[Act.eval,Act.put]) (by simp[Act.eval,Act.put]) (hcp1 _ _ _) ?_)
 go_wp2_with (at_builtin;refine wpL_cpI _ rfl _ _ 42 42 rfl _ _ rfl rfl (hcp2 _ _) ?_)
 go_ret
 exact⟨rfl,rfl⟩
set_option maxRecDepth 100000 in
theorem insC(n c i G:Nat)(hi:i<n)(hnc:n≤c)(hroom:¬n+1≤c)(hc63:c≤4000000000000000000)(hG:n+1≤G)(hG63:G≤9223372036854775807)(b vb vc nb:Nat)(w W0 W1 W2:World)(hap:∀ty,(Builtin.append_ #[42,3] ty #[.slice (some ⟨b,0,none⟩) i c,.int .i64 ((n:Int)+1-(i:Int))]).run Tryz.prog w= .ok (.slice (some ⟨nb,0,none⟩) (n+1) G) W0)(hcp1:∀ty dc,(Builtin.copy_ #[42,42] ty #[.slice (some ⟨nb,i,none⟩) (n+1-i) dc,.slice (some ⟨vb,0,none⟩) 1 vc]).run Tryz.prog W0= .ok (goInt 1) W1)(hcp2:∀ty dc sc,(Builtin.copy_ #[42,42] ty #[.slice (some ⟨nb,i+1,none⟩) (n+1-(i+1)) dc,.slice (some ⟨b,i,none⟩) (n-i) sc]).run Tryz.prog W1.drew= .ok (goInt (n-i:Nat)) W2):
  Calls Tryz.prog 120 #[.slice (some ⟨b,0,none⟩) n c,.int .i64 i,.slice (some ⟨vb,0,none⟩) 1 vc] w fun e W=>e= .returned (.slice (some ⟨nb,0,none⟩) (n+1) G)∧W=W2:=by
 have hz2:¬((i:Int)=(n:Int)):=by omega
 have hz3:(c:Int)<(n:Int)+(1:Int):=by omega
 have hw1:IntKind.i64.wrap ((i:Int)+(1:Int))=(i:Int)+(1:Int):=by rw[IntKind.wrap_i64];omega
 have hb1:(0:Int)≤(i:Int)+(1:Int):=by omega
 have hin:i≤n:=by omega
 have htn:((i:Int)+(1:Int)).toNat=i+1:=by omega
 have hb3:(i:Int)≤(n:Int):=by omega
 have hb4:¬(c=i):=by omega
 have hGi:¬(G=i):=by omega
 have hGim:¬(G=i+1):=by omega
 go_enter Tryz.func120,Tryz.ntmps120
 go_wp2_with (first
  | (at_builtin;refine Lib.wpList_append_run _ rfl _ _ _ _ rfl _ _ rfl rfl _ _ (hap _) ?_)
  | (at_builtin;refine wpL_cpI _ rfl _ _ 42 42 rfl _ _ rfl rfl (hcp1 _ _) ?_))
 go_region_law (refine st_cpI rfl _ _ 42 42 rfl (.slice (some ⟨nb,i+1,none⟩) (n+1-(i+1)) (G-(i+1))) (.slice (some ⟨b,i,none⟩) (n-i) (c-i)) (by simp[Act.eval,Act.put]) (by simp[Act.eval,Act.put]) (hcp2 _ _ _) ?_)
 go_wp2
 go_ret
 exact⟨rfl,rfl⟩
set_option maxRecDepth 100000 in
theorem insA_i(v':Value)(n:Nat)(w w':World)(b:Option Addr)(c:Nat)(hb:b=none→n=0∧c=0)(vl:Addr)(vc:Nat)(hrun:∀ty,(Builtin.append_ #[22,22] ty #[.slice b n c,.slice (some vl) 1 vc]).run Tryz.prog w= .ok v' w'):
  Calls Tryz.prog 121 #[.slice b n c,.int .i64 n,.slice (some vl) 1 vc] w fun e W=>e= .returned v'∧W=w':=by
 go_enter Tryz.func121,Tryz.ntmps121
 cases b with
 | none=>
   obtain⟨rfl,rfl⟩:=hb rfl
   go_wp2_with (at_builtin;refine Lib.wpList_append_run _ rfl _ _ _ _ rfl _ _ rfl rfl _ _ (hrun _) ?_)
   go_ret
   exact⟨rfl,rfl⟩
 | some a=>
   go_wp2_with (at_builtin;refine Lib.wpList_append_run _ rfl _ _ _ _ rfl _ _ rfl rfl _ _ (hrun _) ?_)
   all_goals (go_ret;exact⟨rfl,rfl⟩)
set_option maxRecDepth 100000 in
theorem insB_i(n c i:Nat)(hi:i<n)(hroom:n+1≤c)(hn63:n≤4000000000000000000)(b vb vc:Nat)(w W1 W2:World)(hov:∀lb cb,(callFunc 181 #[.slice (some ⟨vb,0,none⟩) 1 vc,.slice (some ⟨b,i+1,none⟩) lb cb]).run Tryz.prog w= .ok (.value (.bool false)) w)(hcp1:∀ty dc sc,(Builtin.copy_ #[22,22] ty #[.slice (some ⟨b,i+1,none⟩) (n-i) dc,.slice (some ⟨b,i,none⟩) (n+1-i) sc]).run Tryz.prog w.drew= .ok (goInt (n-i:Nat)) W1)(hcp2:∀ty dc,(Builtin.copy_ #[22,22] ty #[.slice (some ⟨b,i,none⟩) (n+1-i) dc,.slice (some ⟨vb,0,none⟩) 1 vc]).run Tryz.prog W1= .ok (goInt 1) W2):
  Calls Tryz.prog 121 #[.slice (some ⟨b,0,none⟩) n c,.int .i64 i,.slice (some ⟨vb,0,none⟩) 1 vc] w fun e W=>e= .returned (.slice (some ⟨b,0,none⟩) (n+1) c)∧W=W2:=by
 have hz2:¬((i:Int)=(n:Int)):=by omega
 have hw1:IntKind.i64.wrap ((i:Int)+(1:Int))=(i:Int)+(1:Int):=by rw[IntKind.wrap_i64];omega
 have hb1:(0:Int)≤(i:Int)+(1:Int):=by omega
 have hin:i≤n:=by omega
 have htn:((i:Int)+(1:Int)).toNat=i+1:=by omega
 have hb2:¬(c=i+1):=by omega
 have hb3:(i:Int)≤(n:Int)+(1:Int):=by omega
 have hb4:¬(c=i):=by omega
 go_enter Tryz.func121,Tryz.ntmps121
 go_wp2_with (simp only[hov])
 go_region_law (refine st_cpI rfl _ _ 22 22 rfl _ _ (by simp[Act.eval,Act.put]) (by simp[Act.eval,Act.put]) (hcp1 _ _ _) ?_)
 go_wp2_with (at_builtin;refine wpL_cpI _ rfl _ _ 22 22 rfl _ _ rfl rfl (hcp2 _ _) ?_)
 go_ret
 exact⟨rfl,rfl⟩
set_option maxRecDepth 100000 in
theorem insC_i(n c i G:Nat)(hi:i<n)(hnc:n≤c)(hroom:¬n+1≤c)(hc63:c≤4000000000000000000)(hG:n+1≤G)(hG63:G≤9223372036854775807)(b vb vc nb:Nat)(w W0 W1 W2:World)(hap:∀ty,(Builtin.append_ #[22,3] ty #[.slice (some ⟨b,0,none⟩) i c,.int .i64 ((n:Int)+1-(i:Int))]).run Tryz.prog w= .ok (.slice (some ⟨nb,0,none⟩) (n+1) G) W0)(hcp1:∀ty dc,(Builtin.copy_ #[22,22] ty #[.slice (some ⟨nb,i,none⟩) (n+1-i) dc,.slice (some ⟨vb,0,none⟩) 1 vc]).run Tryz.prog W0= .ok (goInt 1) W1)(hcp2:∀ty dc sc,(Builtin.copy_ #[22,22] ty #[.slice (some ⟨nb,i+1,none⟩) (n+1-(i+1)) dc,.slice (some ⟨b,i,none⟩) (n-i) sc]).run Tryz.prog W1.drew= .ok (goInt (n-i:Nat)) W2):
  Calls Tryz.prog 121 #[.slice (some ⟨b,0,none⟩) n c,.int .i64 i,.slice (some ⟨vb,0,none⟩) 1 vc] w fun e W=>e= .returned (.slice (some ⟨nb,0,none⟩) (n+1) G)∧W=W2:=by
 have hz2:¬((i:Int)=(n:Int)):=by omega
 have hz3:(c:Int)<(n:Int)+(1:Int):=by omega
 have hw1:IntKind.i64.wrap ((i:Int)+(1:Int))=(i:Int)+(1:Int):=by rw[IntKind.wrap_i64];omega
 have hb1:(0:Int)≤(i:Int)+(1:Int):=by omega
 have hin:i≤n:=by omega
 have htn:((i:Int)+(1:Int)).toNat=i+1:=by omega
 have hb3:(i:Int)≤(n:Int):=by omega
 have hb4:¬(c=i):=by omega
 have hGi:¬(G=i):=by omega
 have hGim:¬(G=i+1):=by omega
 go_enter Tryz.func121,Tryz.ntmps121
 go_wp2_with (first
  | (at_builtin;refine Lib.wpList_append_run _ rfl _ _ _ _ rfl _ _ rfl rfl _ _ (hap _) ?_)
  | (at_builtin;refine wpL_cpI _ rfl _ _ 22 22 rfl _ _ rfl rfl (hcp1 _ _) ?_))
 go_region_law (refine st_cpI rfl _ _ 22 22 rfl (.slice (some ⟨nb,i+1,none⟩) (n+1-(i+1)) (G-(i+1))) (.slice (some ⟨b,i,none⟩) (n-i) (c-i)) (by simp[Act.eval,Act.put]) (by simp[Act.eval,Act.put]) (hcp2 _ _ _) ?_)
 go_wp2
 go_ret
 exact⟨rfl,rfl⟩
end Go.Abs
namespace Go.Abs
open Go.Proofs Go.RowKit Go.Lib
section
variable {P:Program} {G:GS} {w:World} {σ:Sig}
theorem ROut.of_step{Y:Option (YC P)}{T:Nat→Prop}{G':GS}{σ':Sig}{w':World}{R:AV→Sig→Prop}{v:Value}{av:AV}(hy:YI Y T σ G.K w)(hd:∀b,Foot G σ b→ ¬T b)(hs:StepOK G σ w G' σ' w')(hys:σ' YS=σ YS)(hr:Rel G' av v)(hR:R av σ'):ROut Y T G σ w R (.returned v) w':=
 ⟨v,av,σ',G',T,rfl,hs.inv,hr,hR,hs.le,hs.ext.weak fun b _ h=> .inl h,hs.own,hy.step hd hs hys,fun b hb ht=>(hs.own b hb).elim (fun h=>hd b h ht) fun h=>by have:=hy.lt ht;omega,fun b hb=> .inl hb⟩
theorem run_cp{t u e ty:TypeId}(ht:P.underlying t=some (.slice e))(hs:szOf P e=some 1){B o n cap m k:Nat}{vals:Array Value}{T:TypeId}{vb:Value}(hobj:w.heap[B]?=some (.cells vals T (0,0)))(vs:List Value)(hlen:(Builtin.lenOf vb).run P w= .ok m w)(hk:Nat.min m n=k)(hfirst:(Builtin.firstCells 1 k vb).run P w= .ok vs.toArray w)(hfit:o+vs.length≤vals.size)(hone:∀v∈vs,v.oneCell'=true):
  (Builtin.copy_ #[t,u] ty #[.slice (some ⟨B,o,none⟩) n cap,vb]).run P w= .ok (goInt (k:Nat)) (w.setRow B (setL vals.toList o vs).toArray):=by
 have hfit':o+0+vs.length≤vals.size:=by omega
 have hst:=run_storeCells_at P B o T vs 0 vals w hobj hfit' hone;simp only[Nat.add_zero] at hst;rw[over_eq _ _ _ (by simpa using hfit')] at hst;have hf:(Builtin.firstCells 1 (Nat.min m n) vb).run P w= .ok vs.toArray w:=by rw[hk];exact hfirst
 subst hk;simp[Builtin.copy_,run_underlying ht,hlen,run_szOf hs,hf,hst]
end
structure InsF (P:Program) (f T E ov:Nat) (by1:Nat) (zv:Value):Prop where
 ok:okFn P f=true
 ut:P.underlying T=some (.slice E)
 u3:P.underlying 3=some (.int .i64)
 info:∃i,P.info? E=some i∧i.zero=some zv∧i.size=1∧i.bytes=by1
 by1:0<by1∧by1≤1000
 zc:zv.cells.size=1
 sz:szOf P E=some 1
 ovl:∀(w:World) (a b:Addr) (la ca lb cb:Nat) (tA tB:TypeId) (kA kB:Nat),a.block≠b.block→w.shape? a.block=some (tA,kA)→w.shape? b.block=some (tB,kB)→kB≠0→w.frozen? a=false→w.frozen? {block:=a.block,off:=kA }=false→(callFunc ov #[.slice (some a) la ca,.slice (some b) lb cb]).run P w= .ok (.value (.bool false)) w
 A:∀(v':Value) (n:Nat) (w w':World) (b:Option Addr) (c:Nat),(b=none→n=0∧c=0)→ ∀(vl:Addr) (vc:Nat),(∀ty,(Builtin.append_ #[T,T] ty #[.slice b n c,.slice (some vl) 1 vc]).run P w= .ok v' w')→
  Calls P f #[.slice b n c,.int .i64 n,.slice (some vl) 1 vc] w fun e W=>e= .returned v'∧W=w'
 B:∀(n c i:Nat),i<n→n+1≤c→n≤4000000000000000000→ ∀(b vb vc:Nat) (w W1 W2:World),(∀lb cb,(callFunc ov #[.slice (some ⟨vb,0,none⟩) 1 vc,.slice (some ⟨b,i+1,none⟩) lb cb]).run P w= .ok (.value (.bool false)) w)→
  (∀ty dc sc,(Builtin.copy_ #[T,T] ty #[.slice (some ⟨b,i+1,none⟩) (n-i) dc,.slice (some ⟨b,i,none⟩) (n+1-i) sc]).run P w.drew= .ok (goInt (n-i:Nat)) W1)→
  (∀ty dc,(Builtin.copy_ #[T,T] ty #[.slice (some ⟨b,i,none⟩) (n+1-i) dc,.slice (some ⟨vb,0,none⟩) 1 vc]).run P W1= .ok (goInt 1) W2)→
  Calls P f #[.slice (some ⟨b,0,none⟩) n c,.int .i64 i,.slice (some ⟨vb,0,none⟩) 1 vc] w fun e W=>e= .returned (.slice (some ⟨b,0,none⟩) (n+1) c)∧W=W2
 C:∀(n c i G:Nat),i<n→n≤c→ ¬n+1≤c→c≤4000000000000000000→n+1≤G→G≤9223372036854775807→ ∀(b vb vc nb:Nat) (w W0 W1 W2:World),
  (∀ty,(Builtin.append_ #[T,3] ty #[.slice (some ⟨b,0,none⟩) i c,.int .i64 ((n:Int)+1-(i:Int))]).run P w= .ok (.slice (some ⟨nb,0,none⟩) (n+1) G) W0)→
  (∀ty dc,(Builtin.copy_ #[T,T] ty #[.slice (some ⟨nb,i,none⟩) (n+1-i) dc,.slice (some ⟨vb,0,none⟩) 1 vc]).run P W0= .ok (goInt 1) W1)→
  (∀ty dc sc,(Builtin.copy_ #[T,T] ty #[.slice (some ⟨nb,i+1,none⟩) (n+1-(i+1)) dc,.slice (some ⟨b,i,none⟩) (n-i) sc]).run P W1.drew= .ok (goInt (n-i:Nat)) W2)→
  Calls P f #[.slice (some ⟨b,0,none⟩) n c,.int .i64 i,.slice (some ⟨vb,0,none⟩) 1 vc] w fun e W=>e= .returned (.slice (some ⟨nb,0,none⟩) (n+1) G)∧W=W2
theorem insL_f:InsF Tryz.prog 120 42 22 179 24 (.slice none 0 0) where
 ok:=by kernel_rfl
 ut:=Tryz.underlying42
 u3:=Tryz.underlying3
 info:=⟨_,rfl,by kernel_rfl,by kernel_rfl,by kernel_rfl⟩
 by1:=⟨by decide,by decide⟩
 zc:=rfl
 sz:=by kernel_rfl
 ovl w a b la ca lb cb tA tB kA kB h1 h2 h3 h4 h5 h6:=by
  rw[run_callFunc_extern Tryz.func179 (by kernel_rfl) (by kernel_rfl) (by kernel_rfl) (e:=Extern.SlicesOverlaps.overlaps #[42,42] #[4]) (by kernel_rfl),
   Lib.run_overlaps_apart w 42 4 22 Tryz.underlying42 1 (fun w=>by rfl) a b la ca lb cb h1 tA tB kA kB h2 h3 h4 h5 h6]
  rfl
 A:=insA
 B:=insB
 C:=insC
theorem insI_f:InsF Tryz.prog 121 22 3 181 8 (.int .i64 0) where
 ok:=by kernel_rfl
 ut:=Tryz.underlying22
 u3:=Tryz.underlying3
 info:=⟨_,rfl,by kernel_rfl,by kernel_rfl,by kernel_rfl⟩
 by1:=⟨by decide,by decide⟩
 zc:=rfl
 sz:=by kernel_rfl
 ovl w a b la ca lb cb tA tB kA kB h1 h2 h3 h4 h5 h6:=by
  rw[run_callFunc_extern Tryz.func181 (by kernel_rfl) (by kernel_rfl) (by kernel_rfl) (e:=Extern.SlicesOverlaps.overlaps #[22,22] #[4]) (by kernel_rfl),
   Lib.run_overlaps_apart w 22 4 3 Tryz.underlying22 1 (fun w=>by rfl) a b la ca lb cb h1 tA tB kA kB h2 h3 h4 h5 h6]
  rfl
 A:=insA_i
 B:=insB_i
 C:=insC_i
end Go.Abs
namespace Go.Abs
open Go.Proofs Go.RowKit Go.Lib
section
variable {P:Program}
theorem insNil{f T E ov by1:Nat}{zv:Value}(F:InsF P f T E ov by1 zv){x:AV}(hx:x.scal=true)(h:Nat):
  RawC P f [.nsl,.int .i64 0,.msl 1001 h 1 1] (sg [(1001,(h,.row [x]))]) (SR (fun g' v=>v= .msl 1000 g' 1 1) (fun g'=>[(1000,(g',.row [x])),(1001,(h,.row [x]))])):=by
 refine⟨F.ok,fun Y T0 G w vals hI hy hd hr=>?_⟩;obtain⟨v0,_,rfl,r0,v1,_,rfl,r1,v2,_,rfl,r2,rfl⟩:=hr;obtain rfl:v0= .slice none 0 0:=r0;obtain rfl:v1= .int .i64 0:=r1;obtain⟨B2,cap2,rfl,hc2,hm2⟩:=r2;obtain⟨i,hi,hz,hs,hby⟩:=F.info;obtain⟨γ,hγ⟩:=hI.fresh 1000;have hb1:=F.by1;obtain⟨v',w',G',hrun,hrel,hst⟩:=e_apmM (P:=P) (ty:=0) (d:=1000) (γ:=γ) (a:= .nsl) (b:= .msl 1001 h 1 1) (va:= .slice none 0 0) (vb:= .slice (some ⟨B2,0,none⟩) 1 cap2) (n:=0) (m:=1) (cs:=[]) (ys:=[x]) (σ':=sg [(1001,(h,.row [x]))]) hI (hγ γ (Nat.le_refl _)) F.ut F.ut hi hz (by rw[hs];exact F.zc) (by omega) (by omega) rfl ⟨B2,cap2,rfl,hc2,hm2⟩ (p:=True) rfl trivial (q:=h=h∧1=i.size∧1*i.size≤[x].length∧[x].length=1*i.size∧[x].all AV.scal=true∧0<1) rfl (by rw[hs];simp[hx]) (by rw[hby];omega);refine (F.A v' 0 w w' none 0 (fun _=>⟨rfl,rfl⟩) ⟨B2,0,none⟩ cap2 fun ty=>hrun).mono ?_;rintro e W ⟨rfl,rfl⟩;rw[hs] at hrel;exact ROut.of_step hy hd hst rfl hrel ⟨γ,rfl,rfl,rfl,trivial⟩
def layL(xs:List AV)(k:Nat)(x:AV):List AV:=xs.take k++x::xs.drop k
theorem layL_len{xs:List AV}{k:Nat}{x:AV}(h:k≤xs.length):(layL xs k x).length=xs.length+1:=by unfold layL;simp;omega
theorem layL_get{xs:List AV}{k:Nat}{x:AV}(h:k≤xs.length)(j:Nat):(layL xs k x)[j]?=if j<k then xs[j]? else if j=k then some x else xs[j-1]?:=by
 unfold layL;have hl:(xs.take k).length=k:=by rw[List.length_take];omega
 by_cases h1:j<k
 · rw[if_pos h1,List.getElem?_append_left (by omega),List.getElem?_take_of_lt h1]
 · rw[if_neg h1,List.getElem?_append_right (by omega),hl];by_cases h2:j=k
   · subst h2;rw[if_pos rfl,Nat.sub_self];rfl
   · rw[if_neg h2,show j-k=(j-1-k)+1 by omega,List.getElem?_cons_succ,List.getElem?_drop]
     congr 1;omega
theorem shape_of{w:World}{b:Nat}{vals:Array Value}{T:TypeId}(h:w.heap[b]?=some (.cells vals T (0,0))):w.shape? b=some (T,vals.size):=by simp[World.shape?,h]
theorem frozen_of{w:World}{b:Nat}{vals:Array Value}{T:TypeId}(h:w.heap[b]?=some (.cells vals T (0,0)))(o:Nat):w.frozen? ⟨b,o,none⟩=false:=by simp[World.frozen?,h]
theorem cell_of{w:World}{b:Nat}{vals:Array Value}{T:TypeId}(h:w.heap[b]?=some (.cells vals T (0,0)))(o:Nat):w.cell? ⟨b,o,none⟩=vals[o]?:=by simp[World.cell?,h]
theorem insM{f T E ov by1:Nat}{zv:Value}(F:InsF P f T E ov by1 zv){x:AV}(hx:x.scal=true){xs:List AV}(hxs:xs.all AV.scal=true)(g h k:Nat)(hk:k≤xs.length)(hn:xs.length≤1000000):
  RawC P f [.msl 1000 g xs.length 1,.int .i64 k,.msl 1001 h 1 1] (sg [(1000,(g,.row xs)),(1001,(h,.row [x]))]) (SR (fun g' v=>v= .msl 1000 g' (xs.length+1) 1) (fun g'=>[(1000,(g',.row (layL xs k x))),(1001,(h,.row [x]))])):=by
 refine⟨F.ok,fun Y T0 G w vals hI hy hd hr=>?_⟩;obtain⟨v0,_,rfl,r0,v1,_,rfl,r1,v2,_,rfl,r2,rfl⟩:=hr;obtain⟨B,cap,rfl,hc,hm⟩:=r0;obtain rfl:v1= .int .i64 k:=r1;obtain⟨B2,cap2,rfl,hc2,hm2⟩:=r2;obtain⟨i,hi,hz,hs,hby⟩:=F.info;obtain⟨γ,hγ⟩:=hI.fresh 1000;have hγ:=hγ γ (Nat.le_refl _);have hb1:=F.by1;obtain⟨σ,hσ⟩:∃σ,sg [(1000,(g,Res.row xs)),(1001,(h,Res.row [x]))]=σ:=⟨_,rfl⟩;have hσ0:σ 1000=(g,.row xs):=by rw[←hσ];rfl
 have hσ1:σ 1001=(h,.row [x]):=by rw[←hσ];rfl
 have hσY:∀c',upd σ 1000 c' YS=σ YS:=fun c'=>by rw[upd_eq,if_neg (by decide)]
 rw[hσ] at hI hy hd ⊢;by_cases hkn:k=xs.length
 · subst hkn;obtain⟨v',w',G',hrun,hrel,hst⟩:=e_apmM (P:=P) (ty:=0) (d:=1000) (γ:=γ) (a:= .msl 1000 g xs.length 1) (b:= .msl 1001 h 1 1) (va:= .slice (some ⟨B,0,none⟩) xs.length cap) (vb:= .slice (some ⟨B2,0,none⟩) 1 cap2) (n:=xs.length) (m:=1) (cs:=xs) (ys:=[x]) (σ':=upd σ 1000 (g,.dead)) hI hγ F.ut F.ut hi hz (by rw[hs];exact F.zc) (by omega) (by omega) ⟨B,cap,rfl,hc,hm⟩ ⟨B2,cap2,rfl,hc2,hm2⟩ (p:=g=g∧1=i.size∧xs.length=xs.length*i.size) (by simp only[baseM,hσ0]) (by rw[hs];simp) (q:=h=h∧1=i.size∧1*i.size≤[x].length∧[x].length=1*i.size∧[x].all AV.scal=true∧0<1) (by simp only[rowsM,hσ1]) (by rw[hs];simp[hx]) (by
    rw[hby];have:(xs.length+1)*by1≤1000001*1000:=Nat.mul_le_mul (by omega) (by omega);omega)
   refine (F.A v' xs.length w w' (some ⟨B,0,none⟩) cap (fun h=>by cases h) ⟨B2,0,none⟩ cap2 fun ty=>hrun).mono ?_;rintro e W ⟨rfl,rfl⟩;rw[hs] at hrel;have e1:layL xs xs.length x=xs++[x]:=by simp[layL]
   have e2:∀c',newS (upd σ 1000 (g,.dead)) 1000 γ c'=upd σ 1000 (γ,.row c'):=fun c'=>by rw[newS,upd_upd]
   rw[e2] at hst;refine ROut.of_step hy hd hst (hσY _) hrel ⟨γ,rfl,?_,?_,trivial⟩
   · rw[upd_eq,if_pos rfl,e1]
   · rw[upd_eq,if_neg (by decide),hσ1]
 have hk1:k<xs.length:=by omega
 rcases hI.res 1000 xs (by rw[hσ0]) with⟨_,h0⟩ | ⟨b',e0,lim',vals,TT,hR⟩ | ⟨b',hO⟩
 · rw[hσ0,hm] at h0;cases h0
 rotate_left
 · have hm':=hO.m;rw[hσ0,hm] at hm';cases hm'
 rcases hI.res 1001 [x] (by rw[hσ1]) with⟨_,h0⟩ | ⟨b',e0,lim',vals2,TT2,hR2⟩ | ⟨b',hO⟩
 · rw[hσ1,hm2] at h0;cases h0
 rotate_left
 · have hm':=hO.m;rw[hσ1,hm2] at hm';cases hm'
 rw[hσ0] at hR;rw[hσ1] at hR2;have:=hR.m;rw[hm] at this;cases this;have:=hR2.m;rw[hm2] at this;cases this;have hBB:B2≠B:=fun e=>hI.dist 1001 1000 B _ _ (by decide) ⟨_,by rw[hσ1]⟩ ⟨_,by rw[hσ0]⟩ (by rw[hσ1,hm2,e]) (by rw[hσ0];exact hm);obtain⟨xv,hxv,hxr⟩:=hR2.rel 0 x rfl;have hxo:xv.oneCell'=true:=scal_one hxr hx;have hobj:=hR.obj;have hvl:vals.toList.length=vals.size:=by simp
 have hobj2:=hR2.obj;have hlim:=hR.lim;have hfit:=hR.fit;have hlt:B<w.heap.size:=(Array.getElem?_eq_some_iff.1 hobj).1;have hlt2:B2<w.heap.size:=(Array.getElem?_eq_some_iff.1 hobj2).1;have hcellv:∀j v,(List.take (xs.length-k) (List.drop k vals.toList))[j]?=some v→vals[k+j]?=some v∧j<xs.length-k:=fun j v hj=>by
  rw[List.getElem?_take] at hj;split at hj
  · rw[List.getElem?_drop] at hj;exact⟨by simpa using hj,by assumption⟩
  · cases hj
 obtain⟨s1,hs1⟩:∃s1,List.take (xs.length-k) (List.drop k vals.toList)=s1:=⟨_,rfl⟩;rw[hs1] at hcellv;have hs1l:s1.length=xs.length-k:=by rw[←hs1,List.length_take,List.length_drop,hvl];omega
 have hs1g:∀j,j<xs.length-k→s1[j]?=vals[k+j]?:=fun j hj=>by rw[←hs1,List.getElem?_take_of_lt hj,List.getElem?_drop];simp
 have hone1:∀v∈s1,v.oneCell'=true:=fun v hv=>by obtain⟨j,hj⟩:=List.getElem?_of_mem hv;obtain⟨h1,h2⟩:=hcellv j v hj;obtain⟨v',h3,h4⟩:=hR.rel (k+j) _ (List.getElem?_eq_getElem (by omega));rw[Nat.zero_add,h1] at h3;cases h3;rw[List.all_eq_true] at hxs;exact scal_one h4 (hxs _ (List.getElem_mem _))
 have hcell2:∀(j:Nat) (v:Value),[xv][j]?=some v→vals2[0+j]?=some v:=fun j v hj=>by
  cases j with
  | zero=>simpa using (by simpa using hj:xv=v)▸hxv
  | succ j=>simp at hj
 have hrel:=hR.rel;by_cases hroom:xs.length+1≤cap
 · obtain⟨W1,hW1⟩:∃W1,w.drew.setRow B (setL vals.toList (k+1) s1).toArray=W1:=⟨_,rfl⟩;have hdobj:w.drew.heap[B]?=some (.cells vals TT (0,0)):=hobj;have ho1:W1.heap[B]?=some (.cells (setL vals.toList (k+1) s1).toArray TT (0,0)):=by rw[←hW1];exact setRow_heap _ _ _ _ _ _ hdobj
   have ho2:W1.heap[B2]?=some (.cells vals2 TT2 (0,0)):=by rw[←hW1,setRow_other _ _ _ _ hBB];exact hobj2
   have hsz1:(setL vals.toList (k+1) s1).toArray.size=vals.size:=by simp[length_setL]
   have hB:=F.B xs.length cap k hk1 hroom (by omega) B B2 cap2 w W1 (W1.setRow B (setL (setL vals.toList (k+1) s1) k [xv]).toArray)
    (fun lb cb=>F.ovl w ⟨B2,0,none⟩ ⟨B,k+1,none⟩ 1 cap2 lb cb TT2 TT _ _ hBB (shape_of hobj2) (shape_of hobj) (by omega) (frozen_of hobj2 _) (frozen_of hobj2 _))
    (fun ty dc sc=>by
      rw[←hW1];exact run_cp (P:=P) F.ut F.sz (m:=xs.length+1-k) (k:=xs.length-k) hdobj s1 rfl (by show min _ _=_;omega) (run_firstCells_some (P:=P) w.drew _ _ _ _ _ s1 (by omega) fun j v hj=>by
       rw[Addr.add_lit,cell_of hdobj];exact (hcellv j v hj).1) (by omega) hone1)
    (fun ty dc=>by
      have:=run_cp (P:=P) (t:=T) (u:=T) (ty:=ty) (cap:=dc) F.ut F.sz (o:=k) (n:=xs.length+1-k) (m:=1) (k:=1) (vb:= .slice (some ⟨B2,0,none⟩) 1 cap2) ho1 [xv] rfl (by show min _ _=_;omega) (run_firstCells_some (P:=P) W1 _ _ _ _ _ [xv] rfl fun j v hj=>by
       rw[Addr.add_lit,cell_of ho2];exact hcell2 j v hj) (by rw[hsz1];simp;omega) (fun v hv=>by rw[List.mem_singleton.1 hv];exact hxo)
      simpa using this)
   refine hB.mono ?_;rintro e W ⟨rfl,rfl⟩;have hsd:StepOK G σ w G σ w.drew:=StepOK.drew hI rfl rfl rfl rfl;have hR0:ResOK G w.drew 1000 g xs B 0 (cap*1) vals TT:=⟨hR.m,hdobj,hR.fit,hR.lim,hR.K,hR.rel⟩;have hw1:=write_ok hsd.inv hσ0 hR0 (c':=[]) (vals':=(setL vals.toList (k+1) s1).toArray) hsz1 (fun o ho=>by omega) (by simp) fun j a hj=>by simp at hj
   rw[hW1] at hw1;have hR1:ResOK G W1 1000 g [] B 0 (cap*1) (setL vals.toList (k+1) s1).toArray TT:=⟨hR.m,ho1,by simp,by rw[hsz1];exact hlim,hR.K,fun j a hj=>by simp at hj⟩;have hw2:=write_ok hw1.inv (i:=1000) (g:=g) (c:=[]) (by rw[upd_eq,if_pos rfl]) hR1 (c':=layL xs k x) (vals':=(setL (setL vals.toList (k+1) s1) k [xv]).toArray) (by simp[length_setL]) (fun o ho=>by omega) (by rw[layL_len hk];omega) fun j a hj=>by
    have hjl:=(List.getElem?_eq_some_iff.1 hj).1;rw[layL_len hk] at hjl;rw[layL_get hk] at hj;rw[Nat.zero_add,List.getElem?_toArray,setL_get _ _ _ _ (by rw[length_setL,hvl];simp;omega),setL_get _ _ _ _ (by rw[hvl];omega)];by_cases h1:j<k
    · rw[if_pos h1] at hj;rw[if_neg (by omega),if_neg (by omega)]
      simpa using hrel j a hj
    · rw[if_neg h1] at hj;by_cases h2:j=k
      · rw[if_pos h2] at hj;rw[if_pos (by simp;omega)];cases hj;exact⟨xv,by simp[h2],hxr⟩
      · rw[if_neg h2] at hj;rw[if_neg (by simp;omega),if_pos (by omega),hs1g _ (by omega),show k+(j-(k+1))=j-1 by omega]
        simpa using hrel (j-1) a hj
   rw[upd_upd] at hw2;refine ROut.of_step hy hd (hsd.trans (hw1.trans hw2)) (hσY _) (av:= .msl 1000 g (xs.length+1) 1) ⟨B,cap,rfl,hroom,hm⟩ ⟨g,rfl,?_,?_,trivial⟩
   · rw[upd_eq,if_pos rfl]
   · rw[upd_eq,if_neg (by decide),hσ1]
 · have hcap:cap=xs.length:=by omega
   subst hcap;obtain⟨os,hos⟩:∃os,List.take k vals.toList=os:=⟨_,rfl⟩;have hosl:os.length=k:=by rw[←hos,List.length_take,hvl];omega
   have hosg:∀j,j<k→os[j]?=vals[j]?:=fun j hj=>by rw[←hos,List.getElem?_take_of_lt hj];simp
   have hkk:(xs.length:Int)+1-(k:Int)=((xs.length+1-k:Nat):Int):=by omega
   have hb2:(xs.length+1)*by1≤1000001*1000:=Nat.mul_le_mul (by omega) (by omega);have hb3:(xs.length+1-k)*by1≤(xs.length+1)*by1:=Nat.mul_le_mul_right _ (by omega);have hold:(Builtin.firstCells i.size k (.slice (some ⟨B,0,none⟩) k xs.length)).run P w.drew= .ok os.toArray w.drew:=by rw[hs];exact run_firstCells_some (P:=P) w.drew _ _ _ _ _ os (by omega) fun j v hj=>by have hjl:=(List.getElem?_eq_some_iff.1 hj).1;rw[Addr.add_lit,Nat.zero_add];rw[hosg j (by omega)] at hj;exact (cell_of (w:=w.drew) hobj j).trans hj
   have hnew:k+(xs.length+1-k)=xs.length+1:=by omega
   obtain⟨GC,hGC⟩:∃GC,grownCap w (xs.length+1) xs.length E=GC:=⟨_,rfl⟩;have hGC1:xs.length+1≤GC:=by rw[←hGC];exact grownCap_ge _ _ _ _
   have hGC2:GC≤9223372036854775807:=by have:=grownCap_le_maxLen w (xs.length+1) xs.length E (by unfold maxLen;omega);rw[hGC] at this;unfold maxLen at this;omega
   obtain⟨row,hrow⟩:∃row:Array Value,row=os.toArray++Builtin.zeroCells zv.cells (xs.length+1-k)++Builtin.zeroCells zv.cells (GC-(xs.length+1)):=⟨_,rfl⟩;have hrsz:row.size=GC:=by rw[hrow];simp only[Array.size_append,List.size_toArray,size_zeroCells,F.zc,hosl];omega
   have hrl:row.toList.length=row.size:=by simp
   have hrg:∀j,j<k→row[j]?=vals[j]?:=fun j hj=>by rw[←hosg j hj,hrow,Array.append_assoc,Array.getElem?_append_left (by simp;omega)];simp
   have hap:∀ty,(Builtin.append_ #[T,3] ty #[.slice (some ⟨B,0,none⟩) k xs.length,.int .i64 ((xs.length:Int)+1-(k:Int))]).run P w= .ok (.slice (some ⟨w.heap.size,0,none⟩) (xs.length+1) GC) (w.drew.alloc (.cells row E)):=fun ty=>by have:=Lib.run_append_grow_zeros (P:=P) w T 3 ty E i zv .i64 .i64 F.ut F.u3 hi hz (some ⟨B,0,none⟩) k xs.length os hold (xs.length+1-k) (by omega) (by omega) (by omega) (by omega) (by rw[hby];omega) (by rw[hnew,hby];exact growslice_fits (by omega) (by omega));rw[hnew,hGC,←hrow] at this;rw[hkk];exact this
   obtain⟨W0,hW0⟩:∃W0,w.drew.alloc (.cells row E)=W0:=⟨_,rfl⟩;rw[hW0] at hap;have hsd:StepOK G σ w G σ w.drew:=StepOK.drew hI rfl rfl rfl rfl;have hal:=alloc_ok hsd.inv row E 0 1000 γ hγ [] (by simp) (fun o v ho=>by omega) fun j a hj=>by simp at hj
   rw[hW0] at hal;have e2:newS σ 1000 γ []=upd σ 1000 (γ,.row []):=rfl;rw[e2] at hal;obtain⟨G',hG'⟩:∃G',G.grow w.drew.heap.size row 0 1000 γ=G':=⟨_,rfl⟩;have hgm:G'.m 1000 γ=some (w.heap.size,0,row.size):=by rw[←hG',show w.heap.size=w.drew.heap.size from rfl];exact grow_m ..
   rw[hG'] at hal;have ho0:W0.heap[w.heap.size]?=some (.cells row E (0,0)):=by rw[←hW0];exact Array.getElem?_push_size
   have hoB:W0.heap[B]?=some (.cells vals TT (0,0)):=by rw[←hW0];simp only[World.alloc,World.drew];rw[Array.getElem?_push_lt (by exact hlt)];have:=hobj;rw[Array.getElem?_eq_getElem hlt] at this;exact this
   have hoB2:W0.heap[B2]?=some (.cells vals2 TT2 (0,0)):=by rw[←hW0];simp only[World.alloc,World.drew];rw[Array.getElem?_push_lt (by exact hlt2)];have:=hobj2;rw[Array.getElem?_eq_getElem hlt2] at this;exact this
   have hneB:B≠w.heap.size:=by omega
   have hneB2:B2≠w.heap.size:=by omega
   obtain⟨W1,hW1⟩:∃W1,W0.setRow w.heap.size (setL row.toList k [xv]).toArray=W1:=⟨_,rfl⟩;have ho1:W1.heap[w.heap.size]?=some (.cells (setL row.toList k [xv]).toArray E (0,0)):=by rw[←hW1];exact setRow_heap _ _ _ _ _ _ ho0
   have hsz1:(setL row.toList k [xv]).toArray.size=row.size:=by simp[length_setL]
   have ho1B:W1.heap[B]?=some (.cells vals TT (0,0)):=by rw[←hW1,setRow_other _ _ _ _ hneB];exact hoB
   have hd1:W1.drew.heap[w.heap.size]?=some (.cells (setL row.toList k [xv]).toArray E (0,0)):=ho1
   have hC:=F.C xs.length xs.length k GC hk1 (Nat.le_refl _) (by omega) (by omega) hGC1 hGC2 B B2 cap2 w.heap.size w W0 W1 (W1.drew.setRow w.heap.size (setL (setL row.toList k [xv]) (k+1) s1).toArray) hap
    (fun ty dc=>by
      have:=run_cp (P:=P) (t:=T) (u:=T) (ty:=ty) (cap:=dc) F.ut F.sz (o:=k) (n:=xs.length+1-k) (m:=1) (k:=1) (vb:= .slice (some ⟨B2,0,none⟩) 1 cap2) ho0 [xv] rfl (by show min _ _=_;omega) (run_firstCells_some (P:=P) W0 _ _ _ _ _ [xv] rfl fun j v hj=>by
       rw[Addr.add_lit,cell_of hoB2];exact hcell2 j v hj) (by rw[hrsz];simp;omega) (fun v hv=>by rw[List.mem_singleton.1 hv];exact hxo)
      rw[hW1] at this
      simpa using this)
    (fun ty dc sc=>run_cp (P:=P) F.ut F.sz (m:=xs.length-k) (k:=xs.length-k) hd1 s1 rfl (by show min _ _=_;omega) (run_firstCells_some (P:=P) W1.drew _ _ _ _ _ s1 (by omega) fun j v hj=>by
      rw[Addr.add_lit,cell_of (w:=W1.drew) ho1B];exact (hcellv j v hj).1) (by rw[hsz1,hrsz];omega) hone1)
   refine hC.mono ?_;rintro e W ⟨rfl,rfl⟩;have hRa:ResOK G' W0 1000 γ [] w.heap.size 0 row.size row E:=⟨hgm,ho0,by simp,Nat.le_refl _,fun o _=>by
    have hh:ResOK G' W0 1000 γ [] w.heap.size 0 row.size row E∨True:= .inr trivial;rcases hal.inv.res 1000 [] (by rw[upd_eq,if_pos rfl]) with⟨_,h0⟩ | ⟨b',e0,lim',vs',TT',hRR⟩ | ⟨b',hO⟩
    · rw[upd_eq,if_pos rfl,hgm] at h0;cases h0
    · have:=hRR.m;rw[upd_eq,if_pos rfl,hgm] at this;cases this;exact hRR.K o (Nat.zero_le _)
    · have:=hO.m;rw[upd_eq,if_pos rfl,hgm] at this;simp at this,fun j a hj=>by simp at hj⟩
   have hw1:=write_ok hal.inv (i:=1000) (g:=γ) (c:=[]) (by rw[upd_eq,if_pos rfl]) hRa (c':=[]) (vals':=(setL row.toList k [xv]).toArray) hsz1 (fun o ho=>by omega) (by simp) fun j a hj=>by simp at hj
   rw[hW1,upd_upd] at hw1;have hsd2:StepOK G' (upd σ 1000 (γ,.row [])) W1 G' (upd σ 1000 (γ,.row [])) W1.drew:=StepOK.drew hw1.inv rfl rfl rfl rfl;have hR1:ResOK G' W1.drew 1000 γ [] w.heap.size 0 row.size (setL row.toList k [xv]).toArray E:=⟨hgm,hd1,by simp,by rw[hsz1];exact Nat.le_refl _,hRa.K,fun j a hj=>by simp at hj⟩;have hw2:=write_ok hsd2.inv (i:=1000) (g:=γ) (c:=[]) (by rw[upd_eq,if_pos rfl]) hR1 (c':=layL xs k x) (vals':=(setL (setL row.toList k [xv]) (k+1) s1).toArray) (by simp[length_setL]) (fun o ho=>by omega) (by rw[layL_len hk,hrsz];omega) fun j a hj=>by
    have hjl:=(List.getElem?_eq_some_iff.1 hj).1;rw[layL_len hk] at hjl;rw[layL_get hk] at hj;rw[Nat.zero_add,List.getElem?_toArray,setL_get _ _ _ _ (by rw[length_setL,hrl];omega),setL_get _ _ _ _ (by rw[hrl];simp;omega)];by_cases h1:j<k
    · rw[if_pos h1] at hj;rw[if_neg (by omega),if_neg (by omega)];obtain⟨v,h3,h4⟩:=hrel j a hj;refine⟨v,?_,h4.mono hal.le⟩;rw[Array.getElem?_toList,hrg j h1];simpa using h3
    · rw[if_neg h1] at hj;by_cases h2:j=k
      · rw[if_pos h2] at hj;rw[if_neg (by omega),if_pos (by simp;omega)];cases hj;exact⟨xv,by simp[h2],hxr.mono hal.le⟩
      · rw[if_neg h2] at hj;rw[if_pos (by omega),hs1g _ (by omega),show k+(j-(k+1))=j-1 by omega];obtain⟨v,h3,h4⟩:=hrel (j-1) a hj;exact⟨v,by simpa using h3,h4.mono hal.le⟩
   rw[upd_upd] at hw2;refine ROut.of_step hy hd (hsd.trans (hal.trans (hw1.trans (hsd2.trans hw2)))) (hσY _) (av:= .msl 1000 γ (xs.length+1) 1) ⟨w.heap.size,GC,rfl,hGC1,by rw[Nat.mul_one,←hrsz];exact hgm⟩ ⟨γ,rfl,?_,?_,trivial⟩
   · rw[upd_eq,if_pos rfl]
   · rw[upd_eq,if_neg (by decide),hσ1]
end
end Go.Abs
namespace Go.Abs
open Go.Proofs
def ir118:IFn:= ⟨49,[(6,none),(7,none)],(sO [oM 6 (kI 0),oM 7 (kB false)] (sO [oM 12 0,oN 13 12,oM 8 13] (sO [oM 14 8,oM 9 (kI 0),oM 10 14] (.seq (.blk 0 (.loop (.seq (sO [oM 15 9,oM 16 10,oB 17 .lss 15 16] (.cnd 17 .skip (.exit 0))) (.blk 1 (sO [oM 18 9,oM 19 10,oB 20 .add 18 19,oo 21 (.cvI .u64 20),oo 22 (.bin .shr 21 (.k (.int .u64 1))),oo 23 (.cvI .i64 22),oM 11 23] (sO [oM 24 2,oM 25 0,oM 26 11,oA 27 1 25 26,oL 28 27,oM 29 1,oo 30 (.callV 24 [28,29]),oB 31 .lss 30 (kI 0)] (.cnd 31 (.ops [oM 32 11,oB 33 .add 32 (kI 1),oM 9 33]) (.ops [oM 34 11,oM 10 34])))))))) (sO [oM 35 9,oM 36 9,oM 37 8,oB 38 .lss 36 37,oM 39 38,⟨(some 40),(some (39,true)),(.mov 2)⟩,⟨(some 41),(some (39,true)),(.mov 0)⟩,⟨(some 42),(some (39,true)),(.mov 9)⟩,⟨(some 43),(some (39,true)),(.ixA 1 41 42)⟩,⟨(some 44),(some (39,true)),(.ld 1 false 43)⟩,⟨(some 45),(some (39,true)),(.mov 1)⟩,⟨(some 46),(some (39,true)),(.callV 40 [44,45])⟩,⟨(some 47),(some (39,true)),(.bin .eql 46 (kI 0))⟩,oo 48 (.pick 39 47 (kB false)),oM 6 35,oM 7 48] .ret)))))⟩
abbrev liC(L:List (List Int)):List AV:=L.map fun l=> .slc 1 (iR l) .non
section
variable {P:Program} {K:(Nat→AV)→Sig→Prop} {e:Nat→AV} {σ:Sig} {x:IOpd} {r:List IStep} {d:Nat}
theorem mid_nat{i j:Nat}(hi:i≤1000000)(hj:j≤1000000):(IntKind.u64.wrap ((i:Int)+(j:Int))).fdiv (2^min (Int.toNat 1) IntKind.u64.bits)=(((i+j)/2:Nat):Int):=by
 rw[wrap_u64_id _ (by omega) (by omega)];show ((i:Int)+(j:Int)).fdiv (2^1)=_
 rw[←Int.natCast_add,Int.fdiv_eq_ediv_of_nonneg _ (by decide)];omega
theorem w_shrH{a:Int}{m:Nat}(hx:x.ev e= .int .u64 a)(hm:a.fdiv (2^min (Int.toNat 1) IntKind.u64.bits)=(m:Int))(hk:stepsW P r K (upd e d (.int .u64 (m:Int))) σ):stepsW P (⟨some d,none,.bin .shr x (.k (.int .u64 1))⟩::r) K e σ:=by
 refine w_val (p:=(0:Int)≤1) (v:= .int .u64 (m:Int)) ?_ (by decide) hk;show binO .shr (x.ev e) (.int .u64 1)=_
 rw[hx,←hm];rfl
theorem w_ldLi{i g off q:Nat}{L:List (List Int)}{l:List Int}(hx:x.ev e= .ref i g off)(ho:off=q)(hσ:σ i=(g,.row (liC L)))(hq:q<L.length)(hl:L.getD q []=l)(hk:stepsW P r K (upd e d (.slc 1 (iR l) .non)) σ):stepsW P (⟨some d,none,.ld 1 false x⟩::r) K e σ:=
 w_ldAt hx hσ (by rw[ho,List.getElem?_map,List.getElem?_eq_getElem hq,←hl,List.getD_eq_getElem?_getD,List.getElem?_eq_getElem hq];rfl) rfl hk
end
theorem bsf_nil(x:List Int):FV 118 [.nsl,.slc 1 (iR x) .non,.clo (.func 119) [] []] (.tup [.int .i64 0,.bool false]):=by
 refine wk ir118 Tryz.func118 ?_;unfold ir118
 repeat' (first|refine aR ?_|refine aX ?_|with_reducible intro _|refine aP ?_ ?_)
 refine w_loopK [0,1,2,8] [] (fun _:Unit=>True) (fun _=>0) (fun _=>[(9,.int .i64 0),(10,.int .i64 0)]) (fun _=>[]) () trivial ⟨rfl,rfl,trivial⟩ trivial ?_;rintro⟨⟩ _ e σ
 repeat' (first|refine aR ?_|refine aX ?_|with_reducible intro _|refine aP ?_ ?_)
 all_goals exact aZ
theorem bsf_c(L:List (List Int))(x:List Int)(p:Nat)(g:Nat)(hL:L.length≤1000000)(hp:p≤L.length)(hx:x.length<1000000)(hl:∀l∈L,l.length<1000000)(h:∀q:Nat,q<L.length→(lsI (L.getD q []) x<0↔q<p)):
  RawC Tryz.prog 118 [.msl 1000 g L.length 1,.slc 1 (iR x) .non,.clo (.func 119) [] []] (sg [(1000,(g,.row (liC L)))])
   (SR (fun (_:Unit) v=>v= .tup [.int .i64 p,.bool (decide (p<L.length∧L.getD p []=x))]) (fun _=>[(1000,(g,.row (liC L)))])):=by
 have hll:(liC L).length=L.length:=List.length_map _;refine wk ir118 Tryz.func118 ?_;unfold ir118
 repeat' (first|refine aR ?_|refine aX ?_|with_reducible intro _|refine aP ?_ ?_)
 refine w_loopK [0,1,2,8] [1000] (fun x:Nat×Nat=>x.1≤p∧p≤x.2∧x.2≤L.length) (fun x=>x.2-x.1) (fun x=>[(9,.int .i64 (x.1:Int)),(10,.int .i64 (x.2:Int))]) (fun _=>[]) (0,L.length) ⟨Nat.zero_le _,hp,Nat.le_refl _⟩ ⟨rfl,rfl,trivial⟩ trivial ?_;rintro⟨i,j⟩ ⟨h1,h2,h3⟩ e σ;dsimp only at h1 h2 h3 ⊢;have hord:=fun q (hq:q<L.length)=>ordered_c (L.getD q []) x (hl _ (by rw[List.getD_eq_getElem?_getD,List.getElem?_eq_getElem hq];exact List.getElem_mem _)) hx;by_cases hij:i=j
 · have:i=p:=by omega
   subst this;by_cases hin:i<L.length
   · have ho:=hord i hin
     repeat' (first|refine aR ?_|(first|refine w_ldLi rfl (by omega) rfl hin rfl ?_)|((with_reducible refine aC ?_);first|refine aV ho ?_)|refine aX ?_|with_reducible intro _|refine aP ?_ ?_)
     all_goals first
      | (exfalso;omega)
      | (refine⟨(),congrArg (fun z=>AV.tup [AV.int .i64 (i:Int),AV.bool z]) ?_,aS⟩
         rw[Bool.eq_iff_iff];simp[hin,lsI_eq])
   · repeat' (first
      | with_reducible (first|refine Rd.p ?_|refine w_alt ?_ ?_|refine zE ?_|refine zE0 ?_)
      | with_reducible (first|refine zI fun y hy=>?_|refine zL ?_|refine zS ?_|refine zA fun _=>?_|refine zV ?_|refine zC ?_|refine zG ?_|refine zU ?_|refine zG0 ?_|refine zU0 ?_|refine zF ?_)
      | with_reducible (first|refine zX ?_|refine zD fun _=>?_|refine zD0 ?_|refine zN ?_|refine zF0 ?_|refine zX0 ?_|refine z1 ?_|refine z2 ?_|refine z3 ?_|refine z4 ?_|refine z5 ?_|refine z6 ?_|refine z7 ?_|refine z8 ?_|refine y1 ?_|refine y2 ?_|refine y3 ?_|refine y4 ?_|refine y5 ?_|refine y6 ?_|refine y7 ?_|refine y8 ?_|refine Rt.p (fun _=>?_) fun _=>?_)
      | ((with_reducible apply w_ixM);(focus exact rfl);(focus exact rfl);case' hk=>intro y hy)|((with_reducible (first | apply w_val | apply q_ends));(focus exact rfl)))
     all_goals first
      | (exfalso;omega)
      | (refine⟨(),congrArg (fun z=>AV.tup [AV.int .i64 (i:Int),AV.bool z]) ?_,aS⟩
         rw[Bool.eq_iff_iff];simp[hin])
 · have hmid:=mid_nat (i:=i) (j:=j) (by omega) (by omega);obtain⟨q,hq⟩:∃q,(i+j)/2=q:=⟨_,rfl⟩;rw[hq] at hmid;have hq1:i≤q∧q<j:=by omega
   have hqL:q<L.length:=by omega
   have ho:=hord q hqL;have hqp:=h q hqL
   repeat' (first|refine aR ?_|(first|refine w_shrH rfl hmid ?_|refine w_ldLi rfl (by omega) rfl hqL rfl ?_)|((with_reducible refine aC ?_);first|refine aV ho ?_)|refine aX ?_|with_reducible intro _|refine aP ?_ ?_)
   all_goals first|(exfalso;omega)|exact q_loop (q+1,j) ⟨by dsimp only;omega,by dsimp only;omega,by dsimp only;omega⟩ (by show j-(q+1)<j-i;omega) ⟨rfl,rfl,trivial⟩ aS aK aK|exact q_loop (i,q) ⟨by dsimp only;omega,by dsimp only;omega,by dsimp only;omega⟩ (by show q-i<j-i;omega) ⟨rfl,rfl,trivial⟩ aS aK aK
def ir50:IFn:= ⟨77,[(4,none),(5,none),(6,none)],(sO [oo 2 (.box 2 0),oo 3 (.box 2 1),oM 4 (.k .nsl),oM 5 (.k .nsl),oM 6 (kI 0)] (.seq (sO [oo 16 (.ld 2 true 2),oC 17 112 [16],oM 7 17] (sO [oM 18 7,oB 19 .neq 18 (kI 0)] (.cnd 19 (sO [oM 20 7,oM 4 (.k .nsl),oM 5 (.k .nsl),oM 6 20] .ret) .skip))) (.seq (sO [oo 21 (.ld 2 true 2),oo 22 (.ld 2 true 3),oC 23 116 [21,22],oM 8 23] (sO [oM 24 8,oB 25 .neq 24 (kI 0)] (.cnd 25 (sO [oM 26 8,oM 4 (.k .nsl),oM 5 (.k .nsl),oM 6 26] .ret) .skip))) (sO [oo 28 (.ld 2 true 2),oC 29 46 [28],oM 27 29,oE 30 0 27,oE 31 1 27,oE 32 2 27,oM 9 30,oM 10 31,oM 6 32] (.seq (sO [oM 33 6,oB 34 .neq 33 (kI 0)] (.cnd 34 (sO [oM 35 6,oM 4 (.k .nsl),oM 5 (.k .nsl),oM 6 35] .ret) .skip)) (.seq (sO [oM 36 9,oN 37 36,oM 38 (kI 0)] (.blk 0 (.loop (sO [oB 39 .lss 38 37] (.seq (.cnd 39 .skip (.exit 0)) (.seq (.blk 1 (sO [oM 40 38,oA 41 1 36 38,oL 42 41,oM 11 40,oM 12 42] (sO [oo 43 (.ld 2 true 2),oo 44 (.ld 2 true 3),oM 45 12,oC 46 117 [43,44,45],oM 13 46] (sO [oM 48 4,oM 49 13,oo 50 (.callF 118 [48,49,(.k (.clo (.func 119) [] []))]),oM 47 50,oE 51 0 47,oE 52 1 47,oM 14 51,oM 15 52] (.seq (sO [oM 53 15,oo 54 (.not 53)] (.cnd 54 (.ops [oM 55 4,oM 56 14,oM 57 13,oo 58 (.bsm 1 [[.nsl]] [(0,57)]),oC 59 120 [55,56,58],oM 60 5,oM 61 14,oo 62 (.bsm 1 [[z0]] [(0,(kI 0))]),oC 63 121 [60,61,62],oM 4 59,oM 5 63]) .skip)) (.ops [oM 64 5,oM 65 14,oA 66 1 64 65,oL 67 66,oM 68 10,oM 69 11,oA 70 1 68 69,oL 71 70,oB 72 .add 67 71,oA 73 1 64 65,oS 1 73 72])))))) (.ops [oB 74 .add 38 (kI 1),oM 38 74]))))))) (.seq (.seq (.frz 4) (.seq (.frz 5) (.ops [oM 75 4,oM 76 5,oM 4 75,oM 5 76,oM 6 (kI 0)]))) .ret)))))))⟩
def hint50(P:Program):Hint:={site:=[],nils:=[],frz:=[(75,4),(75,5)],mve:=[],wr:=[58,62] }
abbrev anF(L:List (List Int×Int)):List (List Int):=L.map fun z=>z.1
abbrev anS(L:List (List Int×Int)):List Int:=L.map fun z=>z.2
theorem all_liC(A:List (List Int)):(liC A).all AV.scal=true:=by rw[List.all_eq_true];intro x hx;obtain⟨y,_,rfl⟩:=List.mem_map.1 hx;rfl
theorem insA_c(A:List (List Int))(x:List Int)(g h p n:Nat)(hn:A.length=n)(hp:p≤n)(hb:n≤1000000):RawC Tryz.prog 120 [.msl 1000 g n 1,.int .i64 p,.msl 1001 h 1 1] (sg [(1000,(g,.row (liC A))),(1001,(h,.row [.slc 1 (iR x) .non]))])
  (SR (fun (g':Nat) v=>v= .msl 1000 g' (n+1) 1) (fun g'=>[(1000,(g',.row (liC (A.take p++x::A.drop p)))),(1001,(h,.row [.slc 1 (iR x) .non]))])):=by
 subst hn;have e1:(liC A).length=A.length:=List.length_map _;have:=insM insL_f (x:= .slc 1 (iR x) .non) rfl (all_liC A) g h p (by omega) (by omega);have e2:layL (liC A) p (.slc 1 (iR x) .non)=liC (A.take p++x::A.drop p):=by
  show List.take p (List.map _ _)++_::List.drop p (List.map _ _)=List.map _ (_++_::_)
  rw[List.map_append,List.map_take,List.map_cons,List.map_drop]
 rw[e1,e2] at this;exact this
theorem insV_c(V:List Int)(x:Int)(g h p n:Nat)(hn:V.length=n)(hp:p≤n)(hb:n≤1000000):RawC Tryz.prog 121 [.msl 1000 g n 1,.int .i64 p,.msl 1001 h 1 1] (sg [(1000,(g,.row (V.map (AV.int .i64)))),(1001,(h,.row [.int .i64 x]))])
  (SR (fun (g':Nat) v=>v= .msl 1000 g' (n+1) 1) (fun g'=>[(1000,(g',.row ((V.take p++x::V.drop p).map (AV.int .i64)))),(1001,(h,.row [.int .i64 x]))])):=by
 subst hn;have e1:(V.map (AV.int .i64)).length=V.length:=List.length_map _;have:=insM insI_f (x:= .int .i64 x) rfl (nI_scal V) g h p (by show p≤(V.map (AV.int .i64)).length;omega) (by show (V.map (AV.int .i64)).length≤_;omega);have e2:layL (V.map (AV.int .i64)) p (.int .i64 x)=(V.take p++x::V.drop p).map (AV.int .i64):=by
  show List.take p (List.map _ _)++_::List.drop p (List.map _ _)=List.map _ (_++_::_)
  rw[List.map_append,List.map_take,List.map_cons,List.map_drop]
 rw[show (nI V).length=V.length from e1,show layL (nI V) p (.int .i64 x)=_ from e2] at this;exact this
theorem chunkLi:∀(A:List (List Int)),chunk 1 A.length (normL (liC A))=llR A
 | []=>rfl
 | x::A=>by have:=chunkLi A;simp only[List.length_cons,List.map_cons,normL,chunk,List.map_cons];simp only[normL] at this;rw[show List.drop 1 (AV.norm (AV.slc 1 (iR x) .non)::List.map AV.norm (liC A))=List.map AV.norm (liC A) from rfl,this];rfl
theorem w_frzLi{P:Program}{Q:Post}{e:Nat→AV}{σ:Sig}{t i g n:Nat}{A:List (List Int)}(F:List (Nat×AV))(S:List (Nat×(Nat×Res)))(hx:e t= .msl i g n 1)(hσ:σ i=(g,.row (liC A)))(hn:A.length=n)(hF:slots F (frzE i g (liC A) e))(hS:slots S (frzS i g (liC A) σ))(hk:∀e' σ',Q .nor (updL F e') (updL S σ')):awp P (.frz (.t t)) Q e σ:=by
 show frzW (e t) e σ (Q .nor)
 rw[hx];show (match σ i with|(g',.row c)=>g=g'∧c.all AV.scal=true∧Q .nor (frzE i g c e) (frzS i g c σ) | _=>False)
 rw[hσ];refine⟨rfl,all_liC A,?_⟩;have:=hk (frzE i g (liC A) e) (frzS i g (liC A) σ);rw[updL_slots hF,updL_slots hS] at this;exact this
theorem frzL_nI(i g:Nat)(c:List AV):∀V:List Int,frzL i g c (V.map (AV.int .i64))=V.map (AV.int .i64)
 | []=>rfl
 | v::V=>by
   show frzA i g c (AV.int .i64 v)::frzL i g c (V.map (AV.int .i64))=_
   rw[frzL_nI i g c V];rfl
theorem renL_liC(ρ:List (Nat×Nat)):∀A:List (List Int),renL ρ (liC A)=liC A
 | []=>rfl
 | x::A=>by
   show ren ρ (AV.slc 1 (iR x) .non)::renL ρ (liC A)=_
   rw[renL_liC ρ A];rfl
theorem upd_id{σ:Sig}{t:Nat}{x:Nat×Res}(h:σ t=x):upd σ t x=σ:=by
 funext j;rw[upd_eq];split
 · rename_i hj;subst hj;exact h.symm
 · rfl
theorem ACall.look{P:Program}{f:Nat}{args0 args:List AV}{c:List AV}{g s d:Nat}{V V':AV}{σ:Sig}{Q:AV→Sig→Prop}(h:RawC P f args0 (sg [(1000,(g,.row c))]) (SR (fun (_:Unit) v=>v=V) (fun _=>[(1000,(g,.row c))])))(hr:renOK [(1000,s)]=true)(ha:args0=renL (flipL [(1000,s)]) args)(hs:σ s=(g,.row c))(hc:∀ρ,renL ρ c=c)(hV:ren [(1000,s)] V=V')(hQ:Q V' σ):ACall P f args σ d Q:=by
 refine ACall.liftS h [(1000,s)] none hr ha ?_ ⟨⟨c,by rw[hs]⟩,trivial⟩ (fun _=>rfl) ?_
 · show _=[(1000,((σ s).1,renR (flipL [(1000,s)]) (σ s).2))]
   rw[hs];simp only[renR,hc]
 · intro _ av hav;rw[hav];show Q (ren [(1000,s)] V) (upd σ s (g,.row (renL [(1000,s)] c)))
   rw[hc,upd_id hs,hV];exact hQ
theorem ACall.two{P:Program}{f:Nat}{args0 args:List AV}{c c' c2:List AV}{g h0 s t d n':Nat}{σ:Sig}{Q:AV→Sig→Prop}(h:RawC P f args0 (sg [(1000,(g,.row c)),(1001,(h0,.row c2))]) (SR (fun (g':Nat) v=>v= .msl 1000 g' n' 1) (fun g'=>[(1000,(g',.row c')),(1001,(h0,.row c2))])))(hr:renOK [(1000,s),(1001,t)]=true)(ha:args0=renL (flipL [(1000,s),(1001,t)]) args)(hs:σ s=(g,.row c))(ht:σ t=(h0,.row c2))(hc:∀ρ,renL ρ c=c)(hc2:∀ρ,renL ρ c2=c2)(hc':∀ρ,renL ρ c'=c')(hQ:∀g',Q (.msl s g' n' 1) (upd σ s (g',.row c'))):ACall P f args σ d Q:=by
 refine ACall.liftS h [(1000,s),(1001,t)] none hr ha ?_ ⟨⟨c,by rw[hs]⟩,⟨c2,by rw[ht]⟩,trivial⟩ (fun _=>rfl) ?_
 · show _=[(1000,((σ s).1,renR (flipL [(1000,s),(1001,t)]) (σ s).2)),(1001,((σ t).1,renR (flipL [(1000,s),(1001,t)]) (σ t).2))]
   rw[hs,ht];simp only[renR,hc,hc2]
 · rintro g' _ rfl;show Q (.msl s g' n' 1) (upd (upd σ t (h0,.row (renL [(1000,s),(1001,t)] c2))) s (g',.row (renL [(1000,s),(1001,t)] c')))
   rw[hc2,hc',upd_id ht];exact hQ g'
def ansV(s:Nat)(L:List (List Int×Int))(g:Nat):AV:=match L with
 | []=> .nsl
 | _::_=> .msl s g L.length 1
def ansX(L:List (List Int×Int))(g:Nat):Nat×Res:=match L with
 | []=>(0,.dead)
 | _::_=>(g,.row (liC (L.map (·.1))))
def ansY(L:List (List Int×Int))(g:Nat):Nat×Res:=match L with
 | []=>(0,.dead)
 | _::_=>(g,.row ((L.map (·.2)).map (AV.int .i64)))
theorem ansV_of{s g:Nat}:∀{L:List (List Int×Int)},L≠[]→ansV s L g= .msl s g L.length 1
 | [],h=>absurd rfl h
 | _::_,_=>rfl
theorem ansX_of{g:Nat}:∀{L:List (List Int×Int)},L≠[]→ansX L g=(g,.row (liC (L.map (·.1))))
 | [],h=>absurd rfl h
 | _::_,_=>rfl
theorem ansY_of{g:Nat}:∀{L:List (List Int×Int)},L≠[]→ansY L g=(g,.row ((L.map (·.2)).map (AV.int .i64)))
 | [],h=>absurd rfl h
 | _::_,_=>rfl
theorem w_ldV{P:Program}{K:(Nat→AV)→Sig→Prop}{e:Nat→AV}{σ:Sig}{x:IOpd}{r:List IStep}{d i g off p:Nat}{B:List Int}{v:Int}(hx:x.ev e= .ref i g off)(ho:off=p)(hσ:σ i=(g,.row (nI B)))(hp:p<B.length)(hv:B.getD p 0=v)(hk:stepsW P r K (upd e d (.int .i64 v)) σ):stepsW P (⟨some d,none,.ld 1 false x⟩::r) K e σ:=by subst hv;exact w_ldEl hx ho hσ hp hk
theorem set_same{α:Type}{l:List α}{p:Nat}{d:α}(h:p<l.length):l.set p (l.getD p d)=l:=by
 apply List.ext_getElem?;intro j;rw[List.getElem?_set];by_cases e:p=j
 · subst e;rw[if_pos rfl,if_pos h,List.getD_eq_getElem?_getD,List.getElem?_eq_getElem h];rfl
 · rw[if_neg e]
theorem anA_old{x:List Int}{n:Int}{L:List (List Int×Int)}(h:posI x L<L.length∧(L.map (·.1)).getD (posI x L) []=x):(ansI x n L).map (·.1)=L.map (·.1)∧(ansI x n L).map (·.2)=(L.map (·.2)).set (posI x L) ((L.map (·.2)).getD (posI x L) 0+n)∧(ansI x n L).length=L.length:=by
 rw[ansI_old h];refine⟨?_,?_,List.length_set⟩
 · rw[List.map_set];show (L.map (·.1)).set (posI x L) x=_
   have:=set_same (l:=L.map (·.1)) (p:=posI x L) (d:=[]) (by rw[List.length_map];exact h.1);rw[h.2] at this;exact this
 · rw[List.map_set]
theorem anA_new{x:List Int}{n:Int}{L:List (List Int×Int)}(h:¬(posI x L<L.length∧(L.map (·.1)).getD (posI x L) []=x)):(ansI x n L).map (·.1)=(L.map (·.1)).take (posI x L)++x::(L.map (·.1)).drop (posI x L)∧(ansI x n L).map (·.2)=((L.map (·.2)).take (posI x L)++0::(L.map (·.2)).drop (posI x L)).set (posI x L) (0+n)∧(ansI x n L).length=L.length+1:=by
 have hp:=posI_le x L;rw[ansI_new h];refine⟨by rw[List.map_append,List.map_take,List.map_cons,List.map_drop],?_,?_⟩
 · rw[List.map_append,List.map_take,List.map_cons,List.map_drop];have hl:((L.map (·.2)).take (posI x L)).length=posI x L:=by rw[List.length_take,List.length_map];omega
   rw[List.set_append_right _ _ (by rw[hl];exact Nat.le_refl _),hl,Nat.sub_self,List.set_cons_zero,Int.zero_add]
 · rw[List.length_append,List.length_cons,List.length_take,List.length_drop];omega
theorem getD_new{V:List Int}{p:Nat}(h:p≤V.length):(V.take p++0::V.drop p).getD p 0=0:=by
 have hl:(V.take p).length=p:=by rw[List.length_take];omega
 rw[List.getD_eq_getElem?_getD,List.getElem?_append_right (by omega),hl,Nat.sub_self];rfl
def anA(r:List (List Int×Int)×Int):AV:=if r.2=0 then .tup [.slc 1 (llR (r.1.map (·.1))) .non,.slc 1 (iR (r.1.map (·.2))) .non,.int .i64 r.2] else .tup [.nsl,.nsl,.int .i64 r.2]
theorem Answers_c(G:Gm)(a:Aq)(hw:G.ws.length<1000)(hd:G.ds.length<1000)(hs:∀w∈G.ws,w.name.size≤1000):FV 50 [gmA G,aqA a] (anA (ansO G a)):=by
 have hck:=gCheck_c G hw hd hs;have hca:=checkAsk_c G a hw;have hcr:=courses_f G (invW G.ws.length) hw hd hs gmOK;obtain⟨R,hR⟩:∃R,ansO G a=R:=⟨_,rfl⟩;rw[hR];unfold ansO at hR;by_cases h0:gmErr G=0
 rotate_left
 · rw[if_neg h0] at hR;subst hR;unfold anA;rw[if_neg h0];refine RawC.walk (H:=hint50 Tryz.prog) ir50 Tryz.func50 rfl rfl rfl ?_;unfold ir50
   repeat' (first|refine aR ?_|with_reducible refine zI fun y hy=>?_|((with_reducible refine aC ?_);first|refine aV hck ?_)|refine aX ?_|with_reducible intro _|with_reducible refine zJ ?_ fun y hy=>?_|refine aP ?_ ?_)
   all_goals exact aZ
 rw[if_pos h0] at hR;rw[h0] at hck;by_cases h1:askErr G.ws.length a=0
 rotate_left
 · rw[if_neg h1] at hR;subst hR;unfold anA;rw[if_neg h1];refine RawC.walk (H:=hint50 Tryz.prog) ir50 Tryz.func50 rfl rfl rfl ?_;unfold ir50
   repeat' (first|refine aR ?_|with_reducible refine zI fun y hy=>?_|((with_reducible refine aC ?_);first|refine aV hck ?_|refine aV hca ?_)|refine aX ?_|with_reducible intro _|with_reducible refine zJ ?_ fun y hy=>?_|refine aP ?_ ?_)
   all_goals exact aZ
 rw[if_pos h1] at hR;rw[h1] at hca;by_cases h2:(crsO G).2=0
 rotate_left
 · rw[if_neg h2] at hR;subst hR;have e1:(crsO G).1=[]:=by
    unfold crsO at h2 ⊢;rw[if_pos h0] at h2 ⊢;split
    · rename_i h;rw[if_pos h] at h2;exact absurd rfl h2
    · rfl
   rw[e1] at hcr;unfold anA;rw[if_neg h2];refine RawC.walk (H:=hint50 Tryz.prog) ir50 Tryz.func50 rfl rfl rfl ?_;unfold ir50
   repeat' (first|refine aR ?_|with_reducible refine zI fun y hy=>?_|((with_reducible refine aC ?_);first|refine aV hck ?_|refine aV hca ?_|refine aV hcr ?_)|refine aX ?_|with_reducible intro _|with_reducible refine zJ ?_ fun y hy=>?_|refine aP ?_ ?_)
   all_goals exact aZ
 rw[if_pos h2] at hR;rw[h2] at hcr;have hG:=gm_ok h0;have hn6:=hG.n6;have hcen:=hG.cen;obtain⟨C,hC⟩:∃C,crsG G=C:=⟨_,rfl⟩;have hCO:(crsO G).1=C:=by
  unfold crsO at h2 ⊢;rw[if_pos h0] at h2 ⊢;split
  · exact hC
  · rename_i h;rw[if_neg h] at h2;exact absurd h2 (by decide)
 have hC5:C.length≤5000:=by
  unfold crsO at h2;rw[if_pos h0] at h2;split at h2
  · rename_i h;rw[←hC];exact h
  · exact absurd h2 (by decide)
 have hCn:C≠[]:=by rw[←hC];exact crsG_ne hG
 have hmem:∀c∈C,(1≤c.1.length∧c.1.length≤9)∧(∀w∈c.1,0≤w∧w<(G.ws.length:Int))∧0<c.2:=fun c hc=>by rw[←hC] at hc;obtain⟨⟨q1,q2⟩,q3,q4⟩:=(crsG_mem hG).1 hc;exact⟨by omega,q2,by omega⟩
 rw[hCO] at hcr hR;have hcr2:crsA C 0= .tup [.slc 1 (llR (C.map (·.1))) .non,.slc 1 (iR (C.map (·.2))) .non,.int .i64 0]:=by
  cases C with
  | nil=>exact absurd rfl hCn
  | cons x r=>rfl
 rw[hcr2] at hcr;have hl0:(C.map (·.1)).length=C.length:=List.length_map _;have hsb:sumA C≤479001600:=by rw[←hC,crsG_sum hG];exact (allW_bd hG).2
 refine RawC.walk (H:=hint50 Tryz.prog) ir50 Tryz.func50 rfl rfl rfl ?_;unfold ir50
 repeat' (first|refine aR ?_|with_reducible refine zI fun y hy=>?_|((with_reducible refine aC ?_);first|refine aV hck ?_|refine aV hca ?_|refine aV hcr ?_)|refine aX ?_|with_reducible intro _|with_reducible refine zJ ?_ fun y hy=>?_|refine aP ?_ ?_)
 all_goals try (exfalso;omega)
 refine w_loopK [2,3,10,36,37] [2,3] (fun x:List (List Int×Int)×List (List Int×Int)×List (List Int×Int)×Nat×Nat=>C=x.1++x.2.1∧x.2.1.foldl (fun A c=>ansI (dueF G a c.1) c.2 A) x.2.2.1=ansL (dueF G a) C∧srtA x.2.2.1∧(∀y∈x.2.2.1,0<y.2)∧(x.2.2.1.length≤x.1.length∧(x.1≠[]→x.2.2.1≠[]))∧(∀y∈x.2.2.1,y.1.length≤20)∧sumA x.2.2.1+sumA x.2.1=sumA C) (fun x=>x.2.1.length)
  (fun x=>[(38,.int .i64 (x.1.length:Int)),(4,ansV 59 x.2.2.1 x.2.2.2.1),(5,ansV 63 x.2.2.1 x.2.2.2.2)]) (fun x=>[(59,ansX x.2.2.1 x.2.2.2.1),(63,ansY x.2.2.1 x.2.2.2.2)]) ([],C,[],0,0) ⟨rfl,rfl,List.Pairwise.nil,(fun y hy=>by cases hy),⟨Nat.le_refl _,fun h=>absurd rfl h⟩,(fun y hy=>by cases hy),Int.zero_add _⟩ ⟨rfl,rfl,rfl,trivial⟩ ⟨rfl,rfl,trivial⟩ ?_
 rintro⟨pre,post,L,ga,gb⟩ ⟨hl,hf,hsr,hps,⟨hll,hln⟩,hl20,hsm⟩ e σ;dsimp only at hl hf hsr hps hll hln hl20 hsm ⊢;have hlen:=congrArg List.length hl;rw[List.length_append] at hlen;cases post with
 | nil=>
   simp only[List.length_nil] at hlen;rw[List.foldl_nil] at hf;rw[←hf] at hR;subst hR;cases L with
   | nil=>exact absurd rfl (hln fun h=>by rw[h] at hl;exact hCn (by rw[hl];rfl))
   | cons y0 r0=>
     have hA:frzA 59 ga (liC ((y0::r0).map (·.1))) (.msl 59 ga (y0::r0).length 1)= .slc 1 (llR ((y0::r0).map (·.1))) .non:=by have:=chunkLi ((y0::r0).map (·.1));rw[List.length_map] at this;simp only[frzA];rw[if_pos ⟨trivial,trivial,by rw[List.length_map,List.length_map,Nat.mul_one]⟩,this]
     have hV:frzA 63 gb (((y0::r0).map (·.2)).map (AV.int .i64)) (.msl 63 gb (y0::r0).length 1)= .slc 1 (iR ((y0::r0).map (·.2))) .non:=by have:=chunk1 ((y0::r0).map (·.2));rw[List.length_map] at this;simp only[frzA];rw[if_pos ⟨trivial,trivial,by rw[List.length_map,List.length_map,Nat.mul_one]⟩,this]
     repeat' (first|refine aR ?_|with_reducible refine zI fun y hy=>?_|refine aX ?_|with_reducible intro _|with_reducible refine zJ ?_ fun y hy=>?_|refine aP ?_ ?_)
     all_goals try (exfalso;omega)
     refine w_frzLi (A:=anF (y0::r0)) [(4,.slc 1 (llR (anF (y0::r0))) .non),(5,.msl 63 gb (y0::r0).length 1)] [(63,(gb,.row ((anS (y0::r0)).map (AV.int .i64))))] rfl rfl (List.length_map _) ⟨hA,rfl,trivial⟩ ⟨congrArg (fun z=>(gb,Res.row z)) (frzL_nI _ _ _ _),trivial⟩ ?_;intro e2 σ2
     repeat' (first|refine aR ?_|with_reducible refine zI fun y hy=>?_|refine aX ?_|with_reducible intro _|with_reducible refine zJ ?_ fun y hy=>?_|refine aP ?_ ?_)
     refine w_frzIG (xs:=anS (y0::r0)) [(4,.slc 1 (llR (anF (y0::r0))) .non),(5,.slc 1 (iR (anS (y0::r0))) .non)] [] rfl rfl (List.length_map _) ⟨rfl,hV,trivial⟩ trivial ?_;intro e3 σ3
     repeat' (first|refine aR ?_|with_reducible refine zI fun y hy=>?_|refine aX ?_|with_reducible intro _|with_reducible refine zJ ?_ fun y hy=>?_|refine aP ?_ ?_)
     all_goals first|rfl
 | cons c post=>
   simp only[List.length_cons] at hlen;obtain⟨⟨m1,m9⟩,m2,m3⟩:=hmem c (by rw[hl];simp);have hdu:=due_c G a c.1 hn6 hG.d24 m1 m9 m2;have hdl:=dueF_len G a c.1;obtain⟨x,hx⟩:∃x,dueF G a c.1=x:=⟨_,rfl⟩;rw[hx] at hdu hdl;have h1':C.map (·.1)=pre.map (·.1)++c.1::post.map (·.1):=by rw[hl,List.map_append,List.map_cons]
   have h2':C.map (·.2)=pre.map (·.2)++c.2::post.map (·.2):=by rw[hl,List.map_append,List.map_cons]
   have hi1:AV.int .i64 (pre.length:Int)= .int .i64 ((pre.map (·.1)).length:Int):=by rw[List.length_map]
   have hi2:AV.int .i64 (pre.length:Int)= .int .i64 ((pre.map (·.2)).length:Int):=by rw[List.length_map]
   rw[List.foldl_cons,hx] at hf;rw[sumA] at hsm;have hpn:=sumA_nn (L:=post) fun z hz=>(hmem z (by rw[hl];simp[hz])).2.2;have hsn:=ansI_sum x c.2 L;have hLn:=sumA_nn hps;have hcb:c.2≤479001600:=by omega
   have hls:=ansI_len x c.2 L;have hgo:C=(pre++[c])++post∧List.foldl (fun A c=>ansI (dueF G a c.1) c.2 A) (ansI x c.2 L) post=ansL (dueF G a) C∧srtA (ansI x c.2 L)∧(∀y∈ansI x c.2 L,0<y.2)∧((ansI x c.2 L).length≤(pre++[c]).length∧(pre++[c]≠[]→ansI x c.2 L≠[]))∧(∀y∈ansI x c.2 L,y.1.length≤20)∧sumA (ansI x c.2 L)+sumA post=sumA C:=by
    refine⟨by rw[hl];simp,hf,ansI_srt hsr,ansI_pos m3 hps,⟨by rw[len_snoc];omega,fun _ h=>by rw[h] at hls;simp at hls⟩,fun z hz=>?_,by omega⟩;rcases ansI_mem hz with e1 | hz
    · rw[e1];omega
    · exact hl20 z hz
   have hne:ansI x c.2 L≠[]:=fun h=>by rw[h] at hls;simp at hls
   cases L with
   | nil=>
     repeat' (first|refine aR ?_|(first|refine w_ixP h1' rfl hi1 ?_|refine w_ixP h2' rfl hi2 ?_|refine w_ldV (B:=[0]) (p:=0) (v:=0) rfl rfl rfl (by decide) rfl ?_|refine w_stEl (B:=[0]) (p:=0) rfl rfl rfl (by decide) rfl ?_)|with_reducible refine zI fun y hy=>?_|((with_reducible refine aC ?_);first|refine aV hdu ?_|refine aV (bsf_nil x) ?_|(refine ACall.liftS (insNil insL_f (x:= .slc 1 (iR x) .non) rfl _) [(1001,58)] (some 1000) rfl rfl rfl ⟨⟨_,rfl⟩,trivial⟩ (fun _=>rfl) ?_;rintro g59 _ rfl)|(refine ACall.liftS (insNil insI_f (x:= .int .i64 0) rfl _) [(1001,62)] (some 1000) rfl rfl rfl ⟨⟨_,rfl⟩,trivial⟩ (fun _=>rfl) ?_;rintro g63 _ rfl))|refine aX ?_|with_reducible intro _|with_reducible refine zJ ?_ fun y hy=>?_|refine aP ?_ ?_)
     all_goals first|(exfalso;omega)|exact q_loop (pre++[c],post,ansI x c.2 [],g59,g63) hgo (by show post.length<post.length+1;omega) ⟨by rw[len_snoc];rfl,rfl,rfl,trivial⟩ ⟨rfl,(by show (g63,Res.row [AV.int .i64 (0+c.2)])=(g63,Res.row [AV.int .i64 c.2]);rw[Int.zero_add]),trivial⟩ aK aK
   | cons y0 r0=>
     obtain⟨p,hp⟩:∃p,posI x (y0::r0)=p:=⟨_,rfl⟩;have hpl:=posI_le x (y0::r0);have hpi:=posI_iff (x:=x) hsr;have hold:=@anA_old x c.2 (y0::r0);have hnew:=@anA_new x c.2 (y0::r0);rw[hp] at hpl hpi hold hnew;have hAl:(anF (y0::r0)).length=(y0::r0).length:=List.length_map _;have hVl:(anS (y0::r0)).length=(y0::r0).length:=List.length_map _;have hbs:=fun g=>bsf_c (anF (y0::r0)) x p g (by rw[hAl];omega) (by rw[hAl];exact hpl) (by omega) (fun l hl=>by
      obtain⟨z,hz,rfl⟩:=List.mem_map.1 hl;have:=hl20 z hz;omega) (fun q hq=>hpi q (by rwa [hAl] at hq))
     rw[hAl] at hbs;have hsp:=sumA_mem hps p;by_cases his:p<(y0::r0).length∧(anF (y0::r0)).getD p []=x
     · obtain⟨o1,o2,o3⟩:=hold his;rw[decide_eq_true his] at hbs;have hpv:p<(anS (y0::r0)).length:=by rw[hVl];exact his.1
       repeat' (first|refine aR ?_|(first|refine w_ixP h1' rfl hi1 ?_|refine w_ixP h2' rfl hi2 ?_|refine w_ldEl (p:=p) rfl (by omega) rfl hpv ?_|refine w_stEl (p:=p) rfl (by omega) rfl hpv rfl ?_)|with_reducible refine zI fun y hy=>?_|((with_reducible refine aC ?_);first|refine aV hdu ?_|((refine ACall.look (s:=59) (hbs _) rfl rfl rfl (fun ρ=>renL_liC ρ _) rfl ?_)))|refine aX ?_|with_reducible intro _|with_reducible refine zJ ?_ fun y hy=>?_|refine aP ?_ ?_)
       all_goals first|(exfalso;omega)|exact q_loop (pre++[c],post,ansI x c.2 (y0::r0),ga,gb) hgo (by show post.length<post.length+1;omega) ⟨by rw[len_snoc];rfl,(by show _=ansV _ _ _;rw[ansV_of hne,o3];rfl),(by show _=ansV _ _ _;rw[ansV_of hne,o3];rfl),trivial⟩ ⟨(by show _=ansX _ _;rw[ansX_of hne,o1];rfl),(by show _=ansY _ _;rw[ansY_of hne,o2];rfl),trivial⟩ aK aK
     · obtain⟨o1,o2,o3⟩:=hnew his;rw[decide_eq_false his] at hbs;have hVt:p≤(anS (y0::r0)).length:=by rw[hVl];exact hpl
       have hg0:=getD_new hVt;have hpv:p<((anS (y0::r0)).take p++0::(anS (y0::r0)).drop p).length:=by rw[List.length_append,List.length_take,List.length_cons];omega
       repeat' (first|refine aR ?_|(first|refine w_ixP h1' rfl hi1 ?_|refine w_ixP h2' rfl hi2 ?_|refine w_ldV (p:=p) rfl (by omega) rfl hpv hg0 ?_|refine w_stEl (p:=p) rfl (by omega) rfl hpv rfl ?_)|with_reducible refine zI fun y hy=>?_|((with_reducible refine aC ?_);first|refine aV hdu ?_|((refine ACall.look (s:=59) (hbs _) rfl rfl rfl (fun ρ=>renL_liC ρ _) rfl ?_))|((refine ACall.two (s:=59) (t:=58) (insA_c (anF (y0::r0)) x _ _ p (y0::r0).length hAl hpl (by omega)) rfl rfl rfl rfl (fun ρ=>renL_liC ρ _) (fun _=>rfl) (fun ρ=>renL_liC ρ _) ?_;intro g59))|((refine ACall.two (s:=63) (t:=62) (insV_c (anS (y0::r0)) 0 _ _ p (y0::r0).length hVl hpl (by omega)) rfl rfl rfl rfl (fun ρ=>renL_nI ρ _) (fun _=>rfl) (fun ρ=>renL_nI ρ _) ?_;intro g63)))|refine aX ?_|with_reducible intro _|with_reducible refine zJ ?_ fun y hy=>?_|refine aP ?_ ?_)
       all_goals first|(exfalso;omega)|exact q_loop (pre++[c],post,ansI x c.2 (y0::r0),g59,g63) hgo (by show post.length<post.length+1;omega) ⟨by rw[len_snoc];rfl,(by show _=ansV _ _ _;rw[ansV_of hne,o3];rfl),(by show _=ansV _ _ _;rw[ansV_of hne,o3];rfl),trivial⟩ ⟨(by show _=ansX _ _;rw[ansX_of hne,o1];rfl),(by show _=ansY _ _;rw[ansY_of hne,o2];rfl),trivial⟩ aK aK
def plA(r:List Int×Int):AV:=if r.2=0 then .tup [.slc 1 (iR r.1) .non,.int .i64 r.2] else .tup [.nsl,.int .i64 r.2]
section
variable {P:Program} {K:(Nat→AV)→Sig→Prop} {e:Nat→AV} {σ:Sig} {x h:IOpd} {r:List IStep}
theorem w_sl1{l:List Int}{p:Int}{d:Nat}{t:Tag}(hx:x.ev e= .slc 1 (iR (p::l)) t)(hk:stepsW P r K (upd e d (.slc 1 (iR l) .non)) σ):stepsW P (⟨some d,none,.slS 1 x (some (.k (.int .i64 1))) none none⟩::r) K e σ:=by
 refine w_slM (a:=1) (b:=((p::l).length:Int)) hx rfl rfl ⟨by decide,by rw[List.length_cons];omega,Int.le_refl _⟩ ?_;have e1:((p::l).drop (1:Int).toNat).take (((p::l).length:Int)-1).toNat=l:=by
  show l.take _=l
  exact List.take_of_length_le (by rw[List.length_cons];omega)
 rw[e1];exact hk
end
def ir89:IFn:= ⟨11,[(2,none)],(sO [oo 1 (.box 5 0),oM 2 (kB false)] (sO [oF 3 0 1,oL 4 3,oB 5 .eql 4 (kI 4),oM 6 5,⟨(some 7),(some (6,false)),(.flA 0 1)⟩,⟨(some 8),(some (6,false)),(.ld 1 false 7)⟩,⟨(some 9),(some (6,false)),(.bin .eql 8 (kI 5))⟩,oo 10 (.pick 6 (kB true) 9),oM 2 10] .ret))⟩
def ir147:IFn:= ⟨19,[(4,none)],(sO [oo 2 (.box 24 0),oM 4 (kI 0)] (sO [oM 5 (kI 0)] (.seq (sO [oM 6 (kI 0)] (.blk 0 (.loop (.seq (sO [oM 7 6,oB 8 .lss 7 (kI 6)] (.cnd 8 .skip (.exit 0))) (.seq (.blk 1 (.ops [oM 11 5,oM 12 1,oM 13 6,oo 14 (.ixAr 4 6 2 12),oo 15 (.ixAr 6 1 14 13),oL 16 15,oB 17 .add 11 16,oM 5 17])) (.ops [oM 9 6,oB 10 .add 9 (kI 1),oM 6 10])))))) (sO [oM 18 5,oM 4 18] .ret))))⟩
def ir91:IFn:= ⟨16,[(6,some (24,true))],(sO [oo 3 (.box 24 0),oo 6 (.new [z0,z0,z0,z0,z0,z0,z0,z0,z0,z0,z0,z0,z0,z0,z0,z0,z0,z0,z0,z0,z0,z0,z0,z0])] (sO [oM 7 1,oM 8 2,oo 9 (.ixAr 4 6 3 7),oo 10 (.ixAr 6 1 9 8),oL 11 10,oB 12 .sub 11 (kI 1),oo 13 (.ixAr 4 6 3 7),oo 14 (.ixAr 6 1 13 8),oS 1 14 12] (sO [oo 15 (.ld 24 true 3),oS 24 6 15] .ret)))⟩
def ir90:IFn:= ⟨27,[(6,none)],(sO [oo 3 (.box 24 0),oM 6 (kI 0)] (.seq (sO [oM 7 (kI 0)] (.blk 0 (.loop (.seq (sO [oM 8 7,oB 9 .lss 8 (kI 6)] (.cnd 9 .skip (.exit 0))) (.seq (.blk 1 (.seq (sO [oM 12 2,oM 13 1,oM 14 7,oo 15 (.ixAr 4 6 3 13),oo 16 (.ixAr 6 1 15 14),oL 17 16,oB 18 .lss 12 17] (.cnd 18 (sO [oM 19 7,oM 6 19] .ret) .skip)) (.ops [oM 20 2,oM 21 1,oM 22 7,oo 23 (.ixAr 4 6 3 21),oo 24 (.ixAr 6 1 23 22),oL 25 24,oB 26 .sub 20 25,oM 2 26]))) (.ops [oM 10 7,oB 11 .add 10 (kI 1),oM 7 11])))))) (sO [oM 6 (kI 0)] .ret)))⟩
def ir92:IFn:= ⟨56,[(4,some (24,true))],(sO [oo 2 (.box 24 0),oo 3 (.box 5 1),oo 4 (.new [z0,z0,z0,z0,z0,z0,z0,z0,z0,z0,z0,z0,z0,z0,z0,z0,z0,z0,z0,z0,z0,z0,z0,z0])] (.seq (sO [oF 6 0 3,oL 7 6] (.blk 0 (sO [oB 9 .eql 7 (kI 2),oM 8 9] (.cnd 8 (.ops [oF 10 1 3,oL 11 10,oF 12 3 3,oL 13 12,oF 14 1 3,oL 15 14,oF 16 3 3,oL 17 16,oo 18 (.ixAr 4 6 2 15),oo 19 (.ixAr 6 1 18 17),oL 20 19,oF 21 4 3,oL 22 21,oB 23 .add 20 22,oo 24 (.ixAr 4 6 2 11),oo 25 (.ixAr 6 1 24 13),oS 1 25 23]) (sO [oB 27 .eql 7 (kI 3),oM 26 27] (.cnd 26 (sO [oM 5 (kI 0)] (.blk 1 (.loop (.seq (sO [oM 28 5,oB 29 .lss 28 (kI 6)] (.cnd 29 .skip (.exit 1))) (.seq (.blk 2 (.ops [oF 32 2 3,oL 33 32,oM 34 5,oF 35 1 3,oL 36 35,oM 37 5,oF 38 2 3,oL 39 38,oM 40 5,oo 41 (.ixAr 4 6 2 39),oo 42 (.ixAr 6 1 41 40),oL 43 42,oF 44 1 3,oL 45 44,oM 46 5,oo 47 (.ixAr 4 6 2 45),oo 48 (.ixAr 6 1 47 46),oL 49 48,oB 50 .add 43 49,oo 51 (.ixAr 4 6 2 33),oo 52 (.ixAr 6 1 51 34),oo 53 (.ixAr 4 6 2 36),oS 1 52 50,oK 35 36,oo 54 (.ixAr 6 1 53 37),oS 1 54 (kI 0)])) (.ops [oM 30 5,oB 31 .add 30 (kI 1),oM 5 31])))))) .skip)))))) (sO [oo 55 (.ld 24 true 2),oS 24 4 55] .ret)))⟩
theorem rdraws_c(d:Dl):FV 89 [dlA d] (.bool (drawsB d)):=by
 by_cases h4:d.kind=4
 · have e1:drawsB d=true:=by simp[drawsB,h4]
   rw[e1];refine wk ir89 Tryz.func89 ?_;unfold ir89
   repeat' (first|refine aR ?_|refine aX ?_|with_reducible intro _|refine aP ?_ ?_)
   all_goals exact aZ
 · have e1:drawsB d=decide (d.kind=5):=by simp[drawsB,h4]
   rw[e1];refine wk ir89 Tryz.func89 ?_;unfold ir89
   repeat' (first|refine aR ?_|refine aX ?_|with_reducible intro _|refine aP ?_ ?_)
   all_goals exact aZ
theorem rsize_c(B:List Int)(h:bgIn B)(i:Int)(hi:0≤i∧i≤3):FV 147 [bgV B,.int .i64 i] (.int .i64 (bgSize B i)):=by
 have hl:=h.l;obtain⟨R,hR⟩:∃R,rowB B i=R:=⟨_,rfl⟩;have hRl:R.length=6:=by rw[←hR];exact rowB_len _ _
 have hRs:R.sum=bgSize B i:=by rw[←hR];rfl
 have hRg:∀w,w<6→R.getD w 0=B.getD (i.toNat*6+w) 0:=fun w hw=>by rw[←hR,rowB_get _ _ hw];rfl
 have hRb:∀v∈R,0≤v∧v≤1000000:=fun v hv=>by rw[←hR] at hv;obtain⟨w,_,rfl⟩:=List.mem_map.1 hv;exact h.at _
 refine wk ir147 Tryz.func147 ?_;unfold ir147
 repeat' (first|refine aR ?_|(first|(refine w_boxN rfl hl ?_;intro g2))|refine aX ?_|with_reducible intro _|refine aP ?_ ?_)
 refine w_loopK [1,2] [2] (fun k:Nat=>k≤6) (fun k=>6-k) (fun k=>[(6,.int .i64 (k:Int)),(5,.int .i64 ((R.take k).sum))]) (fun _=>[]) 0 (Nat.zero_le _) ⟨rfl,rfl,trivial⟩ trivial ?_;rintro k hk e σ;try dsimp only at hk ⊢
 have hb:=sum_bd (M:=1000000) (l:=R.take k) fun x hx=>hRb x (List.mem_of_mem_take hx);have hlk:(R.take k).length=k:=by rw[List.length_take];omega
 by_cases hk6:k=6
 · subst hk6;have e1:R.take 6=R:=List.take_of_length_le (by omega);rw[e1,hRs]
   repeat' (first|refine aR ?_|refine aX ?_|with_reducible intro _|refine aP ?_ ?_)
   all_goals exact aZ
 have hts:=take_sum (R:=R) (k:=k) (by omega);have hrg:=hRg k (by omega);have hat:=h.at (i.toNat*6+k);have ho:0+i.toNat*6+k*1=i.toNat*6+k:=by omega
 rw[hlk] at hb
 repeat' (first|refine aR ?_|(first|refine w_ldEl rfl ho rfl (by omega) ?_)|refine aX ?_|with_reducible intro _|refine aP ?_ ?_)
 all_goals first|(exfalso;omega)|exact q_loop (k+1) (by show k+1≤6;omega) (by show 6-(k+1)<6-k;omega) ⟨int_eq (by simp),by show AV.int .i64 _=AV.int .i64 _;rw[hts,hrg],trivial⟩ trivial aK aK
theorem rwithout_c(B:List Int)(h:bgIn B)(i w:Int)(hi:0≤i∧i≤3)(hw:0≤w∧w≤5):FV 91 [bgV B,.int .i64 i,.int .i64 w] (bgV (drawB B i w)):=by
 have hl:=h.l;have hat:=h.at (i.toNat*6+w.toNat);have ho:0+i.toNat*6+w.toNat*1=i.toNat*6+w.toNat:=by omega
 have hdl:=drawB_len hl i w;refine wk ir91 Tryz.func91 ?_;unfold ir91
 repeat' (first|refine aR ?_|(first|(refine w_boxN rfl hl ?_;intro g2)|refine w_ldEl rfl ho rfl (by omega) ?_|refine w_stElC rfl ho rfl (by omega) rfl (drawB_set B i w) ?_|refine w_ldN rfl rfl hdl ?_|refine w_stN rfl rfl rfl rfl hdl ?_)|refine aX ?_|with_reducible intro _|refine aP ?_ ?_)
 all_goals first|(exfalso;omega)|exact end_bg hdl
theorem rwood_c(B:List Int)(h:bgIn B)(i p:Int)(hi:0≤i∧i≤3)(hp:0≤p∧p<bgSize B i)(hp2:p≤1000000):FV 90 [bgV B,.int .i64 i,.int .i64 p] (.int .i64 (pickW B i p)):=by
 have hl:=h.l;obtain⟨R6,hR6⟩:∃R6,rowB B i=R6:=⟨_,rfl⟩;have hRl:R6.length=6:=by rw[←hR6];exact rowB_len _ _
 have hRs:R6.sum=bgSize B i:=by rw[←hR6];rfl
 have hpw:pickW B i p=(pickF R6 p:Nat):=by unfold pickW;rw[hR6]
 have hRg:∀w,w<6→R6.getD w 0=B.getD (i.toNat*6+w) 0:=fun w hw=>by rw[←hR6,rowB_get _ _ hw];rfl
 rw[hpw];refine wk ir90 Tryz.func90 ?_;unfold ir90
 repeat' (first|refine aR ?_|(first|(refine w_boxN rfl hl ?_;intro g2))|refine aX ?_|with_reducible intro _|refine aP ?_ ?_)
 refine w_loopK [1,3] [3] (fun x:Nat×Int=>(0≤x.2∧x.2<(R6.drop x.1).sum)∧x.2≤1000000∧x.1+pickF (R6.drop x.1) x.2=pickF R6 p∧x.1≤6) (fun x=>6-x.1) (fun x=>[(7,.int .i64 (x.1:Int)),(2,.int .i64 x.2)]) (fun _=>[]) (0,p) ⟨⟨hp.1,by show p<R6.sum;omega⟩,hp2,Nat.zero_add _,Nat.zero_le 6⟩ ⟨rfl,rfl,trivial⟩ trivial ?_;rintro⟨w,k⟩ ⟨hk,hk12,hpk,hw6⟩ e3 σ3;dsimp only at hk hk12 hpk hw6 ⊢;have hw5:w<6:=by apply Classical.byContradiction;intro h;have:R6.drop w=[]:=List.drop_of_length_le (by omega);rw[this] at hk;simp at hk;omega
 have hdw:R6.drop w=R6.getD w 0::R6.drop (w+1):=by rw[List.drop_eq_getElem_cons (by omega),List.getD_eq_getElem?_getD,List.getElem?_eq_getElem (by omega)];rfl
 have hRw:=hRg w hw5;have hin2:=h.at (i.toNat*6+w);have ho:0+i.toNat*6+w*1=i.toNat*6+w:=by omega
 rw[hdw,pickF] at hpk;rw[hdw,List.sum_cons] at hk;rw[hRw] at hpk hk;by_cases hkw:k<B.getD (i.toNat*6+w) 0
 · rw[if_pos hkw] at hpk;rw[←hpk]
   repeat' (first|refine aR ?_|(first|refine w_ldEl rfl ho rfl (by omega) ?_)|refine aX ?_|with_reducible intro _|refine aP ?_ ?_)
   all_goals exact aZ
 · rw[if_neg hkw] at hpk
   repeat' (first|refine aR ?_|(first|refine w_ldEl rfl ho rfl (by omega) ?_)|refine aX ?_|with_reducible intro _|refine aP ?_ ?_)
   all_goals first|(exfalso;omega)|exact q_loop (w+1,k-B.getD (i.toNat*6+w) 0) ⟨by dsimp only;omega,by dsimp only;omega,by dsimp only;omega,hw5⟩ (by show 6-(w+1)<6-w;omega) ⟨by show AV.int .i64 _=AV.int .i64 _;exact int_eq (by simp),rfl,trivial⟩ aS aK aK
def pourW(B:List Int)(i k w:Nat):List Int:=(List.range 24).map fun y=>if y/6=k∧y%6<w then B.getD y 0+B.getD (i*6+y%6) 0 else if y/6=i∧y%6<w then 0 else B.getD y 0
theorem pourW_len(B:List Int)(i k w:Nat):(pourW B i k w).length=24:=by simp[pourW]
theorem pourW_zero{B:List Int}(h:B.length=24)(i k:Nat):pourW B i k 0=B:=ext24 (pourW_len ..) h fun y hy=>by unfold pourW;rw[map24_get hy,if_neg (by omega),if_neg (by omega)]
theorem pourW_six{B:List Int}(i k:Int):pourW B i.toNat k.toNat 6=bgPour B i k:=by
 unfold pourW bgPour;refine List.map_congr_left fun y hy=>?_;have:y%6<6:=Nat.mod_lt _ (by decide);by_cases h1:y/6=k.toNat
 · rw[if_pos ⟨h1,this⟩,if_pos h1]
 · rw[if_neg (fun h=>h1 h.1),if_neg h1];by_cases h2:y/6=i.toNat
   · rw[if_pos ⟨h2,this⟩,if_pos h2]
   · rw[if_neg (fun h=>h2 h.1),if_neg h2]
theorem pourW_succ{B:List Int}{i k w:Nat}(hi:i<4)(hk:k<4)(hik:i≠k)(hw:w<6):((pourW B i k w).set (k*6+w) (B.getD (k*6+w) 0+B.getD (i*6+w) 0)).set (i*6+w) 0=pourW B i k (w+1):=ext24 (by rw[List.length_set,List.length_set,pourW_len]) (pourW_len ..) fun y hy=>by
 rw[set_getD (by rw[List.length_set,pourW_len];omega),set_getD (by rw[pourW_len];omega)];unfold pourW;rw[map24_get hy,map24_get hy];by_cases e1:y=i*6+w
 · subst e1;have h1:(i*6+w)/6=i:=by omega
   have h2:(i*6+w)%6=w:=by omega
   rw[if_pos rfl,h1,h2,if_neg (by omega),if_pos (by omega)]
 · rw[if_neg e1];by_cases e2:y=k*6+w
   · subst e2;have h1:(k*6+w)/6=k:=by omega
     have h2:(k*6+w)%6=w:=by omega
     rw[if_pos rfl,h1,h2,if_pos (by omega)]
   · rw[if_neg e2];by_cases h1:y/6=k∧y%6<w
     · rw[if_pos h1,if_pos (by omega)]
     · rw[if_neg h1,if_neg (c:=y/6=k∧y%6<w+1) (by omega)];by_cases h2:y/6=i∧y%6<w
       · rw[if_pos h2,if_pos (by omega)]
       · rw[if_neg h2,if_neg (by omega)]
theorem pourW_get{B:List Int}{i k w:Nat}(hi:i<4)(hk:k<4)(hw:w<6):(pourW B i k w).getD (k*6+w) 0=B.getD (k*6+w) 0∧(pourW B i k w).getD (i*6+w) 0=B.getD (i*6+w) 0:=by
 unfold pourW;rw[map24_get (by omega),map24_get (by omega)];have h1:(i*6+w)/6=i:=by omega
 have h2:(i*6+w)%6=w:=by omega
 have h3:(k*6+w)/6=k:=by omega
 have h4:(k*6+w)%6=w:=by omega
 rw[h1,h2,h3,h4];refine⟨?_,?_⟩
 · rw[if_neg (by omega),if_neg (by omega)]
 · rw[if_neg (by omega),if_neg (by omega)]
end Go.Abs
