/- A part of the proofs: contracts of functions. -/
import Derived.Test.YtioggblimkgioaaGreatProg
import Derived.Test.YtioggblimkgioaaGreatSnd3
import Derived.Test.YtioggblimkgioaaGreatA0
import Derived.Test.YtioggblimkgioaaGreatQ1a
set_option linter.unusedVariables false
set_option linter.unusedSimpArgs false
set_option maxRecDepth 20000
set_option maxHeartbeats 4000000
namespace Go.Abs
open Go.Proofs
theorem aside_c(bag:Int)(n:Nat)(W:Wt)(hb:0≤bag∧bag≤3)(hn:n≤6)(hp:∀x∈W,0<x.2)(hk:∀x∈W,bgIn x.1)(hs1:sumW W (fun _=>1)<2^60)(hs:sumW W (fun B=>nSum n fun w=>bgAt B bag w)<2^60):
  Fn0 Tryz.prog 210 [stV W,.int .i64 bag,.int .i64 n] (fun v=>∃W',v=stV W'∧StOut W' (fun V=>sumW W fun B=>nSum n fun w=>bgAt B bag w*V (drawB B bag w)) (fun B=>∃y∈W,∃w:Nat,w<n∧0<bgAt y.1 bag w∧B=drawB y.1 bag w)):=by
 have hnn:∀(w:Int),∀x∈W,0≤bgAt x.1 bag w:=fun w x hx=>((hk x hx).at _).1;have hle:∀w:Nat,w<n→sumW W (fun B=>bgAt B bag w)<2^60:=fun w hw=>by have:=sumW_le (W:=W) (V:=fun B=>bgAt B bag w) (U:=fun B=>nSum n fun w=>bgAt B bag w) hp fun x hx=>nSum_mem (f:=fun w=>bgAt x.1 bag w) (fun k _=>hnn k x hx) w hw;omega
 refine RawC.walk (H:=hint210 Tryz.prog) ir210 Tryz.func210 rfl (by kernel_rfl) rfl ?_;unfold ir210
 repeat' (first|refine aR ?_|with_reducible refine zI fun y hy=>?_|refine aX ?_|with_reducible intro _|with_reducible refine zJ ?_ fun y hy=>?_|refine aP ?_ ?_)
 rename_i g11
 refine w_loopK [0,1,7,12] [] (fun x:Nat×Wt=>x.1≤n∧(x.2.map (·.1)).Nodup∧(∀y∈x.2,0<y.2)∧(∀y∈x.2,∃z∈W,∃w:Nat,w<n∧0<bgAt z.1 bag w∧y.1=drawB z.1 bag w)∧ ∀V,sumW x.2 V=sumW W fun B=>nSum x.1 fun w=>bgAt B bag w*V (drawB B bag w)) (fun x=>n-x.1) (fun x=>[(13,.int .i64 (x.1:Int))])
  (fun x=>[(11,(g11,.row [.mpv (wK x.2) (wV x.2)]))]) (0,[]) ⟨Nat.zero_le _,List.nodup_nil,(fun y hy=>by cases hy),(fun y hy=>by cases hy),fun V=>by
    have:∀U:Wt,sumW U (fun _=>(0:Int))=0:=fun U=>by induction U with
     | nil=>rfl
     | cons a r ih=>obtain⟨B,m⟩:=a;show m*0+sumW r (fun _=>(0:Int))=0;rw[ih];omega
    exact (this W).symm⟩ ⟨rfl,trivial⟩ ⟨rfl,trivial⟩ ?_
 rintro⟨i,O⟩ ⟨q0,q1,q2,q3,q4⟩ e σ;dsimp only at q0 q1 q2 q3 q4 ⊢;by_cases hi:i=n
 · subst hi
   repeat' (first|refine aR ?_|with_reducible refine zI fun y hy=>?_|refine aX ?_|with_reducible intro _|with_reducible refine zJ ?_ fun y hy=>?_|refine aP ?_ ?_)
   all_goals first|(exfalso;omega)|skip
   refine w_frzMK [(7,stV O)] [] rfl rfl ⟨frzME_at rfl,trivial⟩ trivial ?_;intro e2 σ2
   repeat' (first|refine aR ?_|with_reducible refine zI fun y hy=>?_|refine aX ?_|with_reducible intro _|with_reducible refine zJ ?_ fun y hy=>?_|refine aP ?_ ?_)
   exact⟨O,rfl,q1,q2,q4,q3⟩
 have hO24:∀x∈O,x.1.length=24:=fun x hx=>by obtain⟨z,hz,w,_,_,e⟩:=q3 x hx;rw[e];exact drawB_len (hk z hz).l _ _
 have hOb:sumW O (fun _=>1)=sumW W fun B=>nSum i fun w=>bgAt B bag w*1:=q4 fun _=>1;have hlt:i<n:=by omega
 repeat' (first|refine aR ?_|with_reducible refine zI fun y hy=>?_|((with_reducible refine aC ?_);first|((refine ACall.st (drawn_c bag i W hb (by omega) hp hk hs1 (hle i hlt)) rfl ?_;intro D hD)))|refine aX ?_|with_reducible intro _|with_reducible refine zJ ?_ fun y hy=>?_|refine aP ?_ ?_)
 rename_i g20
 refine w_loopK [0,1,7,12,13,20] [] (fun x:Wt×Wt×List AV=>(∀y∈x.1,y∈D)∧(x.2.1.map (·.1)).Nodup∧(∀y∈x.2.1,0<y.2)∧(∀y∈x.2.1,∃z∈W,∃w:Nat,w<n∧0<bgAt z.1 bag w∧y.1=drawB z.1 bag w)∧ ∀V,sumW x.2.1 V+sumW x.1 V=sumW O V+sumW D V) (fun x=>x.1.length) (fun _=>[])
  (fun x=>[(11,(g11,.row [.mpv (wK x.2.1) (wV x.2.1)])),(20,(g20,.row [.itv x.2.2 (wK x.1) (wV x.1)]))]) (D,O,[]) ⟨fun y hy=>hy,q1,q2,q3,fun V=>rfl⟩ trivial ⟨rfl,rfl,trivial⟩ ?_
 rintro⟨L,U,cur⟩ ⟨p1,p2,p3,p4,p5⟩ e1 σ1;dsimp only at p1 p2 p3 p4 p5 ⊢;have p1p:∀y∈L,0<y.2:=fun y hy=>hD.pos y (p1 y hy);by_cases hL:L=[]
 · subst hL
   repeat' (first|refine aR ?_|(refine w_nxtE rfl rfl ?_)|with_reducible refine zI fun y hy=>?_|refine aX ?_|with_reducible intro _|with_reducible refine zJ ?_ fun y hy=>?_|refine aP ?_ ?_)
   all_goals first
    | (exfalso;omega)
    | exact q_loop (i+1,U) ⟨hlt,p2,p3,p4,fun V=>by
       have e1:=p5 V;have e2:=q4 V;have e3:=hD.sum V;have e4:=sumW_plus (fun B=>nSum i fun w=>bgAt B bag w*V (drawB B bag w)) (fun B=>bgAt B bag i*V (drawB B bag i)) W;have e5:sumW ([]:Wt) V=0:=rfl;show sumW U V=sumW W fun B=>nSum i (fun w=>bgAt B bag w*V (drawB B bag w))+bgAt B bag i*V (drawB B bag i)
       omega⟩ (by show n-(i+1)<n-i;omega) ⟨rfl,trivial⟩ ⟨rfl,trivial⟩ aK aK
 have hD24:∀x∈D,x.1.length=24:=fun x hx=>by obtain⟨z,hz,_,e⟩:=hD.key x hx;rw[e];exact drawB_len (hk z hz).l _ _
 have hU24:∀x∈U,x.1.length=24:=fun x hx=>by obtain⟨z,hz,w,_,_,e⟩:=p4 x hx;rw[e];exact drawB_len (hk z hz).l _ _
 have h1:sumW U (fun _=>1)+sumW L (fun _=>1)=sumW O (fun _=>1)+sumW D fun _=>1:=p5 fun _=>1;have h2:sumW D (fun _=>1)=sumW W fun B=>bgAt B bag i*1:=hD.sum fun _=>1;have h3:=sumW_plus (fun B=>nSum i fun w=>bgAt B bag w*1) (fun B=>bgAt B bag i*1) W;have h4:sumW W (fun B=>nSum i (fun w=>bgAt B bag w*1)+bgAt B bag i*1)≤sumW W fun B=>nSum n fun w=>bgAt B bag w:=sumW_le hp fun x hx=>by
  show nSum i (fun w=>bgAt x.1 bag w*1)+bgAt x.1 bag i*1≤_
  have:=nSum_mono (f:=fun w=>bgAt x.1 bag w) (n:=n) (fun k _=>hnn k x hx) (show i+1≤n from hlt);have e0:nSum i (fun w=>bgAt x.1 bag w*1)=nSum i fun w=>bgAt x.1 bag w:=nSum_congr fun k _=>Int.mul_one _;rw[nSum] at this;rw[e0,Int.mul_one];exact this
 have hUn:=sumW_nn (W:=U) (V:=fun _=>1) p3 fun _ _=>by decide
 have hLn:=sumW_nn (W:=L) (V:=fun _=>1) p1p fun _ _=>by decide
 repeat' (first|refine aR ?_|(first|(refine w_nxtC (fun x:List Int×Int=>bgV x.1) (fun x:List Int×Int=>AV.int .i64 x.2) rfl rfl hL ?_;intro j a hja;obtain⟨f0,f1,f2,f3,f4⟩:=erase_fact p1p hja;have fm:=hD24 a (p1 a f0);have fg:=wget_bd p3 a.1)|refine w_stN rfl rfl rfl rfl fm ?_|refine w_ldN rfl rfl fm ?_|refine w_mlkW rfl rfl rfl fm hU24 ?_|refine w_mlkV rfl rfl rfl fm (wins_len fm hU24) (wget_wins _ _) ?_|refine w_menW rfl rfl rfl fm hU24 ?_|refine w_mstW rfl rfl rfl rfl ?_)|with_reducible refine zI fun y hy=>?_|refine aX ?_|with_reducible intro _|with_reducible refine zJ ?_ fun y hy=>?_|refine aP ?_ ?_)
 all_goals first
  | (exfalso;omega)
  | exact q_loop (L.eraseIdx j,addW U a.1 a.2,_) ⟨fun y hy=>p1 y (mem_erase hy),addW_nd _ _ _ p2,addW_pos p3 f1,addW_key (I:=fun B=>∃z∈W,∃w:Nat,w<n∧0<bgAt z.1 bag w∧B=drawB z.1 bag w) p4 (by obtain⟨z,hz,h8,h9⟩:=hD.key a (p1 a f0);exact⟨z,hz,i,hlt,h8,h9⟩),fun V=>by
     have e1:=sumW_erase V hja;have e2:=p5 V;show sumW (addW U a.1 a.2) V+sumW (L.eraseIdx j) _=_
     rw[sumW_add];omega⟩ f4 trivial ⟨rfl,  rfl,trivial⟩ aK aK
def ir165:IFn:= ⟨42,[(2,none)],(sO [oo 1 (.box 2 0),oM 2 (.k .nsl)] (sO [oo 3 (.nil 7 3)] (.seq (sO [oF 8 1 1,oL 9 8,oN 10 9,oM 11 (kI 0)] (.blk 0 (.loop (sO [oB 12 .lss 11 10] (.seq (.cnd 12 .skip (.exit 0)) (.seq (.blk 1 (sO [oA 13 5 9 11,oo 14 (.ld 5 true 13),oo 5 (.new [z0,z0,z0,z0,z0]),oS 5 5 14] (sO [oo 16 (.ld 5 true 5),oC 17 208 [16],oM 15 17,oE 18 0 15,oE 19 1 15,oM 6 18,oM 7 19] (.seq (sO [oM 20 6,oM 21 (kI 0)] (.blk 2 (.loop (sO [oB 22 .lss 21 20] (.seq (.cnd 22 .skip (.exit 2)) (.seq (.blk 3 (.ops [oM 23 3,oo 24 (.ld 5 true 5),oM 25 7,oo 26 (.bld [z0,z0,z0,z0,z0,(.bool false),(.bool false)] [(0,5,24),(5,1,(kB true)),(6,1,25)]),oo 27 (.bsl 7 [[z0,z0,z0,z0,z0,(.bool false),(.bool false)]] [(0,26)]),oo 28 (.app 7 48 23 27 3),oM 3 28])) (.ops [oB 29 .add 21 (kI 1),oM 21 29]))))))) (sO [oM 30 6,oB 31 .eql 30 (kI 0)] (.cnd 31 (.ops [oM 32 3,oo 33 (.ld 5 true 5),oF 34 0 5,oL 35 34,oB 36 .eql 35 (kI 6),oo 37 (.bld [z0,z0,z0,z0,z0,(.bool false),(.bool false)] [(0,5,33),(5,1,(kB false)),(6,1,36)]),oo 38 (.bsl 7 [[z0,z0,z0,z0,z0,(.bool false),(.bool false)]] [(0,37)]),oo 39 (.app 7 48 32 38 3),oM 3 39]) .skip)))))) (.ops [oB 40 .add 11 (kI 1),oM 11 40]))))))) (sO [oM 41 3,oM 2 41] .ret))))⟩
def hint165(P:Program):Hint:={site:=[(28,3),(39,3)],nils:=[(3,7)],frz:=[],mve:=[],wr:=[] }
abbrev Sp:=Dl×Bool×Bool
abbrev spR(l:List Sp):List (List AV):=l.map fun x=>[.int .i64 x.1.kind,.int .i64 x.1.bag,.int .i64 x.1.other,.int .i64 x.1.wood,.int .i64 x.1.count,.bool x.2.1,.bool x.2.2]
def stp1(d:Dl):List Sp:=if drawsB d=true then List.replicate d.count.toNat (d,true,decide (d.kind=5)) else[(d,false,decide (d.kind=6))]
def stepsG(l:List Dl):List Sp:=l.flatMap stp1
theorem stp1_len{d:Dl}(h:drawsB d=true→1≤d.count∧d.count≤12):(stp1 d).length≤12:=by
 unfold stp1;split
 · rw[List.length_replicate];have:=h (by assumption);omega
 · simp
theorem sp_snoc(out:List Sp)(d:Dl)(b c:Bool)(g:Nat):AV.slc 7 (spR out++[[.int .i64 d.kind,.int .i64 d.bag,.int .i64 d.other,.int .i64 d.wood,.int .i64 d.count,.bool b,.bool c]]) (.own 3 g)=AV.slc 7 (spR (out++[(d,b,c)])) (.own 3 g):=
 congrArg (fun z=>AV.slc 7 z (.own 3 g)) (map_snoc (f:=fun x:Sp=>[AV.int .i64 x.1.kind,.int .i64 x.1.bag,.int .i64 x.1.other,.int .i64 x.1.wood,.int .i64 x.1.count,.bool x.2.1,.bool x.2.2]) (x:=(d,b,c))).symm
theorem steps_c(G:Gm)(hd:G.ds.length≤24)(hc:∀d∈G.ds,drawsB d=true→1≤d.count∧d.count≤12):FV 165 [gmA G] (.slc 7 (spR (stepsG G.ds)) .non):=by
 refine RawC.walk (H:=hint165 Tryz.prog) ir165 Tryz.func165 rfl rfl rfl ?_;unfold ir165
 repeat' (first|refine aR ?_|with_reducible refine zI fun y hy=>?_|refine aX ?_|with_reducible intro _|with_reducible refine zJ ?_ fun y hy=>?_|refine aP ?_ ?_)
 rename_i g1 g3;refine w_loopK [9,10] [] (fun x:List Dl×List Dl×List Sp×Nat=>G.ds=x.1++x.2.1∧x.2.2.1++stepsG x.2.1=stepsG G.ds∧x.2.2.1.length≤12*x.1.length) (fun x=>x.2.1.length) (fun x=>[(11,.int .i64 (x.1.length:Int)),(3,.slc 7 (spR x.2.2.1) (.own 3 x.2.2.2))]) (fun x=>[(3,(x.2.2.2,.row []))]) ([],G.ds,[],g3) ⟨rfl,rfl,Nat.le_refl _⟩ ⟨rfl,rfl,trivial⟩ ⟨rfl,trivial⟩ ?_;rintro⟨pre,post,out,g⟩ ⟨hl,he,ho⟩ e σ;dsimp only at hl he ho ⊢;have hlen:=congrArg List.length hl;rw[List.length_append] at hlen;have hol:(spR out).length=out.length:=List.length_map _;cases post with
 | nil=>
   simp only[List.length_nil] at hlen;rw[show stepsG []=[] from rfl,List.append_nil] at he
   repeat' (first|refine aR ?_|with_reducible refine zI fun y hy=>?_|refine aX ?_|with_reducible intro _|with_reducible refine zJ ?_ fun y hy=>?_|refine aP ?_ ?_)
   all_goals first|(exfalso;omega)|(rw[←he];rfl)
 | cons d post=>
   simp only[List.length_cons] at hlen;have hdc:=hc d (by rw[hl];simp);have hl1:=stp1_len hdc;have he1:out++(stp1 d++stepsG post)=stepsG G.ds:=by rw[←he];rfl
   cases hdr:drawsB d with
   | false=>
     have hdw:FV 208 [dlA d] (.tup [.int .i64 0,.bool false]):=by have:=draws_c d;rw[hdr] at this;exact this
     have e1:stp1 d=[(d,false,decide (d.kind=6))]:=by unfold stp1;rw[hdr];rfl
     rw[e1] at he1
     repeat' (first|refine aR ?_|(refine w_ixP (f:=fun d:Dl=>[AV.int .i64 d.kind,.int .i64 d.bag,.int .i64 d.other,.int .i64 d.wood,.int .i64 d.count]) hl rfl rfl ?_)|with_reducible refine zI fun y hy=>?_|((with_reducible refine aC ?_);first|refine aV hdw ?_)|refine aX ?_|with_reducible intro _|with_reducible refine zJ ?_ fun y hy=>?_|refine aP ?_ ?_)
     refine w_loopK [3,5,6,9,10,11,20] [3,5] (fun _:Unit=>True) (fun _=>0) (fun _=>[(21,.int .i64 0)]) (fun _=>[]) () trivial ⟨rfl,trivial⟩ trivial ?_;rintro⟨⟩ _ e2 σ2
     repeat' (first|refine aR ?_|with_reducible refine zI fun y hy=>?_|refine aX ?_|with_reducible intro _|with_reducible refine zJ ?_ fun y hy=>?_|refine aP ?_ ?_)
     all_goals try (exfalso;omega)
     all_goals
      rename_i g4;exact q_loop (pre++[d],post,out++[(d,false,decide (d.kind=6))],g4) ⟨by rw[hl];simp,by rw[←he1];simp,by show (out++[_]).length≤_;rw[List.length_append,List.length_append];simp only[List.length_cons,List.length_nil];omega⟩ (by show post.length<post.length+1;omega) ⟨by rw[len_snoc];rfl,sp_snoc out d false (decide (d.kind=6)) g4,trivial⟩ aS aK aK
   | true=>
     have hdn:=hdc hdr;have hdw:FV 208 [dlA d] (.tup [.int .i64 d.count,.bool (decide (d.kind=5))]):=by have:=draws_c d;rw[hdr] at this;exact this
     have e1:stp1 d=List.replicate d.count.toNat (d,true,decide (d.kind=5)):=by unfold stp1;rw[hdr];rfl
     rw[e1] at he1
     repeat' (first|refine aR ?_|(refine w_ixP (f:=fun d:Dl=>[AV.int .i64 d.kind,.int .i64 d.bag,.int .i64 d.other,.int .i64 d.wood,.int .i64 d.count]) hl rfl rfl ?_)|with_reducible refine zI fun y hy=>?_|((with_reducible refine aC ?_);first|refine aV hdw ?_)|refine aX ?_|with_reducible intro _|with_reducible refine zJ ?_ fun y hy=>?_|refine aP ?_ ?_)
     rename_i g5;refine w_loopK [5,6,7,9,10,11,20] [5] (fun x:Nat×Nat=>(x.1:Int)≤d.count) (fun x=>d.count.toNat-x.1) (fun x=>[(21,.int .i64 (x.1:Int)),(3,.slc 7 (spR (out++List.replicate x.1 (d,true,decide (d.kind=5)))) (.own 3 x.2))]) (fun x=>[(3,(x.2,.row []))]) (0,g) (by show (0:Int)≤_;omega) ⟨rfl,by show AV.slc 7 (spR out) _=AV.slc 7 (spR (out++[])) _;rw[List.append_nil],trivial⟩ ⟨rfl,trivial⟩ ?_;rintro⟨j,g'⟩ hj e2 σ2;dsimp only at hj ⊢;have hol2:(spR (out++List.replicate j (d,true,decide (d.kind=5)))).length=out.length+j:=by rw[List.length_map,List.length_append,List.length_replicate]
     have hol3:(out++List.replicate j (d,true,decide (d.kind=5))).length=out.length+j:=by rw[List.length_append,List.length_replicate]
     by_cases hje:(j:Int)=d.count
     · have hjn:d.count.toNat=j:=by omega
       rw[hjn] at he1
       repeat' (first|refine aR ?_|with_reducible refine zI fun y hy=>?_|refine aX ?_|with_reducible intro _|with_reducible refine zJ ?_ fun y hy=>?_|refine aP ?_ ?_)
       all_goals first|(exfalso;omega)|exact q_loop (pre++[d],post,out++List.replicate j (d,true,decide (d.kind=5)),g') ⟨by rw[hl];simp,by rw[←he1];simp,by show (out++List.replicate j _).length≤_;rw[hol3,List.length_append];simp only[List.length_cons,List.length_nil];omega⟩ (by show post.length<post.length+1;omega) ⟨by rw[len_snoc];rfl,rfl,trivial⟩ aS aK aK
     repeat' (first|refine aR ?_|with_reducible refine zI fun y hy=>?_|refine aX ?_|with_reducible intro _|with_reducible refine zJ ?_ fun y hy=>?_|refine aP ?_ ?_)
     all_goals try (exfalso;omega)
     all_goals
      rename_i g4;have hsn:out++List.replicate j (d,true,decide (d.kind=5))++[(d,true,decide (d.kind=5))]=out++List.replicate (j+1) (d,true,decide (d.kind=5)):=by rw[List.append_assoc,List.replicate_succ']
      refine q_loop (j+1,g4) (by show ((j+1:Nat):Int)≤_;omega) (by show d.count.toNat-(j+1)<d.count.toNat-j;omega) ⟨rfl,?_,trivial⟩ aS aK aK;rw[←hsn];exact sp_snoc (out++List.replicate j (d,true,decide (d.kind=5))) d true (decide (d.kind=5)) g4
def ir168:IFn:= ⟨45,[(8,none)],(sO [oo 4 (.box 7 0),oo 8 (.mov (.k .nmp))] (.seq (.blk 0 (sO [oF 10 5 4,oL 11 10,oM 12 11,⟨(some 13),(some (12,true)),(.flA 6 4)⟩,⟨(some 14),(some (12,true)),(.ld 1 false 13)⟩,oo 15 (.pick 12 14 (kB false)),oM 9 15] (.cnd 9 (sO [oM 16 1,oF 17 0 4,oF 18 1 17,oL 19 18,oM 20 2,oC 21 209 [16,19,20],oM 8 21] .ret) (sO [oF 23 5 4,oL 24 23,oM 22 24] (.cnd 22 (sO [oM 25 1,oF 26 0 4,oF 27 1 26,oL 28 27,oM 29 3,oC 30 210 [25,28,29],oM 8 30] .ret) (sO [oF 32 6 4,oL 33 32,oM 34 33,⟨(some 35),(some (34,true)),(.flA 0 4)⟩,⟨(some 36),(some (34,true)),(.flA 3 35)⟩,⟨(some 37),(some (34,true)),(.ld 1 false 36)⟩,⟨(some 38),(some (34,true)),(.mov 2)⟩,⟨(some 39),(some (34,true)),(.bin .neq 37 38)⟩,oo 40 (.pick 34 39 (kB false)),oM 31 40] (.cnd 31 (sO [oo 8 (.mov (.k .nmp))] .ret) .skip))))))) (sO [oM 41 1,oF 42 0 4,oo 43 (.ld 5 true 42),oC 44 211 [41,43],oM 8 44] .ret)))⟩
def ir198:IFn:= ⟨19,[(2,none)],(sO [oo 1 (.box 2 0),oM 2 (kI 0)] (sO [oM 3 (kI 0)] (.seq (sO [oo 6 (.ld 2 true 1),oC 7 165 [6],oN 8 7,oM 9 (kI 0)] (.blk 0 (.loop (sO [oB 10 .lss 9 8] (.seq (.cnd 10 .skip (.exit 0)) (.seq (.blk 1 (sO [oA 11 7 7 9,oo 12 (.ld 7 true 11),oo 5 (.new [z0,z0,z0,z0,z0,(.bool false),(.bool false)]),oS 7 5 12] (sO [oF 13 6 5,oL 14 13] (.cnd 14 (.ops [oM 15 3,oB 16 .add 15 (kI 1),oM 3 16]) .skip)))) (.ops [oB 17 .add 9 (kI 1),oM 9 17]))))))) (sO [oM 18 3,oM 2 18] .ret))))⟩
def nextV(x:Sp)(wood:Int)(n:Nat)(V:List Int→Int)(B:List Int):Int:=
 if x.2.1=true then (if x.2.2=true then bgAt B x.1.bag wood*V (drawB B x.1.bag wood) else nSum n fun w=>bgAt B x.1.bag w*V (drawB B x.1.bag w))
 else if x.2.2=true∧x.1.wood≠wood then 0 else V (mixedB x.1 B)
def nextB(x:Sp)(wood:Int)(n:Nat)(B C:List Int):Prop:=
 if x.2.1=true then (if x.2.2=true then 0<bgAt B x.1.bag wood∧C=drawB B x.1.bag wood else ∃w:Nat,w<n∧0<bgAt B x.1.bag w∧C=drawB B x.1.bag w)
 else C=mixedB x.1 B
structure NxIn (x:Sp) (wood:Int) (n:Nat) (W:Wt):Prop where
 hp:∀y∈W,0<y.2
 hk:∀y∈W,bgIn y.1
 hs:sumW W (fun _=>1)<2^60
 hn:n≤6
 hw:0≤wood∧wood≤5
 hd:x.2.1=true→(0≤x.1.bag∧x.1.bag≤3)∧sumW W (fun B=>nSum n fun w=>bgAt B x.1.bag w)<2^60∧sumW W (fun B=>bgAt B x.1.bag wood)<2^60
 h2:x.2.1=false→x.1.kind=2→(0≤x.1.bag∧x.1.bag≤3)∧(0≤x.1.wood∧x.1.wood≤5)∧0≤x.1.count∧x.1.count≤1000000
 h3:x.2.1=false→x.1.kind=3→(0≤x.1.bag∧x.1.bag≤3)∧(0≤x.1.other∧x.1.other≤3)∧x.1.bag≠x.1.other
def stW(W:Wt)(v:AV):Prop:=v=stV W∨(v= .nmp∧W=[])
theorem StOut.congr{W:Wt}{T U:(List Int→Int)→Int}{I J:List Int→Prop}(h:StOut W T I)(h1:∀V,T V=U V)(h2:∀B,I B→J B):StOut W U J:=
 ⟨h.nd,h.pos,fun V=>(h.sum V).trans (h1 V),fun x hx=>h2 _ (h.key x hx)⟩
theorem sumW_zero:∀U:Wt,sumW U (fun _=>(0:Int))=0
 | []=>rfl
 | (B,m)::r=>by show m*0+sumW r (fun _=>(0:Int))=0;rw[sumW_zero r];omega
theorem next_c(x:Sp)(wood:Int)(n:Nat)(W:Wt)(h:NxIn x wood n W):Fn0 Tryz.prog 168 [.agg [.int .i64 x.1.kind,.int .i64 x.1.bag,.int .i64 x.1.other,.int .i64 x.1.wood,.int .i64 x.1.count,.bool x.2.1,.bool x.2.2],stV W,.int .i64 wood,.int .i64 n] (fun v=>∃W',stW W' v∧StOut W' (fun V=>sumW W (nextV x wood n V)) (fun B=>∃y∈W,nextB x wood n y.1 B)):=by
 obtain⟨d,b,c⟩:=x;cases b with
 | true=>
   obtain⟨h1,h2,h3⟩:=h.hd rfl;dsimp only at h1 h2 h3;cases c with
   | true=>
     refine wk ir168 Tryz.func168 ?_;unfold ir168
     repeat' (first|refine aR ?_|with_reducible refine zI fun y hy=>?_|((with_reducible refine aC ?_);first|((refine ACall.st (drawn_c d.bag wood W h1 h.hw h.hp h.hk h.hs h3) rfl ?_;intro D hD)))|refine aX ?_|with_reducible intro _|with_reducible refine zJ ?_ fun y hy=>?_|refine aP ?_ ?_)
     exact⟨D,.inl rfl,hD.congr (fun V=>rfl) fun B hB=>hB⟩
   | false=>
     refine wk ir168 Tryz.func168 ?_;unfold ir168
     repeat' (first|refine aR ?_|with_reducible refine zI fun y hy=>?_|((with_reducible refine aC ?_);first|((refine ACall.st (aside_c d.bag n W h1 h.hn h.hp h.hk h.hs h2) rfl ?_;intro D hD)))|refine aX ?_|with_reducible intro _|with_reducible refine zJ ?_ fun y hy=>?_|refine aP ?_ ?_)
     exact⟨D,.inl rfl,hD.congr (fun V=>rfl) fun B hB=>hB⟩
 | false=>
   have hdl:=dealt_c d W h.hp h.hk h.hs (h.h2 rfl) (h.h3 rfl);cases c with
   | false=>
     refine wk ir168 Tryz.func168 ?_;unfold ir168
     repeat' (first|refine aR ?_|with_reducible refine zI fun y hy=>?_|((with_reducible refine aC ?_);first|((refine ACall.st hdl rfl ?_;intro D hD)))|refine aX ?_|with_reducible intro _|with_reducible refine zJ ?_ fun y hy=>?_|refine aP ?_ ?_)
     exact⟨D,.inl rfl,hD.congr (fun V=>rfl) fun B hB=>hB⟩
   | true=>
     by_cases hwd:d.wood=wood
     · refine RawC.walk (H:=hE Tryz.prog) ir168 Tryz.func168 rfl rfl rfl ?_;unfold ir168
       repeat' (first|refine aR ?_|with_reducible refine zI fun y hy=>?_|((with_reducible refine aC ?_);first|((refine ACall.st hdl rfl ?_;intro D hD)))|refine aX ?_|with_reducible intro _|with_reducible refine zJ ?_ fun y hy=>?_|refine aP ?_ ?_)
       all_goals first|(exfalso;omega)|(rename_i hx;exact absurd hwd hx)|exact⟨D,.inl rfl,hD.congr (fun V=>sumW_congr fun y _=>by show _=nextV _ _ _ _ _;unfold nextV;rw[if_neg Bool.false_ne_true,if_neg (fun h=>h.2 hwd)]) fun B hB=>hB⟩
     · refine RawC.walk (H:=hE Tryz.prog) ir168 Tryz.func168 rfl rfl rfl ?_;unfold ir168
       repeat' (first|refine aR ?_|with_reducible refine zI fun y hy=>?_|refine aX ?_|with_reducible intro _|with_reducible refine zJ ?_ fun y hy=>?_|refine aP ?_ ?_)
       all_goals first
        | (exfalso;omega)
        | exact⟨[],.inr ⟨rfl,rfl⟩,⟨List.nodup_nil,(fun y hy=>by cases hy),(fun V=>by
           show (0:Int)=_
           rw[←sumW_zero W];exact sumW_congr fun y _=>by show _=nextV _ _ _ _ _;unfold nextV;rw[if_neg Bool.false_ne_true,if_pos ⟨rfl,hwd⟩]),(fun y hy=>by cases hy)⟩⟩
def censG(l:List Sp):Nat:=(l.filter fun x=>x.2.2).length
theorem stepsG_len:∀(l:List Dl),(∀d∈l,drawsB d=true→1≤d.count∧d.count≤12)→(stepsG l).length≤12*l.length
 | [],_=>Nat.le_refl _
 | d::r,h=>by
   have h1:=stp1_len (h d (by simp));have h2:=stepsG_len r fun x hx=>h x (by simp[hx]);show (stp1 d++stepsG r).length≤12*(r.length+1)
   rw[List.length_append];omega
theorem censers_c(G:Gm)(hd:G.ds.length≤24)(hc:∀d∈G.ds,drawsB d=true→1≤d.count∧d.count≤12):FV 198 [gmA G] (.int .i64 (censG (stepsG G.ds):Nat)):=by
 have hst:=steps_c G hd hc;have hsl:=stepsG_len G.ds hc;obtain⟨L,hL⟩:∃L,stepsG G.ds=L:=⟨_,rfl⟩;rw[hL] at hst hsl ⊢;refine wk ir198 Tryz.func198 ?_;unfold ir198
 repeat' (first|refine aR ?_|((with_reducible refine aC ?_);first|refine aV hst ?_)|refine aX ?_|with_reducible intro _|refine aP ?_ ?_)
 refine w_loopK [7,8] [] (fun x:List Sp×List Sp=>L=x.1++x.2) (fun x=>x.2.length) (fun x=>[(3,.int .i64 (censG x.1:Nat)),(9,.int .i64 (x.1.length:Int))]) (fun _=>[]) ([],L) rfl ⟨rfl,rfl,trivial⟩ trivial ?_;rintro⟨pre,post⟩ hl e σ;dsimp only at hl ⊢;have hlen:=congrArg List.length hl;rw[List.length_append] at hlen;have hcl:censG pre≤pre.length:=List.length_filter_le _ _;cases post with
 | nil=>
   simp only[List.length_nil] at hlen;rw[List.append_nil] at hl;subst hl
   repeat' (first|refine aR ?_|refine aX ?_|with_reducible intro _|refine aP ?_ ?_)
   all_goals first|(exfalso;omega)|rfl
 | cons x post=>
   obtain⟨d,b,c⟩:=x;simp only[List.length_cons] at hlen;cases c with
   | false=>
     have hcs:censG (pre++[(d,b,false)])=censG pre:=by simp[censG,List.filter_append]
     repeat' (first|refine aR ?_|(refine w_ixP (f:=fun x:Sp=>[AV.int .i64 x.1.kind,.int .i64 x.1.bag,.int .i64 x.1.other,.int .i64 x.1.wood,.int .i64 x.1.count,.bool x.2.1,.bool x.2.2]) hl rfl rfl ?_)|refine aX ?_|with_reducible intro _|refine aP ?_ ?_)
     all_goals first|(exfalso;omega)|exact q_loop (pre++[(d,b,false)],post) (by show L=_;rw[hl];simp) (Nat.lt_succ_self _) ⟨by show AV.int .i64 _=AV.int .i64 _;rw[hcs],by rw[len_snoc];rfl,trivial⟩ aS aK aK
   | true=>
     have hcs:censG (pre++[(d,b,true)])=censG pre+1:=by simp[censG,List.filter_append]
     repeat' (first|refine aR ?_|(refine w_ixP (f:=fun x:Sp=>[AV.int .i64 x.1.kind,.int .i64 x.1.bag,.int .i64 x.1.other,.int .i64 x.1.wood,.int .i64 x.1.count,.bool x.2.1,.bool x.2.2]) hl rfl rfl ?_)|refine aX ?_|with_reducible intro _|refine aP ?_ ?_)
     all_goals first|(exfalso;omega)|exact q_loop (pre++[(d,b,true)],post) (by show L=_;rw[hl];simp) (Nat.lt_succ_self _) ⟨by show AV.int .i64 _=AV.int .i64 _;rw[hcs];rfl,by rw[len_snoc];rfl,trivial⟩ aS aK aK
def ir113:IFn:= ⟨4,[(2,none)],(sO [oo 1 (.box 2 0),oo 2 (.mov (.k .nfn))] (.seq (.seq (.frz 1) (.ops [oo 3 (.mkf (.func 164) [] [1]),oM 2 3])) .ret))⟩
def hint113(P:Program):Hint:={site:=[],nils:=[],frz:=[(3,1)],mve:=[],wr:=[] }
def ir164:IFn:= ⟨13,[],(sO [oo 2 (.box 1 0)] (sO [oo 5 (.ld 2 true 1),oC 6 165 [5],oo 3 (.new [.nsl]),oS 1 3 6] (sO [oo 4 (.new [.nfn])] (sO [oo 7 (.mkf (.func 166) [] [3,2,4,1]),oS 1 4 7] (.ops [⟨none,none,(.kil 9)⟩,oL 8 4,oo 10 (.bld [z0,z0,z0,z0,z0,z0,z0,z0,z0,z0,z0,z0,z0,z0,z0,z0,z0,z0,z0,z0,z0,z0,z0,z0] []),⟨(some 9),none,.mkm⟩,⟨none,none,(.mup (.flat [.i,.i,.i,.i,.i,.i,.i,.i,.i,.i,.i,.i,.i,.i,.i,.i,.i,.i,.i,.i,.i,.i,.i,.i]) 9 10 (kI 1))⟩,oK 4 8,oM 11 9,oo 12 (.callV 8 [(kI 0),11,(.k .nsl)])])))))⟩
def ir166:IFn:= ⟨74,[(10,none)],(sO [oM 10 (kB false)] (.seq (.blk 0 (sO [oM 13 1,oo 14 (.mln 13),oB 15 .eql 14 (kI 0),oM 12 15] (.cnd 12 (sO [oM 10 (kB true)] .ret) (sO [oM 17 0,oL 18 3,oN 19 18,oB 20 .eql 17 19,oM 16 20] (.cnd 16 (sO [oL 21 4,oM 22 2,oM 23 1,oC 24 167 [23],oK 4 21,oo 25 (.callV 21 [22,24]),oM 10 25] .ret) (sO [oL 27 3,oM 28 0,oA 29 7 27 28,oF 30 6 29,oL 31 30,oo 32 (.not 31),oM 26 32] (.cnd 26 (sO [oL 33 5,oM 34 0,oB 35 .add 34 (kI 1),oL 36 3,oM 37 0,oA 38 7 36 37,oo 39 (.ld 7 true 38),oM 40 1,oF 41 0 6,oL 42 41,oN 43 42,oM 45 2,oC 44 168 [39,40,(kI 0),43],oK 5 33,oo 46 (.callV 33 [35,44,45]),oM 10 46] .ret) .skip))))))) (.seq (sO [oF 47 0 6,oL 48 47,oN 49 48,oM 50 (kI 0)] (.blk 1 (.loop (sO [oB 51 .lss 50 49] (.seq (.cnd 51 .skip (.exit 1)) (.seq (.blk 2 (sO [oM 52 50,oM 11 52] (sO [oL 53 5,oM 54 0,oB 55 .add 54 (kI 1),oL 56 3,oM 57 0,oA 58 7 56 57,oo 59 (.ld 7 true 58),oM 60 1,oM 61 11,oF 62 0 6,oL 63 62,oN 64 63,oM 66 2,oM 68 11,oo 69 (.bsl 1 [[z0]] [(0,68)]),oC 65 168 [59,60,61,64],oK 5 53,oC 67 169 [66],oK 5 53,oo 70 (.app 1 8 67 69 70),oK 5 53,oo 71 (.callV 53 [55,65,70]),oo 72 (.not 71)] (.cnd 72 (sO [oM 10 (kB false)] .ret) .skip)))) (.ops [oB 73 .add 50 (kI 1),oM 50 73]))))))) (sO [oM 10 (kB true)] .ret))))⟩
def crs(n:Nat):List Sp→((List Int→Int)→Int)→List Int→List (List Int×Int)
 | [],T,c=>if T (fun _=>1)=0 then[] else[(c,T fun _=>1)]
 | x::r,T,c=>if T (fun _=>1)=0 then[] else if x.2.2=true then (List.range n).flatMap fun (w:Nat)=>crs n r (fun V=>T (nextV x w n V)) (c++[(w:Int)]) else crs n r (fun V=>T (nextV x 0 n V)) c
abbrev encC(x:List Int×Int):List AV:=[.slc 1 (iR x.1) .non,.int .i64 x.2]
def wkS(G:Gm)(L:List Sp)(gs gy gw l:Nat)(y:Res):List (Nat×(Nat×Res)):=
 [(1000,(gs,.row [.slc 7 (spR L) .non])),(1001,(gy,.row [.clo (.yield l) [] []])),(1002,(gw,.row [.clo (.func 166) [] [.ref 1000 gs 0,.ref 1001 gy 0,.ref 1002 gw 0,.pin [.slc 2 (wR G.ws) .non,.slc 5 (dlR G.ds) .non]]])),(YS,(0,y))]
structure SrI (n:Nat) (I:List Sp→Wt→Prop):Prop where
 pos:∀{l W},I l W→ ∀y∈W,0<y.2
 bd:∀{l W},I l W→sumW W (fun _=>1)<2^60
 nx:∀{x r W} {w:Nat},I (x::r) W→W≠[]→w<n→NxIn x w n W
 go:∀{x r W W'} {w:Nat},I (x::r) W→W≠[]→w<n→StOut W' (fun V=>sumW W (nextV x w n V)) (fun B=>∃y∈W,nextB x w n y.1 B)→I r W'
theorem crsW_c(G:Gm)(L:List Sp)(gs gy gw l:Nat)(I:List Sp→Wt→Prop)(hI:SrI G.ws.length I)(hL:L.length<1000)(hn1:1≤G.ws.length)(hn:G.ws.length≤6):∀(post pre:List Sp) (k:Int) (W:Wt) (v:AV) (c:List Int) (a:AV) (rest:List (List Int×Int)),k=pre.length→L=pre++post→NowV a c→stW W v→I post W→c.length+post.length<1000→1≤c.length+censG post→
  RawC Tryz.prog 166 [.int .i64 k,v,a,.ref 1000 gs 0,.ref 1001 gy 0,.ref 1002 gw 0,.pin [.slc 2 (wR G.ws) .non,.slc 5 (dlR G.ds) .non]] (sg (wkS G L gs gy gw l (.yld l (some ((crs G.ws.length post (sumW W) c++rest).map encC)))))
   (SR (fun (b:Bool) v=>v= .bool b) (fun b=>wkS G L gs gy gw l (.yld l (yNext (rest.map encC) b)))):=by
 intro post;induction post with
 | nil=>
   intro pre k W v c a rest hk hl ha hv hW hcl h1;subst hk;have hpos:=hI.pos hW;have hlen:=congrArg List.length hl;rw[List.append_nil] at hl;subst hl;by_cases hz:sumW W (fun _=>1)=0
   · have hW0:=(sumW_nil hpos).2 hz;rw[show crs G.ws.length [] (sumW W) c=[] by rw[crs,if_pos hz]];subst hW0;have h00:(wK []).length=0:=rfl;have h01:([]:List AV).length=0:=rfl;rcases hv with rfl | ⟨rfl,-⟩
     all_goals
      refine wk ir166 Tryz.func166 ?_;unfold ir166
      repeat' (first|refine aR ?_|with_reducible refine zI fun y hy=>?_|refine aX ?_|with_reducible intro _|with_reducible refine zJ ?_ fun y hy=>?_|refine aP ?_ ?_)
      all_goals first|(exfalso;omega)|exact⟨true,rfl,aS⟩
   · rw[show crs G.ws.length [] (sumW W) c=[(c,sumW W fun _=>1)] by rw[crs,if_neg hz]];have hne:W≠[]:=fun h=>hz ((sumW_nil hpos).1 h);have hwl:0<(wK W).length:=by rw[List.length_map];exact List.length_pos_iff.2 hne
     have hc0:c≠[]:=fun h=>by subst h;simp[censG] at h1
     rcases ha with⟨_,h⟩ | ⟨rfl,-⟩
     · exact absurd h hc0
     rcases hv with rfl | ⟨-,h⟩
     · have hwy:=ways_c W hpos (hI.bd hW);refine wk ir166 Tryz.func166 ?_;unfold ir166
       repeat' (first|refine aR ?_|with_reducible refine zI fun y hy=>?_|refine aL ?_|with_reducible refine zQi fun b=>?_|((with_reducible refine aC ?_);first|refine aV hwy ?_)|refine aX ?_|with_reducible intro _|with_reducible refine zJ ?_ fun y hy=>?_|refine aP ?_ ?_)
       all_goals first|(exfalso;omega)|exact⟨b,rfl,aS⟩
     · exact absurd h hne
 | cons x post ih=>
   intro pre k W v c a rest hk hl ha hv hW hcl h1;subst hk;have hpos:=hI.pos hW;have hlen:=congrArg List.length hl;rw[List.length_append,List.length_cons] at hlen;by_cases hz:sumW W (fun _=>1)=0
   · have hW0:=(sumW_nil hpos).2 hz;rw[show crs G.ws.length (x::post) (sumW W) c=[] by rw[crs,if_pos hz]];subst hW0;have h00:(wK []).length=0:=rfl;have h01:([]:List AV).length=0:=rfl;rcases hv with rfl | ⟨rfl,-⟩
     all_goals
      refine wk ir166 Tryz.func166 ?_;unfold ir166
      repeat' (first|refine aR ?_|with_reducible refine zI fun y hy=>?_|refine aX ?_|with_reducible intro _|with_reducible refine zJ ?_ fun y hy=>?_|refine aP ?_ ?_)
      all_goals first|(exfalso;omega)|exact⟨true,rfl,aS⟩
   have hne:W≠[]:=fun h=>hz ((sumW_nil hpos).1 h);have hwl:0<(wK W).length:=by rw[List.length_map];exact List.length_pos_iff.2 hne
   rcases hv with rfl | ⟨-,h⟩
   rotate_left
   · exact absurd h hne
   obtain⟨d,b,z⟩:=x;have hNV:=ha;cases z with
   | false=>
     have hnx:=next_c _ ((0:Nat):Int) G.ws.length W (hI.nx (w:=0) hW hne (by omega));rw[show crs G.ws.length ((d,b,false)::post) (sumW W) c=crs G.ws.length post (fun V=>sumW W (nextV (d,b,false) ((0:Nat):Int) G.ws.length V)) c by rw[crs,if_neg hz];rfl]
     have hrec:∀W' v',stW W' v'→StOut W' (fun V=>sumW W (nextV (d,b,false) ((0:Nat):Int) G.ws.length V)) (fun B=>∃y∈W,nextB (d,b,false) ((0:Nat):Int) G.ws.length y.1 B)→RawC Tryz.prog 166 [.int .i64 ((pre.length:Int)+1),v',a,.ref 1000 gs 0,.ref 1001 gy 0,.ref 1002 gw 0,.pin [.slc 2 (wR G.ws) .non,.slc 5 (dlR G.ds) .non]] (sg (wkS G L gs gy gw l (.yld l (some ((crs G.ws.length post (fun V=>sumW W (nextV (d,b,false) ((0:Nat):Int) G.ws.length V)) c++rest).map encC)))))
       (SR (fun (b:Bool) v=>v= .bool b) (fun b=>wkS G L gs gy gw l (.yld l (yNext (rest.map encC) b)))):=fun W' v' hv' hW'=>by
      have:=ih (pre++[(d,b,false)]) ((pre.length:Int)+1) W' v' c a rest (by simp) (by rw[hl];simp) hNV hv' (hI.go (w:=0) hW hne (by omega) hW') (by rw[List.length_cons] at hcl;omega) h1;rw[show sumW W'=_ from funext hW'.sum] at this;exact this
     rcases ha with⟨rfl,hc0⟩ | ⟨rfl,hc0⟩
     all_goals
      refine wk ir166 Tryz.func166 ?_;unfold ir166
      repeat' (first|refine aR ?_|(refine w_ixP (f:=fun x:Sp=>[AV.int .i64 x.1.kind,.int .i64 x.1.bag,.int .i64 x.1.other,.int .i64 x.1.wood,.int .i64 x.1.count,.bool x.2.1,.bool x.2.2]) hl rfl rfl ?_)|with_reducible refine zI fun y hy=>?_|((with_reducible refine aC ?_);first|((refine ACall.fn0 hnx rfl ?_;rintro _ ⟨W',rfl | ⟨rfl,hW0⟩,hW'⟩))|((refine ACall.liftYS (hrec W' _ (.inl rfl) hW') [(1000,1000),(1001,1001),(1002,1002)] none rfl rfl rfl rfl ⟨⟨_,rfl⟩,⟨_,rfl⟩,⟨_,rfl⟩,trivial⟩ (fun _=>rfl) (fun b=>(0,.yld l (yNext (rest.map encC) b))) (fun _=>rfl) ?_;rintro b _ rfl))|((refine ACall.liftYS (hrec W' _ (.inr ⟨rfl,hW0⟩) hW') [(1000,1000),(1001,1001),(1002,1002)] none rfl rfl rfl rfl ⟨⟨_,rfl⟩,⟨_,rfl⟩,⟨_,rfl⟩,trivial⟩ (fun _=>rfl) (fun b=>(0,.yld l (yNext (rest.map encC) b))) (fun _=>rfl) ?_;rintro b _ rfl)))|refine aX ?_|with_reducible intro _|with_reducible refine zJ ?_ fun y hy=>?_|refine aP ?_ ?_)
      all_goals first|(exfalso;omega)|exact⟨_,rfl,aS⟩
   | true=>
     rw[show crs G.ws.length ((d,b,true)::post) (sumW W) c=(List.range G.ws.length).flatMap fun (w:Nat)=>crs G.ws.length post (fun V=>sumW W (nextV (d,b,true) w G.ws.length V)) (c++[(w:Int)]) by rw[crs,if_neg hz];rfl];obtain⟨F,hF⟩:∃F:Nat→List (List Int×Int),F=fun (w:Nat)=>crs G.ws.length post (fun V=>sumW W (nextV (d,b,true) w G.ws.length V)) (c++[(w:Int)]):=⟨_,rfl⟩;rw[←hF];have hcg:censG ((d,b,true)::post)=censG post+1:=rfl
     have hrec:∀(i:Nat),i<G.ws.length→ ∀W' v',stW W' v'→StOut W' (fun V=>sumW W (nextV (d,b,true) i G.ws.length V)) (fun B=>∃y∈W,nextB (d,b,true) i G.ws.length y.1 B)→RawC Tryz.prog 166 [.int .i64 ((pre.length:Int)+1),v',.slc 1 (iR (c++[(i:Int)])) .non,.ref 1000 gs 0,.ref 1001 gy 0,.ref 1002 gw 0,.pin [.slc 2 (wR G.ws) .non,.slc 5 (dlR G.ds) .non]] (sg (wkS G L gs gy gw l (.yld l (some ((F i++(((List.range G.ws.length).drop (i+1)).flatMap F++rest)).map encC)))))
       (SR (fun (b:Bool) v=>v= .bool b) (fun b=>wkS G L gs gy gw l (.yld l (yNext ((((List.range G.ws.length).drop (i+1)).flatMap F++rest).map encC) b)))):=fun i hi W' v' hv' hW'=>by
      have:=ih (pre++[(d,b,true)]) ((pre.length:Int)+1) W' v' (c++[(i:Int)]) _ (((List.range G.ws.length).drop (i+1)).flatMap F++rest) (by simp) (by rw[hl];simp) (.inr ⟨rfl,by simp⟩) hv' (hI.go hW hne hi hW') (by rw[List.length_cons] at hcl;rw[len_snoc];omega) (by simp;omega);rw[show sumW W'=_ from funext hW'.sum] at this;rw[hF];rw[hF] at this;exact this
     rcases ha with⟨rfl,hc0⟩ | ⟨rfl,hc0⟩
     all_goals
      refine wk ir166 Tryz.func166 ?_;unfold ir166
      repeat' (first|refine aR ?_|(refine w_ixP (f:=fun x:Sp=>[AV.int .i64 x.1.kind,.int .i64 x.1.bag,.int .i64 x.1.other,.int .i64 x.1.wood,.int .i64 x.1.count,.bool x.2.1,.bool x.2.2]) hl rfl rfl ?_)|with_reducible refine zI fun y hy=>?_|refine aX ?_|with_reducible intro _|with_reducible refine zJ ?_ fun y hy=>?_|refine aP ?_ ?_)
      all_goals try (exfalso;omega)
      all_goals
       refine w_loopK [0,1,2,3,5,6,49] [1000,1001,1002] (fun i:Nat=>i≤G.ws.length) (fun i=>G.ws.length-i) (fun i=>[(50,.int .i64 (i:Int))]) (fun i=>[(YS,(0,.yld l (some ((((List.range G.ws.length).drop i).flatMap F++rest).map encC))))]) 0 (Nat.zero_le _) ⟨rfl,trivial⟩ ⟨rfl,trivial⟩ ?_;rintro i hi e σ;dsimp only at hi ⊢;by_cases hie:i=G.ws.length
       · have hdr:((List.range G.ws.length).drop i).flatMap F++rest=rest:=by rw[hie,List.drop_of_length_le (by simp)];rfl
         rw[hdr]
         repeat' (first|refine aR ?_|with_reducible refine zI fun y hy=>?_|refine aX ?_|with_reducible intro _|with_reducible refine zJ ?_ fun y hy=>?_|refine aP ?_ ?_)
         all_goals first|(exfalso;omega)|exact⟨true,rfl,aS⟩
       have hil:i<G.ws.length:=by omega
       have hdr:((List.range G.ws.length).drop i).flatMap F++rest=F i++(((List.range G.ws.length).drop (i+1)).flatMap F++rest):=by rw[List.drop_eq_getElem_cons (by simpa using hil),List.getElem_range,List.flatMap_cons,List.append_assoc]
       rw[hdr];have hnx:=next_c _ (i:Int) G.ws.length W (hI.nx hW hne hil);have hclo:=cloneO_c c _ hNV (by omega)
       repeat' (first|refine aR ?_|(refine w_ixP (f:=fun x:Sp=>[AV.int .i64 x.1.kind,.int .i64 x.1.bag,.int .i64 x.1.other,.int .i64 x.1.wood,.int .i64 x.1.count,.bool x.2.1,.bool x.2.2]) hl rfl rfl ?_)|with_reducible refine zI fun y hy=>?_|((with_reducible refine aC ?_);first|((refine ACall.fn0 hnx rfl ?_;rintro _ ⟨W',rfl | ⟨rfl,hW0⟩,hW'⟩))|(refine ACall.liftS hclo [] (some 2) rfl rfl rfl trivial (fun _=>rfl) ?_;rintro g67 _ rfl)|((refine ACall.liftYS (hrec i hil W' _ (.inl rfl) hW') [(1000,1000),(1001,1001),(1002,1002)] none rfl rfl rfl rfl ⟨⟨_,rfl⟩,⟨_,rfl⟩,⟨_,rfl⟩,trivial⟩ (fun _=>rfl) (fun b=>(0,.yld l (yNext ((((List.range G.ws.length).drop (i+1)).flatMap F++rest).map encC) b))) (fun _=>rfl) ?_;rintro b _ rfl))|((refine ACall.liftYS (hrec i hil W' _ (.inr ⟨rfl,hW0⟩) hW') [(1000,1000),(1001,1001),(1002,1002)] none rfl rfl rfl rfl ⟨⟨_,rfl⟩,⟨_,rfl⟩,⟨_,rfl⟩,trivial⟩ (fun _=>rfl) (fun b=>(0,.yld l (yNext ((((List.range G.ws.length).drop (i+1)).flatMap F++rest).map encC) b))) (fun _=>rfl) ?_;rintro b _ rfl)))|refine aX ?_|with_reducible intro _|with_reducible refine zJ ?_ fun y hy=>?_|refine aP ?_ ?_)
       all_goals first|(rename_i hb;subst hb;exact⟨false,rfl,aS⟩)|(rename_i hb;subst hb;exact q_loop (i+1) hil (by show G.ws.length-(i+1)<G.ws.length-i;omega) ⟨rfl,trivial⟩ aS aK aK)
theorem frzM_step{G:GS}{σ:Sig}{w:World}{i g b:Nat}{aks avs:List AV}(hI:Inv G σ w)(hm:G.m i g=some (b,1,0))(hσ:σ i=(g,.row [.mpv aks avs])):
  ∃G',StepOK G σ w G' (frzMS i g aks avs σ) w∧YSame σ (frzMS i g aks avs σ)∧(∀l vals,RelL G l vals→RelL G' (frzML i g aks avs l) vals)∧(∀b',Foot G' (frzMS i g aks avs σ) b'→Foot G σ b')∧ ∀j,¬live σ j→frzMS i g aks avs σ j=σ j∧ ¬live (frzMS i g aks avs σ) j:=by
 have hlive:live σ i:=⟨_,by rw[hσ]⟩;have hO:=obj_of hI hσ hm (by simp);obtain⟨o,hobj,ks,vs,rfl,r1,r2,hl⟩:=hO.obj;have hfb:Foot G σ b:=⟨i,_,hlive,by rw[hσ];exact hm⟩
 let G':GS:=⟨fun b' o=>if b'=b∧o=0 then some (encM ks vs) else G.K b' o,G.m⟩
 have hleK:∀b' o v,G.K b' o=some v→G'.K b' o=some v:=by
  intro b' o v hv;show (if _ then _ else _)=_
  rw[if_neg]
  · exact hv
  · rintro⟨rfl,_⟩;rw[hO.K o] at hv;cases hv
 have hle:G.le G':=⟨hleK,fun _ _ _ h=>h⟩;have hKb:G'.K b 0=some (encM ks vs):=by
  show (if _ then _ else _)=_
  rw[if_pos ⟨rfl,rfl⟩]
 have hr1:RelL (GS.pure G'.K) aks ks:=RelL.mono (GS.pure_mono hle) r1;have hr2:RelL (GS.pure G'.K) avs vs:=RelL.mono (GS.pure_mono hle) r2;have hkok:Kok G'.K w:=by
  refine⟨fun b' o v hv=>?_⟩;have hv':(if b'=b∧o=0 then some (encM ks vs) else G.K b' o)=some v:=hv;split at hv'
  · rename_i hb;obtain⟨rfl,rfl⟩:=hb;cases hv';exact .inr ⟨rfl,ks,vs,hobj,hl,rfl⟩
  · exact hI.kok.see _ _ _ hv'
 have hs0:∀j,j≠i→frzMS i g aks avs σ j=((σ j).1,frzMR i g aks avs (σ j).2):=fun j hj=>by simp[frzMS,hj]
 have hsi:frzMS i g aks avs σ i=(g,.dead):=by simp[frzMS,hσ]
 have hlv:∀j,live (frzMS i g aks avs σ) j→j≠i∧live σ j:=by
  rintro j ⟨c',hc'⟩;have hj:j≠i:=by rintro rfl;rw[hsi] at hc';cases hc'
  rw[hs0 j hj] at hc';refine⟨hj,?_⟩;cases hsj:(σ j).2 with
  | row l=>exact⟨l,hsj⟩
  | dead=>rw[hsj] at hc';cases hc'
  | yld l s=>rw[hsj] at hc';cases hc'
 have hinv:Inv G' (frzMS i g aks avs σ) w:=by
  refine⟨hkok,fun j c' hj=>?_,hI.fresh,fun j k b' p q hjk hj hk hp hq=>?_⟩
  · obtain⟨hji,c0,hc0⟩:=hlv j ⟨c',hj⟩;rw[hs0 j hji] at hj ⊢;rw[hc0] at hj;simp only[frzMR] at hj;cases hj;rcases hI.res j c0 hc0 with⟨h1,h2⟩ | ⟨b',e',lim',vs',T',hR'⟩ | ⟨b',hO'⟩
    · subst h1;exact .inl ⟨rfl,h2⟩
    · have hne:b'≠b:=by rintro rfl;exact hI.dist j i b' _ _ hji ⟨c0,hc0⟩ hlive hR'.m (by rw[hσ];exact hm)
      refine .inr (.inl ⟨b',e',lim',vs',T',⟨hR'.m,hR'.obj,by rw[frzML_len];exact hR'.fit,hR'.lim,fun o ho=>?_,fun q y hq=>?_⟩⟩)
      · show (if _ then _ else _)=_
        rw[if_neg (fun h=>hne h.1)];exact hR'.K o ho
      · obtain⟨y',hy,rfl⟩:=frzML_get hq;obtain⟨v,hv,hr⟩:=hR'.rel q y' hy;exact⟨v,hv,frzM_rel hle hm hKb hr1 hr2 hr⟩
    · have hne:b'≠b:=by rintro rfl;exact hI.dist j i b' _ _ hji ⟨c0,hc0⟩ hlive hO'.m (by rw[hσ];exact hm)
      have hO2:ObjOK G' w j (σ j).1 c0 b':=hO'.keep hle (by
       funext o
       show (if _ then _ else _)=_
       rw[if_neg (fun h=>hne h.1)])  rfl
      exact .inr (.inr ⟨b',hO2.m,hO2.K,by obtain⟨o,h1,h2⟩:=hO2.obj;exact⟨o,h1,h2.frzM⟩⟩)
  · obtain⟨hji,lj⟩:=hlv j hj;obtain⟨hki,lk⟩:=hlv k hk;rw[hs0 j hji] at hp;rw[hs0 k hki] at hq;exact hI.dist j k b' p q hjk lj lk hp hq
 have hfoot:∀b',Foot G' (frzMS i g aks avs σ) b'→Foot G σ b':=by rintro b' ⟨j,y,hj,hm'⟩;obtain⟨hji,lj⟩:=hlv j hj;rw[hs0 j hji] at hm';exact⟨j,y,lj,hm'⟩
 have hstep:StepOK G σ w G' (frzMS i g aks avs σ) w:=by
  refine⟨hle,hinv,⟨rfl,rfl,rfl,Nat.le_refl _,fun _ _ _=>rfl,hle.K,fun b' _ hn=>?_⟩,fun b' hb=> .inl (hfoot b' hb)⟩
  funext o
  show (if _ then _ else _)=_
  rw[if_neg];rintro⟨rfl,_⟩;exact hn hfb
 have hys:YSame σ (frzMS i g aks avs σ):=by
  by_cases hy:YS=i
  · refine .inr ⟨fun l s=>by rw[hy,hσ];simp,fun l s=>by rw[hy,hsi];simp⟩
  · cases hsy:(σ YS).2 with
    | yld l s=>exact .inl (by rw[hs0 YS hy,hsy];simp only[frzMR];rw[←hsy])
    | dead=>exact .inr ⟨fun l s=>(by rw[hsy];simp),fun l s=>by rw[hs0 YS hy,hsy];simp[frzMR]⟩
    | row c'=>exact .inr ⟨fun l s=>(by rw[hsy];simp),fun l s=>by rw[hs0 YS hy,hsy];simp[frzMR]⟩
 refine⟨G',hstep,hys,fun l vals h=>frzML_rel hle hm hKb hr1 hr2 h,hfoot,fun j hj=>?_⟩;have hji:j≠i:=by rintro rfl;exact hj hlive
 refine⟨?_,fun h=>hj (hlv j h).2⟩;rw[hs0 j hji];cases hsj:σ j with
 | mk x y=>
   cases y with
   | row l=>exact absurd ⟨l,by rw[hsj]⟩ hj
   | dead=>rfl
   | yld l s=>rfl
theorem ACall.frzM{P:Program}{f:Nat}{args args':List AV}{σ σ':Sig}{i g d:Nat}{ks vs:List AV}{Q:AV→Sig→Prop}(hσ:σ i=(g,.row [.mpv ks vs]))(hi:AV.map i g∈args)(ha:args'=frzML i g ks vs args)(hs:σ'=frzMS i g ks vs σ)(h:ACall P f args' σ' d Q):ACall P f args σ d Q:=by
 subst ha hs;refine⟨h.1,fun Y T G w vals hI hy ht hr=>?_⟩;obtain⟨b,hm⟩:∃b,G.m i g=some (b,1,0):=by
  clear h hy ht hI hσ;induction args generalizing vals with
  | nil=>cases hi
  | cons a l ih=>
    obtain⟨v,r,rfl,h1,h2⟩:=hr;rcases List.mem_cons.1 hi with e | e
    · subst e;obtain⟨b,-,h1⟩:=h1;exact⟨b,h1⟩
    · exact ih e _ h2
 obtain⟨G',hst,hys,hrel,hfoot,hdead⟩:=frzM_step hI hm hσ;have hy':YI Y T (frzMS i g ks vs σ) G'.K w:=by
  have:YI Y T σ G'.K w:=by
   unfold YI at hy ⊢
   revert hy
   cases Y with
   | none=>exact id
   | some y=> rintro⟨s,h1,h2'⟩;exact⟨s,h1,y.stab _ _ _ _ _ _ h2' hst.inv.kok ⟨hst.ext.os,hst.ext.tape,hst.ext.output,hst.ext.size,fun b hb hn=>hst.ext.block b hb fun hf=>ht b hf (Classical.not_not.1 hn),hst.ext.le,fun b hb hn=>hst.ext.Kb b hb fun hf=>ht b hf (Classical.not_not.1 hn)⟩⟩
  exact this.same hys
 refine (h.2 Y T G' w vals hst.inv hy' (fun b hb=>ht b (hfoot b hb)) (hrel _ _ hr)).mono ?_;rintro e w' ⟨v,av,σ',G2,T',h1,h2,h3,h4,h5,h6,h7,h8,h9,h10,h11⟩;refine⟨v,av,σ',G2,T',h1,h2,h3,h4,hst.le.trans h5,?_,fun b hb=>(h7 b hb).imp (hfoot b) id,fun j hj hl hjy=>?_,h9,h10,h11⟩
 · exact (Ext.weak hst.ext (F':=fun b=>Foot G σ b∨T b) fun b _ h=> .inl h).trans h6 fun b _ h=>h.imp (hfoot b) id
 · rw[h8 j hj (hdead j hl).2 hjy,(hdead j hl).1]
abbrev W0:Wt:=[(bg0,1)]
abbrev gmP(G:Gm):AV:= .pin [.slc 2 (wR G.ws) .non,.slc 5 (dlR G.ds) .non]
structure GmIn (G:Gm) (I:List Sp→Wt→Prop):Prop where
 n1:1≤G.ws.length
 n6:G.ws.length≤6
 d24:G.ds.length≤24
 cnt:∀d∈G.ds,drawsB d=true→1≤d.count∧d.count≤12
 cen:1≤censG (stepsG G.ds)
 sr:SrI G.ws.length I
 ini:I (stepsG G.ds) W0
def crsG(G:Gm):List (List Int×Int):=crs G.ws.length (stepsG G.ds) (sumW W0) []
theorem courses_it(G:Gm)(I:List Sp→Wt→Prop)(h:GmIn G I):ItC Tryz.prog 164 [gmP G] ((crsG G).map encC):=by
 refine ItC.of fun l=>?_;have hsl:=stepsG_len G.ds h.cnt;have hd:=h.d24;have hst:=steps_c G h.d24 h.cnt;have hrec:=fun gs gy gw=>crsW_c G (stepsG G.ds) gs gy gw l I h.sr (by omega) h.n1 h.n6 (stepsG G.ds) [] 0 W0 (stV W0) [] .nsl [] rfl rfl (.inl ⟨rfl,rfl⟩) (.inl rfl) h.ini (by simp;omega) (by simpa using h.cen);rw[List.append_nil] at hrec;refine RawC.walk (H:=hE Tryz.prog) ir164 Tryz.func164 rfl (by kernel_rfl) rfl ?_;unfold ir164
 repeat' (first|refine aR ?_|with_reducible refine zI fun y hy=>?_|((with_reducible refine aC ?_);first|refine aV hst ?_)|refine aX ?_|with_reducible intro _|with_reducible refine zJ ?_ fun y hy=>?_|refine aP ?_ ?_)
 rename_i g2 g3 g4 g9;refine ACall.frzM (args':=[.int .i64 0,stV W0,.nsl,.ref 3 g3 0,.ref 2 g2 0,.ref 4 g4 0,gmP G]) (i:=9) (ks:=wK W0) (vs:=wV W0) rfl (by simp) (by simp[frzML,frzM]) rfl ?_;refine ACall.liftYS (hrec _ _ _) [(1000,3),(1001,2),(1002,4)] none rfl rfl rfl rfl ⟨⟨_,rfl⟩,⟨_,rfl⟩,⟨_,rfl⟩,trivial⟩ (fun _=>rfl) (fun b=>(0,.yld l (yNext [] b))) (fun _=>rfl) ?_;rintro b _ rfl
 repeat' (first|refine aR ?_|with_reducible refine zI fun y hy=>?_|refine aX ?_|with_reducible intro _|with_reducible refine zJ ?_ fun y hy=>?_|refine aP ?_ ?_)
 cases b
 · exact .inl rfl
 · exact .inr rfl
theorem courses_c(G:Gm):FV 113 [gmA G] (.clo (.func 164) [] [gmP G]):=by
 refine RawC.walk (H:=hint113 Tryz.prog) ir113 Tryz.func113 rfl rfl rfl ?_;unfold ir113
 repeat' (first|refine aR ?_|refine aL ?_|(refine w_frzR rfl rfl rfl ?_)|refine aX ?_|with_reducible intro _|refine aP ?_ ?_)
 rfl
def ir162:IFn:= ⟨3,[(0,none)],(sO [oo 0 (.mov (.k .nmp))] (sO [⟨(some 1),none,.mkm⟩,⟨none,none,(.mup .i 1 (kI 1) (.k (.clo (.func 202) [] [])))⟩,⟨none,none,(.mup .i 1 (kI 2) (.k (.clo (.func 203) [] [])))⟩,⟨none,none,(.mup .i 1 (kI 3) (.k (.clo (.func 204) [] [])))⟩,⟨none,none,(.mup .i 1 (kI 4) (.k (.clo (.func 205) [] [])))⟩,⟨none,none,(.mup .i 1 (kI 5) (.k (.clo (.func 206) [] [])))⟩,⟨none,none,(.mup .i 1 (kI 6) (.k (.clo (.func 207) [] [])))⟩,oM 2 1,oM 0 2] .ret))⟩
theorem gnamed_c(s:ByteArray)(hs:s.size≤1000):FV 160 [.str s] (.bool (namedB s)):=by
 have hin:=gin_c s.size 1 8;refine wk ir160 Tryz.func160 ?_;unfold ir160
 repeat' (first|refine aR ?_|refine aX ?_|with_reducible intro _|refine aP ?_ ?_)
 have hsz:s.data.toList.length=s.size:=by simp
 refine w_loopK [0,6,7] [] (fun x:List UInt8×List UInt8=>s.data.toList=x.1++x.2∧x.1.all letB=true) (fun x=>x.2.length) (fun x=>[(8,.int .i64 x.1.length)]) (fun _=>[]) ([],s.data.toList) ⟨rfl,rfl⟩ ⟨rfl,trivial⟩ trivial ?_;rintro⟨pre,post⟩ ⟨hl,hb⟩ e σ;dsimp only at hl hb ⊢;have hlen:=congrArg List.length hl;cases post with
 | nil=>
   simp only[List.append_nil,List.length_append,List.length_nil] at hlen
   repeat' (first|refine aR ?_|((with_reducible refine aC ?_);first|refine aV hin ?_)|refine aX ?_|with_reducible intro _|refine aP ?_ ?_)
   all_goals first|(exfalso;simp at*;omega)|(refine congrArg AV.bool ?_;unfold namedB;rw[hl,List.append_nil,hb];simp)
 | cons c post=>
   simp only[List.length_append,List.length_cons] at hlen;have hn:letB c=decide (97≤(c.toNat:Int)∧(c.toNat:Int)≤122):=rfl;have hbad:letB c=false→namedB s=false:=fun h=>by unfold namedB;rw[hl];simp[h]
   repeat' (first|refine aR ?_|(refine w_ixP (f:=fun b:UInt8=>[AV.int .u8 (b.toNat:Int)]) hl rfl rfl ?_)|refine aX ?_|with_reducible intro _|refine aP ?_ ?_)
   · exact congrArg AV.bool (hbad (by rw[hn];simp;omega)).symm
   · exact congrArg AV.bool (hbad (by rw[hn];simp;omega)).symm
   · exact q_loop (pre++[c],post) ⟨by show s.data.toList=_;rw[hl];simp,by show (pre++[c]).all letB=true;rw[List.all_append,hb];simp[hn];omega⟩ (by simp) (slots_cons (by show AV.int .i64 _=AV.int .i64 _;refine int_eq ?_;simp) slots_nil) trivial aK aK
theorem formed_c(d:Dl)(hk:inB d.kind 1 6=true):FV 163 [dlA d] (.bool (formD d)):=by
 obtain⟨k1,k2⟩:=inB_ex hk;obtain⟨kind,bag,other,wood,count⟩:=d;dsimp only at k1 k2;have hc:kind=1∨kind=2∨kind=3∨kind=4∨kind=5∨kind=6:=by omega
 clear hk k1 k2;rcases hc with rfl|rfl|rfl|rfl|rfl|rfl
 all_goals
  refine RawC.walk (H:=hE Tryz.prog) ir163 Tryz.func163 rfl (by kernel_rfl) rfl ?_;unfold ir163
  repeat' (first|refine aR ?_|refine aX ?_|with_reducible intro _|refine aP ?_ ?_)
 all_goals first|(exfalso;simp at*;done)|(refine congrArg AV.bool ?_;simp[formD];done)|(refine congrArg AV.bool ?_;simp[formD,Bool.and_assoc];done)
theorem checks_c:RawC Tryz.prog 162 [] (sg []) (SR (fun (x:Nat) v=>v= .map 1 x) (fun x=>[(1,(x,.row [.mpv ([1,2,3,4,5,6].map (AV.int .i64)) [.clo (.func 202) [] [],.clo (.func 203) [] [],.clo (.func 204) [] [],.clo (.func 205) [] [],.clo (.func 206) [] [],.clo (.func 207) [] []]]))])):=by
 refine wk ir162 Tryz.func162 ?_;unfold ir162
 repeat' (first
  | with_reducible (first|refine Rd.p ?_|refine w_alt ?_ ?_|refine zO ?_|refine zE0 ?_)
  | with_reducible (first|refine zI fun y hy=>?_|refine zL ?_|refine zS ?_|refine zA fun _=>?_|refine zV ?_|refine zC ?_|refine zG ?_|refine zU ?_|refine zG0 ?_|refine zU0 ?_|refine zF ?_)
  | with_reducible (first|refine zX ?_|refine zD fun _=>?_|refine zD0 ?_|refine zN ?_|refine zF0 ?_|refine zX0 ?_|refine z1 ?_|refine z2 ?_|refine z3 ?_|refine z4 ?_|refine z5 ?_|refine z6 ?_|refine z7 ?_|refine z8 ?_|refine y1 ?_|refine y2 ?_|refine y3 ?_|refine y4 ?_|refine y5 ?_|refine y6 ?_|refine y7 ?_|refine y8 ?_|refine Rt.p (fun _=>?_) fun _=>?_)
  | ((with_reducible apply w_ixM);(focus exact rfl);(focus exact rfl);case' hk=>intro y hy)|((with_reducible (first | apply w_val | apply q_ends));(focus exact rfl)))
 exact⟨_,rfl,rfl,trivial⟩
def ir112:IFn:= ⟨100,[(2,none)],(sO [oo 1 (.box 2 0),oM 2 (kI 0)] (.seq (.blk 0 (sO [oF 15 0 1,oL 16 15,oN 17 16,oB 18 .eql 17 (kI 0),oM 14 18] (.cnd 14 (sO [oM 2 (kI 6)] .ret) (sO [oF 20 0 1,oL 21 20,oN 22 21,oB 23 .gtr 22 (kI 6),oM 19 23] (.cnd 19 (sO [oM 2 (kI 8)] .ret) .skip))))) (.seq (sO [oF 24 0 1,oL 25 24,oN 26 25,oM 27 (kI 0)] (.blk 1 (.loop (sO [oB 28 .lss 27 26] (.seq (.cnd 28 .skip (.exit 1)) (.seq (.blk 2 (sO [oM 29 27,oA 30 2 25 27,oo 31 (.ld 2 true 30),oo 4 (.new [(.str ByteArray.empty),z0]),oM 3 29,oS 2 4 31] (.seq (sO [oF 32 0 4,oL 33 32,oC 34 160 [33],oo 35 (.not 34)] (.cnd 35 (sO [oM 2 (kI 3)] .ret) .skip)) (.seq (sO [oF 36 0 1,oL 37 36,oM 38 3,oo 39 (.slS 2 37 none (some 38) none),oN 40 39,oM 41 (kI 0)] (.blk 3 (.loop (sO [oB 42 .lss 41 40] (.seq (.cnd 42 .skip (.exit 3)) (.seq (.blk 4 (sO [oA 43 2 39 41,oo 44 (.ld 2 true 43),oo 6 (.new [(.str ByteArray.empty),z0]),oS 2 6 44] (sO [oF 45 0 6,oL 46 45,oF 47 0 4,oL 48 47,oB 49 .eql 46 48] (.cnd 49 (sO [oM 2 (kI 9)] .ret) .skip)))) (.ops [oB 50 .add 41 (kI 1),oM 41 50]))))))) (sO [oF 51 1 4,oL 52 51,oC 53 161 [52,(kI 0),(kI 9)],oo 54 (.not 53)] (.cnd 54 (sO [oM 2 (kI 2)] .ret) .skip)))))) (.ops [oB 55 .add 27 (kI 1),oM 27 55]))))))) (.seq (sO [oF 56 1 1,oL 57 56,oN 58 57,oB 59 .gtr 58 (kI 24)] (.cnd 59 (sO [oM 2 (kI 8)] .ret) .skip)) (.seq (sO [⟨none,none,(.kil 64)⟩] (sO [oF 60 0 1,oL 61 60,oN 62 61,oo 63 (.bld [z0,z0,z0,(.bool false),(.bool false),(.bool false),(.bool false),(.bool false),(.bool false),z0,z0,z0,z0] [(0,1,62)])] (.alt (.ops [oC 65 162 [],oK 60 61,oo 64 (.box 13 63),oM 7 64,oM 8 65]) (.ops [oo 64 (.box 13 63),oC 65 162 [],oK 60 61,oM 7 64,oM 8 65])))) (.seq (sO [oF 66 1 1,oL 67 66,oN 68 67,oM 69 (kI 0)] (.blk 5 (.loop (sO [oB 70 .lss 69 68] (.seq (.cnd 70 .skip (.exit 5)) (.seq (.blk 6 (sO [oA 71 5 67 69,oo 72 (.ld 5 true 71),oo 10 (.new [z0,z0,z0,z0,z0]),oS 5 10 72] (sO [oM 74 8,oF 75 0 10,oL 76 75,oo 77 (.mlk .i .nfn true 74 76),oM 73 77,oE 78 0 73,oE 79 1 73,oM 11 78,oM 12 79] (.seq (.blk 7 (sO [oM 81 12,oo 82 (.not 81),oM 80 82] (.cnd 80 (sO [oM 2 (kI 4)] .ret) (sO [oo 84 (.ld 5 true 10),oC 85 163 [84],oo 86 (.not 85),oM 83 86] (.cnd 83 (sO [oM 2 (kI 3)] .ret) .skip))))) (sO [oM 87 11,oM 88 7,oo 89 (.ld 5 true 10),oo 90 (.callV 87 [88,89]),oM 13 90] (sO [oM 91 13,oB 92 .neq 91 (kI 0)] (.cnd 92 (sO [oM 93 13,oM 2 93] .ret) .skip))))))) (.ops [oB 94 .add 69 (kI 1),oM 69 94]))))))) (.seq (sO [oM 95 7,oo 96 (.nck 95),oF 97 2 96,oL 98 97,oB 99 .eql 98 (kI 0)] (.cnd 99 (sO [oM 2 (kI 6)] .ret) .skip)) (sO [oM 2 (kI 0)] .ret))))))))⟩
def fnK(k:Int):Nat:=if k=1 then 202 else if k=2 then 203 else if k=3 then 204 else if k=4 then 205 else if k=5 then 206 else 207
def ckVs:List AV:=[.clo (.func 202) [] [],.clo (.func 203) [] [],.clo (.func 204) [] [],.clo (.func 205) [] [],.clo (.func 206) [] [],.clo (.func 207) [] []]
def ckKs:List Int:=[1,2,3,4,5,6]
section
variable {P:Program} {K:(Nat→AV)→Sig→Prop} {e:Nat→AV} {σ:Sig} {m k:IOpd} {r:List IStep} {d i h:Nat} {a:Int}
theorem w_mlkT(hm:m.ev e= .map i h)(hσ:σ i=(h,.row [.mpv (ckKs.map (AV.int .i64)) ckVs]))(hk:k.ev e= .int .i64 a)(ha:inB a 1 6=true)(hK:stepsW P r K (upd e d (.tup [.clo (.func (fnK a)) [] [],.bool true])) σ):stepsW P (⟨some d,none,.mlk .i .nfn true m k⟩::r) K e σ:=by
 refine w_det (p:=h=h) (v:=fun _=> .tup [.clo (.func (fnK a)) [] [],.bool true]) (σ':=fun _=>σ) (fun _=>?_) rfl fun _=>hK;show mlkO .i .nfn true σ (k.ev e) (m.ev e)=_
 rw[hm,hk];simp only[mlkO,mapR,hσ,findI];obtain⟨a1,a2⟩:=inB_ex ha;have hc:a=1∨a=2∨a=3∨a=4∨a=5∨a=6:=by omega
 rcases hc with rfl|rfl|rfl|rfl|rfl|rfl<;>rfl
theorem w_mlkN(hm:m.ev e= .map i h)(hσ:σ i=(h,.row [.mpv (ckKs.map (AV.int .i64)) ckVs]))(hk:k.ev e= .int .i64 a)(ha:inB a 1 6=false)(hK:stepsW P r K (upd e d (.tup [.nfn,.bool false])) σ):stepsW P (⟨some d,none,.mlk .i .nfn true m k⟩::r) K e σ:=by
 refine w_det (p:=h=h) (v:=fun _=> .tup [.nfn,.bool false]) (σ':=fun _=>σ) (fun _=>?_) rfl fun _=>hK;show mlkO .i .nfn true σ (k.ev e) (m.ev e)=_
 rw[hm,hk];simp only[mlkO,mapR,hσ,findI];have hc:=inB_f.1 ha;rw[if_neg (by unfold ckKs;simp;omega)];rfl
end
theorem deal_c(g n:Nat)(d:Dl)(t:Tb)(hn:n≤6)(h:tbOK t)(hk:inB d.kind 1 6=true):RawC Tryz.prog (fnK d.kind) [.ref 1000 g 0,dlA d] (sg (ckS g n t)) (SR (fun t' v=>v= .int .i64 (dealE n d t)∧(dealE n d t=0→dealT d t=t')) (ckS g n)):=by
 obtain⟨k1,k2⟩:=inB_ex hk;unfold fnK dealE dealT;by_cases e1:d.kind=1
 · simp only[if_pos e1];exact cktrial_c g n d t hn h
 simp only[if_neg e1];by_cases e2:d.kind=2
 · simp only[if_pos e2];exact ckmix_c g n d t hn h
 simp only[if_neg e2];by_cases e3:d.kind=3
 · simp only[if_pos e3];exact ckpour_c g n d t hn h
 simp only[if_neg e3];by_cases e4:d.kind=4
 · simp only[if_pos e4];exact ckaside_c g n d t hn h
 simp only[if_neg e4];by_cases e5:d.kind=5
 · simp only[if_pos e5];exact ckpass_c g n d t hn h
 simp only[if_neg e5];exact ckplace_c g n d t hn h
theorem w_slPre{P:Program}{K:(Nat→AV)→Sig→Prop}{e:Nat→AV}{σ:Sig}{α:Type}{f:α→List AV}{l pre post:List α}{d sz:Nat}{t:Tag}{x y:IOpd}{r:List IStep}(hl:l=pre++post)(hx:x.ev e= .slc sz (l.map f) t)(hy:y.ev e= .int .i64 (pre.length:Int))(hk:stepsW P r K (upd e d (.slc sz (pre.map f) .non)) σ):stepsW P (⟨some d,none,.slS sz x none (some y) none⟩::r) K e σ:=by
 refine w_slM (a:=0) (b:=(pre.length:Int)) hx rfl (by show (match y.ev e with | .int _ i=>some i | _=>none)=_;rw[hy]) ⟨Int.le_refl _,by omega,by rw[hl,List.length_append];omega⟩ ?_;have e1:(l.drop (0:Int).toNat).take ((pre.length:Int)-0).toNat=pre:=by rw[hl];simp
 rw[e1];exact hk
theorem gCheck_c(G:Gm)(hw:G.ws.length<1000)(hd:G.ds.length<1000)(hs:∀w∈G.ws,w.name.size≤1000):FV 112 [gmA G] (.int .i64 (gmErr G)):=by
 obtain⟨B,hB⟩:∃B,gmErr G=B:=⟨_,rfl⟩;rw[hB];unfold gmErr at hB;by_cases h0:G.ws=[]
 · rw[if_pos h0] at hB;subst hB;have hl:G.ws.length=0:=by rw[h0];rfl
   refine wk ir112 Tryz.func112 ?_;unfold ir112
   repeat' (first|refine aR ?_|with_reducible refine zI fun y hy=>?_|refine aX ?_|with_reducible intro _|with_reducible refine zJ ?_ fun y hy=>?_|refine aP ?_ ?_)
   all_goals exact aZ
 rw[if_neg h0] at hB;have hl0:G.ws.length≠0:=fun h=>h0 (List.eq_nil_of_length_eq_zero h);by_cases h6:6<G.ws.length
 · rw[if_pos h6] at hB;subst hB;refine wk ir112 Tryz.func112 ?_;unfold ir112
   repeat' (first|refine aR ?_|with_reducible refine zI fun y hy=>?_|refine aX ?_|with_reducible intro _|with_reducible refine zJ ?_ fun y hy=>?_|refine aP ?_ ?_)
   all_goals exact aZ
 rw[if_neg h6] at hB;refine wk ir112 Tryz.func112 ?_;unfold ir112
 repeat' (first|refine aR ?_|with_reducible refine zI fun y hy=>?_|refine aX ?_|with_reducible intro _|with_reducible refine zJ ?_ fun y hy=>?_|refine aP ?_ ?_)
 all_goals try (exfalso;omega)
 rename_i g1;refine w_loopK [1,25,26] [1] (fun x:List Wd×List Wd=>G.ws=x.1++x.2∧wsErr [] G.ws=wsErr x.1 x.2) (fun x=>x.2.length) (fun x=>[(27,.int .i64 x.1.length)]) (fun _=>[]) ([],G.ws) ⟨rfl,rfl⟩ ⟨rfl,trivial⟩ trivial ?_;rintro⟨pre,post⟩ ⟨hl,he⟩ e σ;dsimp only at hl he ⊢;have hlen:=congrArg List.length hl;rw[List.length_append] at hlen;cases post with
 | nil=>
   simp only[List.length_nil] at hlen;rw[if_pos (by rw[he];rfl)] at hB;by_cases h24:24<G.ds.length
   · rw[if_pos h24] at hB;subst hB
     repeat' (first|refine aR ?_|with_reducible refine zI fun y hy=>?_|refine aX ?_|with_reducible intro _|with_reducible refine zJ ?_ fun y hy=>?_|refine aP ?_ ?_)
     all_goals exact aZ
   rw[if_neg h24] at hB
   repeat' (first|refine aR ?_|with_reducible refine zI fun y hy=>?_|((with_reducible refine aC ?_);first|(refine ACall.liftS checks_c [] (some 1) rfl rfl rfl trivial (fun _=>rfl) ?_;rintro gm _ rfl))|refine aX ?_|with_reducible intro _|with_reducible refine zJ ?_ fun y hy=>?_|refine aP ?_ ?_)
   all_goals try (exfalso;omega)
   all_goals
    rename_i g64;refine w_loopK [7,8,67,68] [] (fun x:List Dl×List Dl×Tb=>G.ds=x.1++x.2.1∧tbOK x.2.2∧(if dsErr G.ws.length x.2.2 x.2.1=0 then (if (dsTab x.2.2 x.2.1).cens=0 then 6 else 0) else dsErr G.ws.length x.2.2 x.2.1)=B) (fun x=>x.2.1.length) (fun x=>[(69,.int .i64 x.1.length)]) (fun x=>[(64,(g64,.row (ckRow G.ws.length x.2.2))),(65,(gm,.row [.mpv (ckKs.map (AV.int .i64)) ckVs]))]) ([],G.ds,tb0) ⟨rfl,tb0_ok,hB⟩ ⟨rfl,trivial⟩ ⟨rfl,rfl,trivial⟩ ?_;rintro⟨pre,post,t⟩ ⟨hl2,hok,hB2⟩ e2 σ2;dsimp only at hl2 hok hB2 ⊢;have hlen2:=congrArg List.length hl2;rw[List.length_append] at hlen2;cases post with
    | nil=>
      simp only[List.length_nil] at hlen2;have hB2:(if t.cens=0 then (6:Int) else 0)=B:=hB2;have htc:=hok.c;by_cases hc0:t.cens=0
      · rw[if_pos hc0] at hB2;subst hB2
        repeat' (first|refine aR ?_|with_reducible refine zI fun y hy=>?_|refine aX ?_|with_reducible intro _|with_reducible refine zJ ?_ fun y hy=>?_|refine aP ?_ ?_)
        all_goals exact aZ
      · rw[if_neg hc0] at hB2;subst hB2
        repeat' (first|refine aR ?_|with_reducible refine zI fun y hy=>?_|refine aX ?_|with_reducible intro _|with_reducible refine zJ ?_ fun y hy=>?_|refine aP ?_ ?_)
        all_goals first|(exfalso;omega)|rfl
    | cons d post=>
      simp only[List.length_cons] at hlen2;cases hk6:inB d.kind 1 6 with
      | false=>
        have hdl:dlErr G.ws.length d t=4:=by rw[dlErr,hk6];rfl
        have hds:dsErr G.ws.length t (d::post)=4:=by rw[dsErr,hdl];rfl
        rw[hds,if_neg (by decide)] at hB2;subst hB2
        repeat' (first|refine aR ?_|(first|refine w_ixP (f:=fun d:Dl=>[AV.int .i64 d.kind,.int .i64 d.bag,.int .i64 d.other,.int .i64 d.wood,.int .i64 d.count]) hl2 rfl rfl ?_|refine w_mlkN rfl rfl rfl hk6 ?_)|with_reducible refine zI fun y hy=>?_|refine aX ?_|with_reducible intro _|with_reducible refine zJ ?_ fun y hy=>?_|refine aP ?_ ?_)
        all_goals first|(exfalso;omega)|rfl
      | true=>
      have hfo:=formed_c d hk6;cases hfd:formD d with
      | false=>
        have hdl:dlErr G.ws.length d t=3:=by rw[dlErr,hk6,if_pos rfl,hfd];rfl
        have hds:dsErr G.ws.length t (d::post)=3:=by rw[dsErr,hdl];rfl
        rw[hds,if_neg (by decide)] at hB2;subst hB2;rw[hfd] at hfo
        repeat' (first|refine aR ?_|(first|refine w_ixP (f:=fun d:Dl=>[AV.int .i64 d.kind,.int .i64 d.bag,.int .i64 d.other,.int .i64 d.wood,.int .i64 d.count]) hl2 rfl rfl ?_|refine w_mlkT rfl rfl rfl hk6 ?_)|with_reducible refine zI fun y hy=>?_|((with_reducible refine aC ?_);first|refine aV hfo ?_)|refine aX ?_|with_reducible intro _|with_reducible refine zJ ?_ fun y hy=>?_|refine aP ?_ ?_)
        all_goals first|(exfalso;omega)|rfl
      | true=>
      have hdl:dlErr G.ws.length d t=dealE G.ws.length d t:=by rw[dlErr,hk6,if_pos rfl,hfd,if_pos rfl]
      rw[hfd] at hfo;have hC:=deal_c g64 G.ws.length d t (by omega) hok hk6;have hok2:=dealT_ok (n:=G.ws.length) hk6 hok;rw[dsErr,dsTab,hdl] at hB2;by_cases hE0:dealE G.ws.length d t=0
      · rw[if_pos hE0] at hB2;rw[hE0] at hC;have hok2:=hok2 hE0
        repeat' (first|refine aR ?_|(first|refine w_ixP (f:=fun d:Dl=>[AV.int .i64 d.kind,.int .i64 d.bag,.int .i64 d.other,.int .i64 d.wood,.int .i64 d.count]) hl2 rfl rfl ?_|refine w_mlkT rfl rfl rfl hk6 ?_)|with_reducible refine zI fun y hy=>?_|((with_reducible refine aC ?_);first|refine aV hfo ?_|(refine ACall.ck hC rfl rfl rfl ?_;rintro _ t' ⟨rfl,ht'⟩;obtain rfl:=ht' rfl))|refine aX ?_|with_reducible intro _|with_reducible refine zJ ?_ fun y hy=>?_|refine aP ?_ ?_)
        all_goals first|(exfalso;omega)|exact q_loop (pre++[d],post,dealT d t) ⟨by show G.ds=_;rw[hl2];simp,hok2,hB2⟩ (by simp) (slots_cons (by show AV.int .i64 _=AV.int .i64 _;refine int_eq ?_;simp) slots_nil) ⟨rfl,rfl,trivial⟩ aK aK
      · rw[if_neg hE0,if_neg hE0] at hB2;generalize dealE G.ws.length d t=E at*;subst hB2
        repeat' (first|refine aR ?_|(first|refine w_ixP (f:=fun d:Dl=>[AV.int .i64 d.kind,.int .i64 d.bag,.int .i64 d.other,.int .i64 d.wood,.int .i64 d.count]) hl2 rfl rfl ?_|refine w_mlkT rfl rfl rfl hk6 ?_)|with_reducible refine zI fun y hy=>?_|((with_reducible refine aC ?_);first|refine aV hfo ?_|(refine ACall.ck hC rfl rfl rfl ?_;rintro _ t' ⟨rfl,ht'⟩))|refine aX ?_|with_reducible intro _|with_reducible refine zJ ?_ fun y hy=>?_|refine aP ?_ ?_)
        all_goals first|(exfalso;omega)|rfl
 | cons w post=>
   simp only[List.length_cons] at hlen;have hwm:=hs w (by rw[hl];simp);have hnm:=gnamed_c w.name hwm;have hfm:=gin_c w.fam 0 9;cases hnb:namedB w.name with
   | false=>
     have h3:wsErr [] G.ws=3:=by rw[he,wsErr,hnb];rfl
     rw[h3,if_neg (by decide)] at hB;subst hB;rw[hnb] at hnm
     repeat' (first|refine aR ?_|(first|refine w_ixP (f:=fun w:Wd=>[AV.str w.name,.int .i64 w.fam]) hl rfl rfl ?_)|with_reducible refine zI fun y hy=>?_|((with_reducible refine aC ?_);first|refine aV hnm ?_)|refine aX ?_|with_reducible intro _|with_reducible refine zJ ?_ fun y hy=>?_|refine aP ?_ ?_)
     all_goals first|(exfalso;omega)|rfl
   | true=>
   rw[hnb] at hnm
   repeat' (first|refine aR ?_|(first|refine w_ixP (f:=fun w:Wd=>[AV.str w.name,.int .i64 w.fam]) hl rfl rfl ?_|refine w_slPre (f:=fun w:Wd=>[AV.str w.name,.int .i64 w.fam]) hl rfl rfl ?_)|with_reducible refine zI fun y hy=>?_|((with_reducible refine aC ?_);first|refine aV hnm ?_)|refine aX ?_|with_reducible intro _|with_reducible refine zJ ?_ fun y hy=>?_|refine aP ?_ ?_)
   all_goals try (exfalso;omega)
   rename_i g4;refine w_loopK [1,4,25,26,27,39,40] [1,4] (fun x:List Wd×List Wd=>pre=x.1++x.2∧x.1.any (fun x=>decide (x.name=w.name))=false) (fun x=>x.2.length) (fun x=>[(41,.int .i64 x.1.length)]) (fun _=>[]) ([],pre) ⟨rfl,rfl⟩ ⟨rfl,trivial⟩ trivial ?_;rintro⟨p1,p2⟩ ⟨hl3,hany⟩ e3 σ3;dsimp only at hl3 hany ⊢;have hlen3:=congrArg List.length hl3;rw[List.length_append] at hlen3;cases p2 with
   | nil=>
     simp only[List.length_nil] at hlen3;rw[List.append_nil] at hl3;rw[←hl3] at hany;cases hfb:inB w.fam 0 9 with
     | false=>
       have h2:wsErr [] G.ws=2:=by rw[he,wsErr,if_pos hnb,hany,hfb];rfl
       rw[h2,if_neg (by decide)] at hB;subst hB;rw[hfb] at hfm
       repeat' (first|refine aR ?_|with_reducible refine zI fun y hy=>?_|((with_reducible refine aC ?_);first|refine aV hfm ?_)|refine aX ?_|with_reducible intro _|with_reducible refine zJ ?_ fun y hy=>?_|refine aP ?_ ?_)
       all_goals first|(exfalso;omega)|rfl
     | true=>
       have h2:wsErr pre (w::post)=wsErr (pre++[w]) post:=by rw[wsErr,if_pos hnb,hany,hfb];rfl
       rw[h2] at he;rw[hfb] at hfm
       repeat' (first|refine aR ?_|with_reducible refine zI fun y hy=>?_|((with_reducible refine aC ?_);first|refine aV hfm ?_)|refine aX ?_|with_reducible intro _|with_reducible refine zJ ?_ fun y hy=>?_|refine aP ?_ ?_)
       all_goals first|(exfalso;omega)|exact q_loop (pre++[w],post) ⟨by show G.ws=_;rw[hl];simp,he⟩ (by simp) (slots_cons (by show AV.int .i64 _=AV.int .i64 _;refine int_eq ?_;simp) slots_nil) trivial aK aK
   | cons x p2=>
     simp only[List.length_cons] at hlen3;by_cases hx:x.name=w.name
     · have h9:wsErr [] G.ws=9:=by rw[he,wsErr,if_pos hnb,if_pos];rw[hl3,List.any_append,List.any_cons,decide_eq_true hx];simp
       rw[h9,if_neg (by decide)] at hB;subst hB
       repeat' (first|refine aR ?_|(first|refine w_ixP (f:=fun w:Wd=>[AV.str w.name,.int .i64 w.fam]) hl3 rfl rfl ?_)|with_reducible refine zI fun y hy=>?_|refine aX ?_|with_reducible intro _|with_reducible refine zJ ?_ fun y hy=>?_|refine aP ?_ ?_)
       all_goals exact aZ
     · repeat' (first
        | with_reducible (first|refine Rd.p ?_|refine w_alt ?_ ?_|refine zE ?_|refine zE0 ?_)
        | (first|refine w_ixP (f:=fun w:Wd=>[AV.str w.name,.int .i64 w.fam]) hl3 rfl rfl ?_)
        | with_reducible (first|refine zI fun y hy=>?_|refine zL ?_|refine zS ?_|refine zA fun _=>?_|refine zV ?_|refine zC ?_|refine zG ?_|refine zU ?_|refine zG0 ?_|refine zU0 ?_|refine zF ?_)
        | with_reducible (first|refine zX ?_|refine zD fun _=>?_|refine zD0 ?_|refine zN ?_|refine zF0 ?_|refine zX0 ?_|refine z1 ?_|refine z2 ?_|refine z3 ?_|refine z4 ?_|refine z5 ?_|refine z6 ?_|refine z7 ?_|refine z8 ?_|refine y1 ?_|refine y2 ?_|refine y3 ?_|refine y4 ?_|refine y5 ?_|refine y6 ?_|refine y7 ?_|refine y8 ?_|refine Rt.p (fun _=>?_) fun _=>?_)
        | ((with_reducible apply w_ixM);(focus exact rfl);(focus exact rfl);case' hk=>intro y hy)|((with_reducible (first | apply w_val | apply q_ends));(focus exact rfl)))
       all_goals first|(exfalso;omega)|exact absurd ‹x.name=w.name› hx|exact q_loop (p1++[x],p2) ⟨by show pre=_;rw[hl3];simp,by show (p1++[x]).any _=false;rw[List.any_append,hany,List.any_cons,decide_eq_false hx];rfl⟩ (by simp) (slots_cons (by show AV.int .i64 _=AV.int .i64 _;refine int_eq ?_;simp) slots_nil) trivial aK aK
def ir46:IFn:= ⟨30,[(2,some (1,false)),(3,some (1,false)),(4,some (1,false))],(sO [oo 1 (.box 2 0),oo 2 (.new [.nsl]),oo 3 (.new [.nsl]),oo 4 (.new [z0])] (.seq (sO [oo 8 (.ld 2 true 1),oC 9 112 [8],oM 5 9] (sO [oM 10 5,oB 11 .neq 10 (kI 0)] (.cnd 11 (sO [oM 12 5,⟨none,none,(.st 1 2 (.k .nsl))⟩,⟨none,none,(.st 1 3 (.k .nsl))⟩,oS 1 4 12] .ret) .skip))) (.seq (sO [oo 13 (.ld 2 true 1),oC 14 113 [13]] (.blk 0 (.rf 14 [15,16] (sO [oM 6 15] (.ops [oM 7 16])) (.blk 1 (.seq (sO [oL 17 2,oN 18 17,oB 19 .eql 18 (kI 5000)] (.cnd 19 (sO [⟨none,none,(.st 1 2 (.k .nsl))⟩,⟨none,none,(.st 1 3 (.k .nsl))⟩,oS 1 4 (kI 8)] .ret) .skip)) (.ops [oL 20 2,oM 21 6,oo 22 (.bsl 1 [[.nsl]] [(0,21)]),oL 24 3,oM 25 7,oo 26 (.bsl 1 [[z0]] [(0,25)]),oo 23 (.app 1 24 20 22 23),oK 3 24,oo 27 (.app 1 8 24 26 27),oS 1 2 23,oS 1 3 27])))))) (sO [oL 28 2,oL 29 3,oS 1 2 28,oK 3 29,oS 1 3 29,oS 1 4 (kI 0)] .ret))))⟩
theorem Sub.tupM{l m:List AV}(h:SubL l m):Sub (.tup l) (.tup m):=fun G v ⟨vs,h1,h2⟩=>⟨vs,h1,SubL.rel h h2⟩
def crsO(G:Gm):List (List Int×Int)×Int:=if gmErr G=0 then (if (crsG G).length≤5000 then (crsG G,0) else ([],8)) else ([],gmErr G)
def rV(l:List (List Int×Int)):AV:=match l with
 | []=> .nsl
 | _::_=> .slc 1 (llR (l.map (·.1))) .non
def rW(l:List (List Int×Int)):AV:=match l with
 | []=> .nsl
 | _::_=> .slc 1 (iR (l.map (·.2))) .non
abbrev crsA(l:List (List Int×Int))(e:Int):AV:= .tup [rV l,rW l,.int .i64 e]
theorem sub_crsA(l:List (List Int×Int))(e:Int):Sub (crsA l e) (.tup [.slc 1 (llR (l.map (·.1))) .non,.slc 1 (iR (l.map (·.2))) .non,.int .i64 e]):=by
 cases l with
 | nil=>exact Sub.tupM (.cons Sub.nil (.cons Sub.nil (.cons (Sub.refl _) .nil)))
 | cons=>exact Sub.refl _
def takV(l:List (List Int×Int))(g:Nat):AV:=match l with
 | []=> .nsl
 | _::_=> .slc 1 (llR (l.map (·.1))) (.own 23 g)
def takW(l:List (List Int×Int))(g:Nat):AV:=match l with
 | []=> .nsl
 | _::_=> .slc 1 (iR (l.map (·.2))) (.own 27 g)
def takX(l:List (List Int×Int))(g:Nat):Nat×Res:=match l with
 | []=>(0,.dead)
 | _::_=>(g,.row [])
theorem courses_f(G:Gm)(I:List Sp→Wt→Prop)(hw:G.ws.length<1000)(hd:G.ds.length<1000)(hs:∀w∈G.ws,w.name.size≤1000)(hI:gmErr G=0→GmIn G I):FV 46 [gmA G] (crsA (crsO G).1 (crsO G).2):=by
 have hck:=gCheck_c G hw hd hs;obtain⟨B,hB⟩:∃B,crsO G=B:=⟨_,rfl⟩;rw[hB];unfold crsO at hB;by_cases h0:gmErr G=0
 rotate_left
 · rw[if_neg h0] at hB;subst hB;refine wk ir46 Tryz.func46 ?_;unfold ir46
   repeat' (first|refine aR ?_|with_reducible refine zI fun y hy=>?_|((with_reducible refine aC ?_);first|refine aV hck ?_)|refine aX ?_|with_reducible intro _|with_reducible refine zJ ?_ fun y hy=>?_|refine aP ?_ ?_)
   all_goals first|(exfalso;omega)|(simp;done)|rfl
 rw[if_pos h0] at hB;have hG:=hI h0;rw[h0] at hck;refine wk ir46 Tryz.func46 ?_;unfold ir46
 repeat' (first|refine aR ?_|with_reducible refine zI fun y hy=>?_|((with_reducible refine aC ?_);first|refine aV hck ?_|refine aV (courses_c G) ?_)|refine aX ?_|with_reducible intro _|with_reducible refine zJ ?_ fun y hy=>?_|refine aP ?_ ?_)
 all_goals try (exfalso;omega)
 rename_i g1 g2 g3 g4;refine w_rfM encC (crsG G) rfl (courses_it G I hG) (fun _=>rfl) [4] (fun (rest:List (List Int×Int)) (y:List (List Int×Int)×Nat×Nat)=>y.1++rest=crsG G∧y.1.length≤5000) (fun y=>[(2,(g2,.row [takV y.1 y.2.1])),(3,(g3,.row [takW y.1 y.2.2])),(23,takX y.1 y.2.1),(27,takX y.1 y.2.2)]) ([],0,0) ⟨rfl,by simp⟩ ⟨rfl,rfl,rfl,rfl,trivial⟩ ?_ ?_
 · rintro⟨c,n⟩ rest ⟨l,ga,gb⟩ ⟨hl,h5⟩ σ';dsimp only at hl h5 ⊢;have hlen:=congrArg List.length hl;rw[List.length_append,List.length_cons] at hlen;by_cases hf:l.length=5000
   · rw[if_neg (by omega)] at hB;subst hB;cases l with
     | nil=>exact absurd hf (by decide)
     | cons x l=>
       have hml:(List.map (fun x=>x.1) (x::l)).length=5000:=by rw[List.length_map];exact hf
       repeat' (first|refine aR ?_|with_reducible refine zI fun y hy=>?_|refine aX ?_|with_reducible intro _|with_reducible refine zJ ?_ fun y hy=>?_|refine aP ?_ ?_)
       all_goals first|(exfalso;omega)|(simp;done)|rfl
   · cases l with
     | nil=>
       repeat' (first|refine aR ?_|with_reducible refine zI fun y hy=>?_|refine aX ?_|with_reducible intro _|with_reducible refine zJ ?_ fun y hy=>?_|refine aP ?_ ?_)
       all_goals try (exfalso;omega)
       all_goals
        rename_i ga' gb';exact q_rnd ([(c,n)],ga',gb') ⟨hl,by simp⟩ aS aK
     | cons x l=>
       have hml:(List.map (fun x=>x.1) (x::l)).length=(x::l).length:=by rw[List.length_map]
       have hml2:(List.map (fun x=>x.2) (x::l)).length=(x::l).length:=by rw[List.length_map]
       repeat' (first|refine aR ?_|with_reducible refine zI fun y hy=>?_|refine aX ?_|with_reducible intro _|with_reducible refine zJ ?_ fun y hy=>?_|refine aP ?_ ?_)
       all_goals try (exfalso;omega)
       all_goals
        rename_i ga' gb';have e1:llR (List.map (fun x=>x.1) (x::l)++[c])=llR ((x::l++[(c,n)]).map (·.1)):=by simp
        have e2:iR (List.map (fun x=>x.2) (x::l)++[n])=iR ((x::l++[(c,n)]).map (·.2)):=by simp
        exact q_rnd (x::l++[(c,n)],ga',gb') ⟨by show (x::l++[(c,n)])++rest=_;rw[List.append_assoc];exact hl,by show (x::l++[(c,n)]).length≤5000;rw[len_snoc];omega⟩ ⟨congrArg (fun z=>(g2,Res.row [AV.slc 1 z (.own 23 ga')])) e1,congrArg (fun z=>(g3,Res.row [AV.slc 1 z (.own 27 gb')])) e2,rfl,rfl,trivial⟩ aK
 · rintro⟨l,ga,gb⟩ ⟨hl,h5⟩ σ';dsimp only at hl h5 ⊢;rw[List.append_nil] at hl;rw[←hl,if_pos h5] at hB;subst hB;cases l with
   | nil=>
     repeat' (first|refine aR ?_|with_reducible refine zI fun y hy=>?_|refine aX ?_|with_reducible intro _|with_reducible refine zJ ?_ fun y hy=>?_|refine aP ?_ ?_)
     all_goals first|(exfalso;omega)|(simp;done)|rfl
   | cons x l=>
     repeat' (first|refine aR ?_|with_reducible refine zI fun y hy=>?_|refine aX ?_|with_reducible intro _|with_reducible refine zJ ?_ fun y hy=>?_|refine aP ?_ ?_)
     all_goals first|(exfalso;omega)|(simp;done)|rfl
def fct:Nat→Int
 | 0=>1
 | k+1=>(k+1:Nat)*fct k
theorem fct_pos:∀k,1≤fct k
 | 0=>Int.le_refl _
 | k+1=>by
   have h:=fct_pos k;show 1≤((k+1:Nat):Int)*fct k
   have:1*1≤((k+1:Nat):Int)*fct k:=Int.mul_le_mul (by omega) h (by decide) (by omega);omega
theorem fct12:fct 12=479001600:=by decide
structure bgT (n:Nat) (b:List Int) (B:List Int):Prop where
 l:B.length=24
 nn:∀v∈B,0≤v
 z:∀i w:Int,0≤i∧i≤3→(n:Int)≤w∧w≤5→bgAt B i w=0
 s:∀i:Int,0≤i∧i≤3→nSum 6 (fun w=>bgAt B i w)=atI b i
theorem bgAt_nn{B:List Int}(h:∀v∈B,0≤v)(i w:Int):0≤bgAt B i w:=by
 unfold bgAt;rw[List.getD_eq_getElem?_getD];cases hh:B[i.toNat*6+w.toNat]? with
 | none=>exact Int.le_refl _
 | some v=>exact h v (List.mem_of_getElem? hh)
theorem nSum6(f:Int→Int):nSum 6 f=f 0+f 1+f 2+f 3+f 4+f 5:=by simp[nSum]
theorem bgT.at{n:Nat}{b B:List Int}(h:bgT n b B){i w:Int}(hi:0≤i∧i≤3)(hw:0≤w∧w≤5):0≤bgAt B i w∧bgAt B i w≤atI b i:=by
 refine⟨bgAt_nn h.nn i w,?_⟩;have:=nSum_mem (n:=6) (f:=fun w=>bgAt B i w) (fun k _=>bgAt_nn h.nn i k) w.toNat (by omega);rw[h.s i hi] at this
 rwa [show ((w.toNat:Nat):Int)=w by omega] at this
theorem bgT.sum{n:Nat}{b B:List Int}(h:bgT n b B)(hn:n≤6){i:Int}(hi:0≤i∧i≤3):nSum n (fun w=>bgAt B i w)=atI b i:=by
 rw[←h.s i hi];have:∀m:Nat,n+m≤6→nSum (n+m) (fun w=>bgAt B i w)=nSum n (fun w=>bgAt B i w):=by
  intro m;induction m with
  | zero=>intro _;rfl
  | succ m ih=>
    intro hm;show nSum (n+m) (fun w=>bgAt B i w)+bgAt B i ((n+m:Nat):Int)=_
    rw[ih (by omega),h.z i _ hi (by omega)];omega
 have h6:=this (6-n) (by omega);rw[show n+(6-n)=6 by omega] at h6;exact h6.symm
theorem bgAt_add{B:List Int}(hl:B.length=24){i j x k w:Int}(hi:0≤i∧i≤3)(hj:0≤j∧j≤5)(hk:0≤k∧k≤3)(hw:0≤w∧w≤5):bgAt (bgAdd B i j x) k w=if k=i∧w=j then bgAt B i j+x else bgAt B k w:=by
 show (B.set (i.toNat*6+j.toNat) (bgAt B i j+x)).getD (k.toNat*6+w.toNat) 0=_
 rw[set_getD (by omega)];by_cases h:k=i∧w=j
 · rw[if_pos h,if_pos (by rw[h.1,h.2])]
 · rw[if_neg h,if_neg (by omega)];rfl
theorem bgAt_pour{B:List Int}{i j k w:Int}(hi:0≤i∧i≤3)(hj:0≤j∧j≤3)(hk:0≤k∧k≤3)(hw:0≤w∧w≤5):bgAt (bgPour B i j) k w=if k=j then bgAt B k w+bgAt B i w else if k=i then 0 else bgAt B k w:=by
 show (((List.range 24).map _).getD (k.toNat*6+w.toNat) 0:Int)=_
 rw[map24_get (by omega)];have e1:(k.toNat*6+w.toNat)/6=k.toNat:=by omega
 have e2:(k.toNat*6+w.toNat)%6=w.toNat:=by omega
 rw[e1,e2];by_cases h:k=j
 · rw[if_pos h,if_pos (by rw[h])];rfl
 · rw[if_neg h,if_neg (by omega)];by_cases h2:k=i
   · rw[if_pos h2,if_pos (by rw[h2])]
   · rw[if_neg h2,if_neg (by omega)];rfl
theorem atI_set{b:List Int}(hb:b.length=4){i k v:Int}(hi:0≤i∧i≤3)(hk:0≤k∧k≤3):atI (setI b i v) k=if k=i then v else atI b k:=by
 show (b.set i.toNat v).getD k.toNat 0=_
 rw[set_getD (by omega)];by_cases h:k=i
 · rw[if_pos h,if_pos (by rw[h])]
 · rw[if_neg h,if_neg (by omega)];rfl
theorem bgT.add{n:Nat}{b B:List Int}(h:bgT n b B)(hb:b.length=4)(hn:n≤6){i j x:Int}(hi:0≤i∧i≤3)(hj:0≤j∧j<n)(hx:0≤bgAt B i j+x):bgT n (setI b i (atI b i+x)) (bgAdd B i j x):=by
 refine⟨by unfold bgAdd;rw[List.length_set];exact h.l,fun v hv=>?_,fun k w hk hw=>?_,fun k hk=>?_⟩
 · unfold bgAdd at hv;rcases List.mem_or_eq_of_mem_set hv with hv|rfl
   · exact h.nn v hv
   · exact hx
 · rw[bgAt_add h.l hi (by omega) hk (by omega),if_neg (by omega)];exact h.z k w hk hw
 · rw[atI_set hb hi hk];have hs:=h.s k hk;rw[nSum6] at hs ⊢;try dsimp only at hs ⊢
   have hi':0≤j∧j≤5:=by omega
   rw[bgAt_add h.l hi hi' hk (by omega),bgAt_add h.l hi hi' hk (by omega),bgAt_add h.l hi hi' hk (by omega),bgAt_add h.l hi hi' hk (by omega),bgAt_add h.l hi hi' hk (by omega),bgAt_add h.l hi hi' hk (by omega)];by_cases e:k=i
   · subst e;rw[if_pos rfl];rcases (by omega:j=0∨j=1∨j=2∨j=3∨j=4∨j=5) with rfl|rfl|rfl|rfl|rfl|rfl
     all_goals simp only[true_and,Int.reduceEq,if_true,if_false]
     all_goals omega
   · simp only[e,false_and,if_false];exact hs
theorem bgT.pour{n:Nat}{b B:List Int}(h:bgT n b B)(hb:b.length=4){i j:Int}(hi:0≤i∧i≤3)(hj:0≤j∧j≤3)(hij:i≠j):bgT n (setI (setI b j (atI b j+atI b i)) i 0) (bgPour B i j):=by
 have hb2:(setI b j (atI b j+atI b i)).length=4:=by unfold setI;rw[List.length_set];exact hb
 refine⟨by simp[bgPour],fun v hv=>?_,fun k w hk hw=>?_,fun k hk=>?_⟩
 · unfold bgPour at hv;obtain⟨y,hy,rfl⟩:=List.mem_map.1 hv;have hg:∀p,0≤B.getD p 0:=fun p=>by
    rw[List.getD_eq_getElem?_getD];cases hh:B[p]? with
    | none=>exact Int.le_refl _
    | some v=>exact h.nn v (List.mem_of_getElem? hh)
   split
   · have:=hg y;have:=hg (i.toNat*6+y%6);omega
   · split
     · exact Int.le_refl _
     · exact hg y
 · rw[bgAt_pour hi hj hk (by omega),h.z k w hk hw,h.z i w hi hw];split
   · rfl
   · split<;>rfl
 · rw[atI_set hb2 hi hk,atI_set hb hj hk];have hs:=h.s k hk;have hsi:=h.s i hi;have hsj:=h.s j hj;rw[nSum6] at hs hsi hsj ⊢;try dsimp only at hs hsi hsj ⊢
   rw[bgAt_pour hi hj hk (by omega),bgAt_pour hi hj hk (by omega),bgAt_pour hi hj hk (by omega),bgAt_pour hi hj hk (by omega),bgAt_pour hi hj hk (by omega),bgAt_pour hi hj hk (by omega)];by_cases e:k=j
   · subst e;rw[if_neg (Ne.symm hij)];simp only[if_true];omega
   · by_cases e2:k=i
     · subst e2;simp only[e,if_false,if_true];rfl
     · simp only[e,e2,if_false];exact hs
def sumB(b:List Int):Int:=atI b 0+atI b 1+atI b 2+atI b 3
theorem sumB_set{b:List Int}(hb:b.length=4){i x:Int}(hi:0≤i∧i≤3):sumB (setI b i (atI b i+x))=sumB b+x:=by
 unfold sumB;rw[atI_set hb hi (by omega),atI_set hb hi (by omega),atI_set hb hi (by omega),atI_set hb hi (by omega)];rcases (by omega:i=0∨i=1∨i=2∨i=3) with rfl|rfl|rfl|rfl
 all_goals simp only[Int.reduceEq,if_true,if_false]
 all_goals omega
theorem setI_len{b:List Int}(hb:b.length=4)(i v:Int):(setI b i v).length=4:=by unfold setI;rw[List.length_set];exact hb
def spB(x:Sp)(b:List Int):List Int:=
 if x.2.1=true then setI b x.1.bag (atI b x.1.bag+ -1)
 else if x.1.kind=2 then setI b x.1.bag (atI b x.1.bag+x.1.count)
 else if x.1.kind=3 then setI (setI b x.1.other (atI b x.1.other+atI b x.1.bag)) x.1.bag 0 else b
def spM(x:Sp)(m:Int):Int:=if x.2.1=true then m else if x.1.kind=2 then m+x.1.count else m
structure spOK (n:Nat) (b:List Int) (m:Int) (x:Sp):Prop where
 d:x.2.1=true→(0≤x.1.bag∧x.1.bag≤3)∧1≤atI b x.1.bag
 h2:x.2.1=false→x.1.kind=2→(0≤x.1.bag∧x.1.bag≤3)∧(0≤x.1.wood∧x.1.wood<n)∧1≤x.1.count∧m+x.1.count≤12
 h3:x.2.1=false→x.1.kind=3→(0≤x.1.bag∧x.1.bag≤3)∧(0≤x.1.other∧x.1.other≤3)∧x.1.bag≠x.1.other
def runOK(n:Nat):List Sp→List Int→Int→Prop
 | [],_,_=>True
 | x::r,b,m=>spOK n b m x∧runOK n r (spB x b) (spM x m)
structure tbIn (b:List Int) (m:Int):Prop where
 l:b.length=4
 nn:∀i:Int,0≤i∧i≤3→0≤atI b i
 sm:sumB b≤m
 m:0≤m∧m≤12
theorem tbIn.le{b:List Int}{m:Int}(h:tbIn b m){i:Int}(hi:0≤i∧i≤3):atI b i≤sumB b:=by have h0:=h.nn 0 (by omega);have h1:=h.nn 1 (by omega);have h2:=h.nn 2 (by omega);have h3:=h.nn 3 (by omega);unfold sumB;rcases (by omega:i=0∨i=1∨i=2∨i=3) with rfl|rfl|rfl|rfl<;>omega
theorem tbIn.set{b:List Int}{m m' x i:Int}(h:tbIn b m)(hi:0≤i∧i≤3)(h0:0≤atI b i+x)(h1:sumB b+x≤m')(h2:0≤m'∧m'≤12):tbIn (setI b i (atI b i+x)) m':=by
 refine⟨setI_len h.l _ _,fun k hk=>?_,by rw[sumB_set h.l hi];exact h1,h2⟩;rw[atI_set h.l hi hk];split
 · exact h0
 · exact h.nn k hk
theorem tbIn.pour{b:List Int}{m i j:Int}(h:tbIn b m)(hi:0≤i∧i≤3)(hj:0≤j∧j≤3)(hij:i≠j):tbIn (setI (setI b j (atI b j+atI b i)) i 0) m∧sumB (setI (setI b j (atI b j+atI b i)) i 0)=sumB b:=by
 have hl:=setI_len h.l j (atI b j+atI b i);have he:atI (setI b j (atI b j+atI b i)) i=atI b i:=by rw[atI_set h.l hj hi,if_neg hij]
 have hs:sumB (setI (setI b j (atI b j+atI b i)) i 0)=sumB b:=by have:=sumB_set (x:= -atI b i) hl hi;rw[he,sumB_set h.l hj] at this;rw[show atI b i+ -atI b i=0 by omega] at this;rw[this];omega
 refine⟨⟨setI_len hl _ _,fun k hk=>?_,by rw[hs];exact h.sm,h.m⟩,hs⟩;rw[atI_set hl hi hk];split
 · exact Int.le_refl _
 · rw[atI_set h.l hj hk];split
   · have:=h.nn j hj;have:=h.nn i hi;omega
   · exact h.nn k hk
theorem tbIn.step{n:Nat}{b:List Int}{m:Int}{x:Sp}(h:tbIn b m)(hx:spOK n b m x):tbIn (spB x b) (spM x m)∧sumB (spB x b)-spM x m=sumB b-m-(if x.2.1=true then 1 else 0):=by
 unfold spB spM;by_cases h1:x.2.1=true
 · obtain⟨hb,ha⟩:=hx.d h1;rw[if_pos h1,if_pos h1,if_pos h1,sumB_set h.l hb];exact⟨h.set hb (by omega) (by have:=h.sm;omega) h.m,by omega⟩
 · have h1f:x.2.1=false:=by simpa using h1
   rw[if_neg h1,if_neg h1,if_neg h1];by_cases h2:x.1.kind=2
   · obtain⟨hb,hw,hc,hm⟩:=hx.h2 h1f h2;rw[if_pos h2,if_pos h2,sumB_set h.l hb];have:=h.nn _ hb;have:=h.sm;have:=h.m;exact⟨h.set hb (by omega) (by omega) (by omega),by omega⟩
   · rw[if_neg h2,if_neg h2];by_cases h3:x.1.kind=3
     · obtain⟨hb,ho,hne⟩:=hx.h3 h1f h3;rw[if_pos h3];obtain⟨k1,k2⟩:=h.pour hb ho hne;exact⟨k1,by rw[k2];omega⟩
     · rw[if_neg h3];exact⟨h,by omega⟩
structure invB (n:Nat) (l:List Sp) (W:Wt) (b:List Int) (m:Int):Prop where
 t:tbIn b m
 run:runOK n l b m
 pos:∀y∈W,0<y.2
 key:∀y∈W,bgT n b y.1
 bd:sumW W (fun _=>1)*fct (sumB b+12-m).toNat≤fct 12
def invW(n:Nat)(l:List Sp)(W:Wt):Prop:=∃b m,invB n l W b m
theorem sumW_const(c:Int):∀W:Wt,sumW W (fun _=>c)=c*sumW W fun _=>1
 | []=>by show (0:Int)=c*0;omega
 | (B,n)::r=>by
   show n*c+sumW r (fun _=>c)=c*(n*1+sumW r fun _=>1)
   rw[sumW_const c r,Int.mul_add,Int.mul_one,Int.mul_comm]
theorem invB.ways{n:Nat}{l:List Sp}{W:Wt}{b:List Int}{m:Int}(h:invB n l W b m):0≤sumW W (fun _=>1)∧sumW W (fun _=>1)≤fct 12:=by
 have h0:=sumW_nn (W:=W) (V:=fun _=>1) h.pos fun _ _=>by decide
 refine⟨h0,?_⟩;have h1:=Int.mul_le_mul_of_nonneg_left (fct_pos (sumB b+12-m).toNat) h0;have:=h.bd;omega
theorem invB.draw{n:Nat}{x:Sp}{l:List Sp}{W:Wt}{b:List Int}{m:Int}(h:invB n (x::l) W b m)(hn:n≤6){w:Nat}(hw:w<n)(hd:x.2.1=true)(y:List Int×Int)(hy:y∈W):(0≤nSum n (fun w=>bgAt y.1 x.1.bag w)∧nSum n (fun w=>bgAt y.1 x.1.bag w)≤atI b x.1.bag)∧0≤bgAt y.1 x.1.bag w∧bgAt y.1 x.1.bag w≤atI b x.1.bag:=by obtain⟨hb,ha⟩:=h.run.1.d hd;have hk:=h.key y hy;rw[hk.sum hn hb];exact⟨⟨by omega,Int.le_refl _⟩,hk.at hb (by omega)⟩
theorem nextV_bd{n:Nat}{x:Sp}{l:List Sp}{W:Wt}{b:List Int}{m:Int}(h:invB n (x::l) W b m)(hn:n≤6){w:Nat}(hw:w<n):sumW W (nextV x w n fun _=>1)≤(if x.2.1=true then atI b x.1.bag else 1)*sumW W fun _=>1:=by
 rw[←sumW_const];refine sumW_le h.pos fun y hy=>?_;show nextV x w n (fun _=>1) y.1≤_
 unfold nextV;by_cases hd:x.2.1=true
 · obtain⟨h1,h2⟩:=h.draw hn hw hd y hy;rw[if_pos hd,if_pos hd];split
   · rw[Int.mul_one];exact h2.2
   · rw[nSum_congr fun k _=>Int.mul_one _];exact h1.2
 · rw[if_neg hd,if_neg hd];split
   · decide
   · exact Int.le_refl _
theorem invW_sr(n:Nat)(hn:n≤6):SrI n (invW n):=by
 have h12:=fct12;refine⟨?_,?_,?_,?_⟩
 · rintro l W ⟨b,m,h⟩;exact h.pos
 · rintro l W ⟨b,m,h⟩;have:=h.ways;omega
 · rintro x r W w ⟨b,m,h⟩ hne hw;have hwy:=h.ways;have hx:=h.run.1;refine⟨h.pos,fun y hy=>⟨(h.key y hy).l,fun v hv=>?_⟩,by omega,hn,by omega,fun hd=>?_,fun h1 h2=>?_,fun h1 h3=>?_⟩
   · have hk:=h.key y hy;obtain⟨p,hp,rfl⟩:=List.getElem_of_mem hv;have hp24:p<24:=by rw[←hk.l];exact hp
     have hi:(0:Int)≤(p/6:Nat)∧((p/6:Nat):Int)≤3:=by omega
     have:=hk.at hi (w:=(p%6:Nat)) (by omega);have h2:=h.t.le hi;have h3:=h.t.sm;have h4:=h.t.m;have e:bgAt y.1 (p/6:Nat) (p%6:Nat)=y.1[p]:=by unfold bgAt;rw[Int.toNat_natCast,Int.toNat_natCast,show p/6*6+p%6=p by omega,List.getD_eq_getElem?_getD,List.getElem?_eq_getElem hp];rfl
     rw[e] at this;omega
   · obtain⟨hb,ha⟩:=hx.d hd;have hc:atI b x.1.bag≤12:=by have:=h.t.le hb;have:=h.t.sm;have:=h.t.m;omega
     have h0:sumW W (fun _=>(12:Int))=12*sumW W fun _=>1:=sumW_const 12 W;have h1:=sumW_le (W:=W) (V:=fun B=>nSum n fun w=>bgAt B x.1.bag w) (U:=fun _=>12) h.pos fun y hy=>by have:=h.draw hn hw hd y hy;omega
     have h2:=sumW_le (W:=W) (V:=fun B=>bgAt B x.1.bag w) (U:=fun _=>12) h.pos fun y hy=>by have:=h.draw hn hw hd y hy;omega
     exact⟨hb,by omega,by omega⟩
   · obtain⟨hb,hw2,hc,hm⟩:=hx.h2 h1 h2;have:=h.t.m;exact⟨hb,by omega,by omega,by omega⟩
   · exact hx.h3 h1 h3
 · rintro x r W W' w ⟨b,m,h⟩ hne hw hW';have hx:=h.run.1;obtain⟨ht,hs⟩:=h.t.step hx;refine⟨spB x b,spM x m,ht,h.run.2,hW'.pos,fun y hy=>?_,?_⟩
   · obtain⟨z,hz,hzy⟩:=hW'.key y hy;have hk:=h.key z hz;unfold nextB at hzy;unfold spB;by_cases hd:x.2.1=true
     · obtain⟨hb,ha⟩:=hx.d hd;rw[if_pos hd] at hzy ⊢;by_cases hc:x.2.2=true
       · rw[if_pos hc] at hzy;rw[hzy.2];exact hk.add h.t.l hn hb (by omega) (by omega)
       · rw[if_neg hc] at hzy;obtain⟨w',hw',h1,h2⟩:=hzy;rw[h2];exact hk.add h.t.l hn hb (by omega) (by omega)
     · have hdf:x.2.1=false:=by simpa using hd
       rw[if_neg hd] at hzy ⊢;rw[hzy];unfold mixedB;by_cases h2:x.1.kind=2
       · obtain⟨hb,hw2,hc,hm⟩:=hx.h2 hdf h2;rw[if_pos h2,if_pos h2];exact hk.add h.t.l hn hb hw2 (by have:=bgAt_nn hk.nn x.1.bag x.1.wood;omega)
       · rw[if_neg h2,if_neg h2];by_cases h3:x.1.kind=3
         · obtain⟨hb,ho,hne⟩:=hx.h3 hdf h3;rw[if_pos h3,if_pos h3];exact hk.pour h.t.l hb ho hne
         · rw[if_neg h3,if_neg h3];exact hk
   · have hS:=hW'.sum fun _=>1;have hb:=nextV_bd h hn hw;rw[←hS] at hb;have hwy:=h.ways;have hbd:=h.bd;by_cases hd:x.2.1=true
     · obtain⟨hbg,ha⟩:=hx.d hd;rw[if_pos hd] at hb hs;have hle:=h.t.le hbg;have hsm:=h.t.sm;have hm:=h.t.m;obtain⟨k,hk⟩:∃k:Nat,(sumB b+12-m).toNat=k+1:=⟨(sumB b+12-m).toNat-1,by omega⟩;have hk2:(sumB (spB x b)+12-spM x m).toNat=k:=by omega
       rw[hk2];rw[hk] at hbd;have e1:sumW W' (fun _=>1)≤((k+1:Nat):Int)*sumW W fun _=>1:=by have:=Int.mul_le_mul_of_nonneg_right (show atI b x.1.bag≤((k+1:Nat):Int) by omega) hwy.1;omega
       have e2:=Int.mul_le_mul_of_nonneg_right e1 (show 0≤fct k by have:=fct_pos k;omega);have e3:((k+1:Nat):Int)*sumW W (fun _=>1)*fct k=sumW W (fun _=>1)*fct (k+1):=by
        show _=sumW W (fun _=>1)*(((k+1:Nat):Int)*fct k)
        rw[Int.mul_comm ((k+1:Nat):Int),Int.mul_assoc]
       omega
     · rw[if_neg hd] at hb hs;rw[Int.one_mul] at hb;have hk2:(sumB (spB x b)+12-spM x m).toNat=(sumB b+12-m).toNat:=by omega
       rw[hk2];have e2:=Int.mul_le_mul_of_nonneg_right hb (show 0≤fct (sumB b+12-m).toNat by have:=fct_pos (sumB b+12-m).toNat;omega);omega
theorem mix_0{n:Nat}{d:Dl}{t:Tb}(h0:mixE n d t=0):inB d.bag 0 3=true∧inB d.wood 0 (n-1)=true∧inB d.count 1 12=true∧ ¬12<t.mixed+d.count:=by
 unfold mixE at h0;by_cases h1:inB d.bag 0 3=true
 · rw[if_pos h1] at h0;by_cases h2:inB d.wood 0 (n-1)=true
   · rw[if_pos h2] at h0;by_cases h3:inB d.count 1 12=true
     · rw[if_pos h3] at h0;by_cases h4:12<t.mixed+d.count
       · rw[if_pos h4] at h0;exact absurd h0 (by decide)
       · exact⟨h1,h2,h3,h4⟩
     · rw[if_neg h3] at h0;exact absurd h0 (by decide)
   · rw[if_neg h2] at h0;exact absurd h0 (by decide)
 · rw[if_neg h1] at h0;exact absurd h0 (by decide)
theorem pour_0{d:Dl}(h0:pourE d=0):(inB d.bag 0 3=true∧inB d.other 0 3=true)∧d.bag≠d.other:=by
 unfold pourE at h0;by_cases h1:inB d.bag 0 3=true∧inB d.other 0 3=true
 · rw[if_pos h1] at h0;by_cases h2:d.bag=d.other
   · rw[if_pos h2] at h0;exact absurd h0 (by decide)
   · exact⟨h1,h2⟩
 · rw[if_neg h1] at h0;exact absurd h0 (by decide)
theorem pass_0{d:Dl}{t:Tb}(h0:passE d t=0):asideE d t=0:=by
 unfold passE at h0;by_cases h1:asideE d t=0
 · exact h1
 · rw[if_neg h1] at h0;exact h0
theorem place_0{n:Nat}{d:Dl}{t:Tb}(h0:placeE n d t=0):inB d.wood 0 (n-1)=true:=by
 unfold placeE at h0;by_cases h1:inB d.wood 0 (n-1)=true
 · exact h1
 · rw[if_neg h1] at h0;exact absurd h0 (by decide)
theorem tbOK.tin{t:Tb}(h:tbOK t):tbIn t.bags t.mixed:=by
 have hb:=h.b;refine⟨hb,fun i hi=>?_,?_,h.m⟩
 · unfold atI;rw[List.getD_eq_getElem?_getD];cases hh:t.bags[i.toNat]? with
   | none=>exact Int.le_refl _
   | some v=>exact h.nn v (List.mem_of_getElem? hh)
 · have hs:=h.s;obtain⟨bags,m,c,tr⟩:=t;dsimp only at hb hs ⊢;rcases bags with _ | ⟨a0,_ | ⟨a1,_ | ⟨a2,_ | ⟨a3,_ | ⟨a4,r⟩⟩⟩⟩⟩
   all_goals first
    | (simp at hb;done)
    | (simp only[List.sum_cons,List.sum_nil] at hs
       show a0+a1+a2+a3≤m
       omega)
theorem set_self{b:List Int}{i:Nat}(h:i<b.length):b.set i (b.getD i 0)=b:=by
 apply List.ext_getElem?;intro j;rw[List.getElem?_set];by_cases e:i=j
 · subst e;rw[if_pos rfl,if_pos h,List.getD_eq_getElem?_getD,List.getElem?_eq_getElem h];rfl
 · rw[if_neg e]
theorem run_rep{n:Nat}{d:Dl}{z:Bool}{r:List Sp}{m:Int}:∀(c:Nat) (b:List Int),b.length=4→(0≤d.bag∧d.bag≤3)→(c:Int)≤atI b d.bag→runOK n r (setI b d.bag (atI b d.bag-c)) m→runOK n (List.replicate c (d,true,z)++r) b m
 | 0,b,hb,hd,_,h=>by
   have e:setI b d.bag (atI b d.bag-((0:Nat):Int))=b:=by rw[show atI b d.bag-((0:Nat):Int)=atI b d.bag by omega];exact set_self (by omega)
   rw[e] at h;exact h
 | c+1,b,hb,hd,hc,h=>by
   refine⟨⟨fun _=>⟨hd,by show 1≤atI b d.bag;omega⟩,(fun h=>by cases h),(fun h=>by cases h)⟩,?_⟩;have e1:atI (setI b d.bag (atI b d.bag+ -1)) d.bag=atI b d.bag+ -1:=by rw[atI_set hb hd hd,if_pos rfl]
   refine run_rep c (setI b d.bag (atI b d.bag+ -1)) (setI_len hb _ _) hd (by rw[e1];omega) ?_;rw[e1];have e2:setI (setI b d.bag (atI b d.bag+ -1)) d.bag (atI b d.bag+ -1-(c:Nat))=setI b d.bag (atI b d.bag-((c+1:Nat):Int)):=by
    unfold setI;rw[List.set_set]
    congr 1
    omega
   rw[e2];exact h
theorem censG_app(l r:List Sp):censG (l++r)=censG l+censG r:=by simp[censG,List.filter_append]
theorem censG_rep(c:Nat)(d:Dl)(z:Bool):censG (List.replicate c (d,true,z))=if z=true then c else 0:=by cases z<;>simp[censG]
theorem deal_run{n:Nat}{d:Dl}{t:Tb}{r:List Sp}(h:tbOK t)(hk:inB d.kind 1 6=true)(h0:dealE n d t=0)(hr:runOK n r (dealT d t).bags (dealT d t).mixed):
  (drawsB d=true→1≤d.count∧d.count≤12)∧runOK n (stp1 d++r) t.bags t.mixed∧(dealT d t).cens=t.cens+(censG (stp1 d):Nat):=by
 have hb:=h.b;obtain⟨k1,k2⟩:=inB_t.1 hk;unfold dealE at h0;by_cases e1:d.kind=1
 · have ed:drawsB d=false:=by simp[drawsB,e1]
   have es:stp1 d=[(d,false,false)]:=by unfold stp1;rw[ed,e1];rfl
   have et:dealT d t={t with tried:=t.tried.set d.wood.toNat true }:=by unfold dealT;rw[if_pos e1]
   rw[et] at hr ⊢;rw[ed,es];refine⟨fun h=>(by cases h),⟨⟨(fun h=>by cases h),fun _ h=>by dsimp only at h;omega,fun _ h=>by dsimp only at h;omega⟩,?_⟩,by simp[censG]⟩;simp only[spB,spM,e1,Bool.false_eq_true,if_false,Int.reduceEq];exact hr
 rw[if_neg e1] at h0;by_cases e2:d.kind=2
 · rw[if_pos e2] at h0;obtain⟨h1,h2,h3,h4⟩:=mix_0 h0;have:=inB_t.1 h1;have:=inB_t.1 h2;have:=inB_t.1 h3;have ed:drawsB d=false:=by simp[drawsB,e2]
   have es:stp1 d=[(d,false,false)]:=by unfold stp1;rw[ed,e2];rfl
   have et:dealT d t={t with mixed:=t.mixed+d.count,bags:=setI t.bags d.bag (atI t.bags d.bag+d.count) }:=by unfold dealT;rw[if_neg e1,if_pos e2]
   rw[et] at hr ⊢;rw[ed,es];refine⟨fun h=>(by cases h),⟨⟨(fun h=>by cases h),fun _ _=>⟨by assumption,by dsimp only;omega,by dsimp only;omega,by dsimp only;omega⟩,fun _ h=>by dsimp only at h;omega⟩,?_⟩,by simp[censG]⟩;simp only[spB,spM,e2,Bool.false_eq_true,if_false,if_true];exact hr
 rw[if_neg e2] at h0;by_cases e3:d.kind=3
 · rw[if_pos e3] at h0;obtain⟨⟨h1,h2⟩,h3⟩:=pour_0 h0;have ed:drawsB d=false:=by simp[drawsB,e3]
   have es:stp1 d=[(d,false,false)]:=by unfold stp1;rw[ed,e3];rfl
   have et:dealT d t={t with bags:=setI (setI t.bags d.other (atI t.bags d.other+atI t.bags d.bag)) d.bag 0 }:=by unfold dealT;rw[if_neg e1,if_neg e2,if_pos e3]
   rw[et] at hr ⊢;rw[ed,es];refine⟨fun h=>(by cases h),⟨⟨(fun h=>by cases h),fun _ h=>by dsimp only at h;omega,fun _ _=>⟨inB_t.1 h1,inB_t.1 h2,h3⟩⟩,?_⟩,by simp[censG]⟩;simp only[spB,spM,e3,Bool.false_eq_true,if_false,if_true,Int.reduceEq];exact hr
 rw[if_neg e3] at h0;by_cases e4:d.kind=4
 · rw[if_pos e4] at h0;obtain⟨h1,h2,h3⟩:=aside_0 h0;have hc:=inB_t.1 h1;have hbg:=inB_t.1 h2;have ed:drawsB d=true:=by simp[drawsB,e4]
   have es:stp1 d=List.replicate d.count.toNat (d,true,false):=by unfold stp1;rw[ed,e4];rfl
   have et:dealT d t={t with bags:=setI t.bags d.bag (atI t.bags d.bag-d.count) }:=by unfold dealT;rw[if_neg e1,if_neg e2,if_neg e3,if_pos e4]
   rw[et] at hr ⊢;rw[es];refine⟨fun _=>hc,run_rep _ _ hb hbg (by omega) ?_,by rw[censG_rep];simp⟩;rw[show ((d.count.toNat:Nat):Int)=d.count by omega];exact hr
 rw[if_neg e4] at h0;by_cases e5:d.kind=5
 · rw[if_pos e5] at h0;obtain⟨h1,h2,h3⟩:=aside_0 (pass_0 h0);have hc:=inB_t.1 h1;have hbg:=inB_t.1 h2;have ed:drawsB d=true:=by simp[drawsB,e5]
   have es:stp1 d=List.replicate d.count.toNat (d,true,true):=by unfold stp1;rw[ed,e5];rfl
   have et:dealT d t={t with bags:=setI t.bags d.bag (atI t.bags d.bag-d.count),cens:=t.cens+d.count }:=by unfold dealT;rw[if_neg e1,if_neg e2,if_neg e3,if_neg e4,if_pos e5]
   rw[et] at hr ⊢;rw[es];refine⟨fun _=>hc,run_rep _ _ hb hbg (by omega) ?_,by rw[censG_rep,if_pos rfl];show t.cens+d.count=_;omega⟩;rw[show ((d.count.toNat:Nat):Int)=d.count by omega];exact hr
 · have e6:d.kind=6:=by omega
   have ed:drawsB d=false:=by simp[drawsB,e6]
   have es:stp1 d=[(d,false,true)]:=by unfold stp1;rw[ed,e6];rfl
   have et:dealT d t={t with cens:=t.cens+1 }:=by unfold dealT;rw[if_neg e1,if_neg e2,if_neg e3,if_neg e4,if_neg e5]
   rw[et] at hr ⊢;rw[ed,es];refine⟨fun h=>(by cases h),⟨⟨(fun h=>by cases h),fun _ h=>by dsimp only at h;omega,fun _ h=>by dsimp only at h;omega⟩,?_⟩,by simp[censG]⟩;simp only[spB,spM,e6,Bool.false_eq_true,if_false,Int.reduceEq];exact hr
theorem deals_run{n:Nat}:∀(l:List Dl) (t:Tb),tbOK t→dsErr n t l=0→(∀d∈l,drawsB d=true→1≤d.count∧d.count≤12)∧runOK n (stepsG l) t.bags t.mixed∧(dsTab t l).cens=t.cens+(censG (stepsG l):Nat)
 | [],t,_,_=>⟨(fun d hd=>by cases hd),trivial,by show t.cens=t.cens+0;omega⟩
 | d::r,t,h,h0=>by
   rw[dsErr] at h0;by_cases hd:dlErr n d t=0
   · rw[if_pos hd] at h0;have hd2:=hd;unfold dlErr at hd2;by_cases hk:inB d.kind 1 6=true
     · rw[if_pos hk] at hd2;by_cases hf:formD d=true
       · rw[if_pos hf] at hd2;obtain⟨i1,i2,i3⟩:=deals_run r (dealT d t) (dealT_ok hk h hd2) h0;obtain⟨j1,j2,j3⟩:=deal_run h hk hd2 i2;refine⟨fun x hx=>?_,j2,?_⟩
         · rcases List.mem_cons.1 hx with rfl | hx
           · exact j1
           · exact i1 x hx
         · show (dsTab (dealT d t) r).cens=t.cens+((censG (stp1 d++stepsG r):Nat):Int)
           rw[i3,j3,censG_app];omega
       · rw[if_neg hf] at hd2;exact absurd hd2 (by decide)
     · rw[if_neg hk] at hd2;exact absurd hd2 (by decide)
   · rw[if_neg hd] at h0;exact absurd h0 hd
theorem bg0_at(i w:Int):bgAt bg0 i w=0:=by unfold bgAt bg0;rw[List.getD_eq_getElem?_getD,List.getElem?_replicate];split<;>rfl
theorem gmOK{G:Gm}(h:gmErr G=0):GmIn G (invW G.ws.length):=by
 unfold gmErr at h;by_cases h1:G.ws=[]
 · rw[if_pos h1] at h;exact absurd h (by decide)
 rw[if_neg h1] at h;by_cases h2:6<G.ws.length
 · rw[if_pos h2] at h;exact absurd h (by decide)
 rw[if_neg h2] at h;by_cases h3:wsErr [] G.ws=0
 rotate_left
 · rw[if_neg h3] at h;exact absurd h h3
 rw[if_pos h3] at h;by_cases h4:24<G.ds.length
 · rw[if_pos h4] at h;exact absurd h (by decide)
 rw[if_neg h4] at h;by_cases h5:dsErr G.ws.length tb0 G.ds=0
 rotate_left
 · rw[if_neg h5] at h;exact absurd h h5
 rw[if_pos h5] at h;by_cases h6:(dsTab tb0 G.ds).cens=0
 · rw[if_pos h6] at h;exact absurd h (by decide)
 obtain⟨i1,i2,i3⟩:=deals_run G.ds tb0 tb0_ok h5;have hw0:G.ws.length≠0:=fun e=>h1 (List.eq_nil_of_length_eq_zero e);have hc0:tb0.cens=0:=rfl;refine⟨by omega,by omega,by omega,i1,by omega,invW_sr _ (by omega),tb0.bags,tb0.mixed,tb0_ok.tin,i2,?_,?_,?_⟩
 · intro y hy;rw[List.mem_singleton.1 hy];decide
 · intro y hy;rw[List.mem_singleton.1 hy];refine⟨rfl,fun v hv=>?_,fun i w _ _=>bg0_at i w,fun i hi=>?_⟩
   · rw[(List.mem_replicate.1 hv).2];decide
   · rw[nSum6,bg0_at,bg0_at,bg0_at,bg0_at,bg0_at,bg0_at];rcases (by omega:i=0∨i=1∨i=2∨i=3) with rfl|rfl|rfl|rfl<;>rfl
 · decide
def rowB(B:List Int)(i:Int):List Int:=(List.range 6).map fun (w:Nat)=>bgAt B i w
theorem rowB_len(B:List Int)(i:Int):(rowB B i).length=6:=by simp[rowB]
theorem rowB_get(B:List Int)(i:Int){w:Nat}(h:w<6):(rowB B i).getD w 0=bgAt B i w:=by unfold rowB;rw[List.getD_eq_getElem?_getD,List.getElem?_map,List.getElem?_range h];rfl
theorem rowB_sum(B:List Int)(i:Int):(rowB B i).sum=bgSize B i:=rfl
theorem rowB_nn{B:List Int}(h:∀v∈B,0≤v)(i:Int):∀v∈rowB B i,0≤v:=fun v hv=>by obtain⟨w,_,rfl⟩:=List.mem_map.1 hv;exact bgAt_nn h i w
def pickF:List Int→Int→Nat
 | [],_=>0
 | k::r,p=>if p<k then 0 else pickF r (p-k)+1
def pickW(B:List Int)(i p:Int):Int:=(pickF (rowB B i) p:Nat)
theorem pickF_lt:∀{R:List Int} {p:Int},0≤p→p<R.sum→pickF R p<R.length∧0<R.getD (pickF R p) 0
 | [],p,h0,h1=>by simp at h1;omega
 | k::r,p,h0,h1=>by
   rw[pickF];by_cases h:p<k
   · rw[if_pos h];exact⟨by simp,by simp;omega⟩
   · rw[if_neg h];rw[List.sum_cons] at h1;obtain⟨h2,h3⟩:=pickF_lt (R:=r) (p:=p-k) (by omega) (by omega);exact⟨by simp;omega,by simpa using h3⟩
theorem pickW_ok{B:List Int}{i p:Int}(h0:0≤p)(h1:p<bgSize B i):(0≤pickW B i p∧pickW B i p≤5)∧0<bgAt B i (pickW B i p):=by obtain⟨h2,h3⟩:=pickF_lt (R:=rowB B i) h0 (by rw[rowB_sum];exact h1);rw[rowB_len] at h2;rw[rowB_get B i h2] at h3;exact⟨by unfold pickW;omega,h3⟩
def drawN(l:List Sp):Nat:=(l.filter fun x=>x.2.1).length
def playS:List Sp→List Int→List Int→List Int→Option (List Int)
 | [],_,_,c=>some c
 | x::r,B,ps,c=>if x.2.1=true then (match ps with
    | []=>none
    | p::ps=>if 0≤p∧p<bgSize B x.1.bag then playS r (drawB B x.1.bag (pickW B x.1.bag p)) ps (if x.2.2=true then c++[pickW B x.1.bag p] else c) else none)
   else playS r (mixedB x.1 B) ps (if x.2.2=true then c++[x.1.wood] else c)
theorem playS_f{x:Sp}{r:List Sp}{B ps c:List Int}(h:¬x.2.1=true):playS (x::r) B ps c=playS r (mixedB x.1 B) ps (if x.2.2=true then c++[x.1.wood] else c):=by
 show (if x.2.1=true then _ else _)=_
 rw[if_neg h]
theorem playS_t{x:Sp}{r:List Sp}{B ps c:List Int}{p:Int}(h:x.2.1=true):playS (x::r) B (p::ps) c=if 0≤p∧p<bgSize B x.1.bag then playS r (drawB B x.1.bag (pickW B x.1.bag p)) ps (if x.2.2=true then c++[pickW B x.1.bag p] else c) else none:=by
 show (if x.2.1=true then _ else _)=_
 rw[if_pos h]
def playO(G:Gm)(ps:List Int):List Int×Int:=
 if gmErr G=0 then (if ps.length=drawN (stepsG G.ds) then (match playS (stepsG G.ds) bg0 ps [] with
  | some c=>(c,0)
  | none=>([],2))   else ([],3)) else ([],gmErr G)
theorem bgT.size{n:Nat}{b B:List Int}(h:bgT n b B){i:Int}(hi:0≤i∧i≤3):bgSize B i=atI b i:=by
 rw[←h.s i hi,nSum6];show bgAt B i 0+(bgAt B i 1+(bgAt B i 2+(bgAt B i 3+(bgAt B i 4+(bgAt B i 5+0)))))=_
 omega
theorem bgT.lt{n:Nat}{b B:List Int}(h:bgT n b B){i w:Int}(hi:0≤i∧i≤3)(hw:0≤w∧w≤5)(hp:0<bgAt B i w):w<n:=by apply Int.not_le.1;intro hle;have:=h.z i w hi ⟨hle,hw.2⟩;omega
theorem bgT.draw{n:Nat}{b B:List Int}(h:bgT n b B)(hb:b.length=4)(hn:n≤6){i w:Int}(hi:0≤i∧i≤3)(hw:0≤w∧w≤5)(hp:0<bgAt B i w):bgT n (setI b i (atI b i+ -1)) (drawB B i w):=
 h.add hb hn hi ⟨hw.1,h.lt hi hw hp⟩ (by omega)
theorem bgT.mix{n:Nat}{b B:List Int}{m:Int}(h:bgT n b B)(hb:b.length=4)(hn:n≤6){x:Sp}(hx:spOK n b m x)(hd:x.2.1=false):bgT n (spB x b) (mixedB x.1 B):=by
 unfold spB mixedB;rw[hd];simp only[Bool.false_eq_true,if_false];by_cases h2:x.1.kind=2
 · obtain⟨hb',hw,hc,hm⟩:=hx.h2 hd h2;rw[if_pos h2,if_pos h2];exact h.add hb hn hb' hw (by have:=bgAt_nn h.nn x.1.bag x.1.wood;omega)
 · rw[if_neg h2,if_neg h2];by_cases h3:x.1.kind=3
   · obtain⟨hb',ho,hne⟩:=hx.h3 hd h3;rw[if_pos h3,if_pos h3];exact h.pour hb hb' ho hne
   · rw[if_neg h3,if_neg h3];exact h
def cntG(n:Nat):List Sp→List Int→List Int→Int
 | [],c,_=>if c=[] then 1 else 0
 | x::r,c,B=>if x.2.2=true then (match c with
    | []=>0
    | w::c=>nextV x w n (cntG n r c) B) else nextV x 0 n (cntG n r c) B
theorem cntG_0(n:Nat)(c B:List Int):cntG n [] c B=if c=[] then 1 else 0:=by unfold cntG;rfl
theorem cntG_f{n:Nat}{x:Sp}{r:List Sp}{c B:List Int}(h:¬x.2.2=true):cntG n (x::r) c B=nextV x 0 n (cntG n r c) B:=by
 show (if x.2.2=true then _ else _)=_
 rw[if_neg h]
theorem cntG_t{n:Nat}{x:Sp}{r:List Sp}{w:Int}{c B:List Int}(h:x.2.2=true):cntG n (x::r) (w::c) B=nextV x w n (cntG n r c) B:=by
 show (if x.2.2=true then _ else _)=_
 rw[if_pos h]
theorem cntG_n{n:Nat}{x:Sp}{r:List Sp}{B:List Int}(h:x.2.2=true):cntG n (x::r) [] B=0:=by
 show (if x.2.2=true then _ else _)=_
 rw[if_pos h]
def nnB(B:List Int):Prop:=∀v∈B,0≤v
def stOK(l:List Sp):Prop:=∀x∈l,x.2.1=false→x.1.kind=2→0≤x.1.count
theorem nn_getD{B:List Int}(h:nnB B)(p:Nat):0≤B.getD p 0:=by
 rw[List.getD_eq_getElem?_getD];cases hh:B[p]? with
 | none=>exact Int.le_refl _
 | some v=>exact h v (List.mem_of_getElem? hh)
theorem nn_add{B:List Int}(h:nnB B){i j x:Int}(hx:0≤bgAt B i j+x):nnB (bgAdd B i j x):=fun v hv=>by
 unfold bgAdd at hv;rcases List.mem_or_eq_of_mem_set hv with hv|rfl
 · exact h v hv
 · exact hx
theorem nn_draw{B:List Int}(h:nnB B){i j:Int}(hx:0<bgAt B i j):nnB (drawB B i j):=nn_add h (by omega)
theorem nn_pour{B:List Int}(h:nnB B)(i j:Int):nnB (bgPour B i j):=fun v hv=>by
 unfold bgPour at hv;obtain⟨y,hy,rfl⟩:=List.mem_map.1 hv;have:=nn_getD h y;have:=nn_getD h (i.toNat*6+y%6);split
 · omega
 · split<;>omega
theorem nn_mix{B:List Int}(h:nnB B){d:Dl}(hd:d.kind=2→0≤d.count):nnB (mixedB d B):=by
 unfold mixedB;split
 · have:=bgAt_nn h d.bag d.wood;have:=hd (by assumption);exact nn_add h (by omega)
 · split
   · exact nn_pour h _ _
   · exact h
theorem nn_drawV{V:List Int→Int}(hV:∀C,nnB C→0≤V C){B:List Int}(hB:nnB B)(i w:Int):0≤bgAt B i w*V (drawB B i w):=by
 have h0:=bgAt_nn hB i w;by_cases h:bgAt B i w=0
 · rw[h,Int.zero_mul];exact Int.le_refl _
 · exact Int.mul_nonneg h0 (hV _ (nn_draw hB (by omega)))
theorem nextV_nn{x:Sp}{V:List Int→Int}(hV:∀C,nnB C→0≤V C){B:List Int}(hB:nnB B)(hx:x.2.1=false→x.1.kind=2→0≤x.1.count)(w:Int)(n:Nat):0≤nextV x w n V B:=by
 unfold nextV;by_cases hd:x.2.1=true
 · rw[if_pos hd];split
   · exact nn_drawV hV hB _ _
   · exact nSum_nn fun k _=>nn_drawV hV hB _ _
 · rw[if_neg hd];split
   · exact Int.le_refl _
   · exact hV _ (nn_mix hB (hx (by simpa using hd)))
theorem cntG_nn(n:Nat):∀{l:List Sp},stOK l→ ∀(c:List Int) {B:List Int},nnB B→0≤cntG n l c B
 | [],_,c,B,_=>by rw[cntG_0];split<;>decide
 | x::r,h,c,B,hB=>by
   have hx:=h x (by simp);have hr:stOK r:=fun y hy=>h y (by simp[hy]);by_cases hc:x.2.2=true
   · cases c with
     | nil=>rw[cntG_n hc];exact Int.le_refl _
     | cons w c=>rw[cntG_t hc];exact nextV_nn (fun C hC=>cntG_nn n hr c hC) hB hx w n
   · rw[cntG_f hc];exact nextV_nn (fun C hC=>cntG_nn n hr c hC) hB hx 0 n
def goodW(W:Wt):Prop:=∀y∈W,0<y.2∧nnB y.1
theorem good_app{W U:Wt}(h:goodW W)(g:goodW U):goodW (W++U):=fun y hy=>by
 rcases List.mem_append.1 hy with hy | hy
 · exact h y hy
 · exact g y hy
theorem step1{m:Int}{B:List Int}(hm:0<m)(hB:nnB B)(i w:Int):∃W',goodW W'∧ ∀V,sumW W' V=m*(bgAt B i w*V (drawB B i w)):=by
 have h0:=bgAt_nn hB i w;by_cases h:bgAt B i w=0
 · exact⟨[],(fun y hy=>by cases hy),fun V=>by rw[h,Int.zero_mul,Int.mul_zero];rfl⟩
 · refine⟨[(drawB B i w,m*bgAt B i w)],fun y hy=>?_,fun V=>?_⟩
   · rw[List.mem_singleton.1 hy];exact⟨Int.mul_pos hm (by omega),nn_draw hB (by omega)⟩
   · show m*bgAt B i w*V _+0=_
     rw[Int.add_zero,Int.mul_assoc]
theorem stepN{m:Int}{B:List Int}(hm:0<m)(hB:nnB B)(i:Int):∀n:Nat,∃W',goodW W'∧ ∀V,sumW W' V=m*nSum n fun w=>bgAt B i w*V (drawB B i w)
 | 0=>⟨[],(fun y hy=>by cases hy),fun V=>by show (0:Int)=m*0;rw[Int.mul_zero]⟩
 | n+1=>by obtain⟨W1,g1,h1⟩:=stepN hm hB i n;obtain⟨W2,g2,h2⟩:=step1 hm hB i n;exact⟨W1++W2,good_app g1 g2,fun V=>by rw[sumW_app,h1,h2,nSum,Int.mul_add]⟩
theorem stepWt{W:Wt}(hW:goodW W){x:Sp}(hx:x.2.1=false→x.1.kind=2→0≤x.1.count)(w:Int)(n:Nat):∃W',goodW W'∧ ∀V,sumW W' V=sumW W (nextV x w n V):=by
 induction W with
 | nil=>exact⟨[],(fun y hy=>by cases hy),fun V=>rfl⟩
 | cons a r ih=>
   obtain⟨W2,g2,h2⟩:=ih fun y hy=>hW y (by simp[hy]);obtain⟨hm,hB⟩:=hW a (by simp)
   suffices h:∃W1,goodW W1∧ ∀V,sumW W1 V=a.2*nextV x w n V a.1 by obtain⟨W1,g1,h1⟩:=h;exact⟨W1++W2,good_app g1 g2,fun V=>by rw[sumW_app,h1,h2];rfl⟩
   unfold nextV;by_cases hd:x.2.1=true
   · simp only[if_pos hd];by_cases hc:x.2.2=true
     · simp only[if_pos hc];exact step1 hm hB _ _
     · simp only[if_neg hc];exact stepN hm hB _ _
   · simp only[if_neg hd];by_cases hc:x.2.2=true∧x.1.wood≠w
     · simp only[if_pos hc];exact⟨[],(fun y hy=>by cases hy),fun V=>by rw[Int.mul_zero];rfl⟩
     · simp only[if_neg hc];refine⟨[(mixedB x.1 a.1,a.2)],fun y hy=>?_,fun V=>?_⟩
       · rw[List.mem_singleton.1 hy];exact⟨hm,nn_mix hB (hx (by simpa using hd))⟩
       · show a.2*V _+0=_
         rw[Int.add_zero]
theorem good_zero{W:Wt}(h:goodW W)(h0:sumW W (fun _=>1)=0):W=[]:=(sumW_nil fun y hy=>(h y hy).1).2 h0
theorem crs_eq(n:Nat):∀(l:List Sp),stOK l→ ∀(W:Wt),goodW W→ ∀c:List Int,crs n l (sumW W) c=((allL n (censG l)).filter fun s=>decide (0<sumW W (cntG n l s))).map fun s=>(c++s,sumW W (cntG n l s))
 | [],_,W,hW,c=>by
   have e:cntG n [] []=fun _=>1:=by funext B;rfl
   show crs n [] (sumW W) c=([[]].filter fun s=>decide (0<sumW W (cntG n [] s))).map _
   rw[crs];have h0:=sumW_nn (W:=W) (V:=fun _=>1) (fun y hy=>(hW y hy).1) fun _ _=>by decide
   by_cases h:sumW W (fun _=>1)=0
   · rw[if_pos h,List.filter_cons,e,h];rfl
   · rw[if_neg h,List.filter_cons,e,if_pos (by simp;omega)];simp[e]
 | x::r,hl,W,hW,c=>by
   have hx:=hl x (by simp);have hr:stOK r:=fun y hy=>hl y (by simp[hy]);rw[crs];by_cases h:sumW W (fun _=>1)=0
   · rw[if_pos h,good_zero hW h];have:((allL n (censG (x::r))).filter fun s=>decide (0<sumW [] (cntG n (x::r) s)))=[]:=List.filter_eq_nil_iff.2 fun s _=>by simp[sumW]
     rw[this];rfl
   rw[if_neg h];have key:∀(w:Int) (c:List Int),crs n r (fun V=>sumW W (nextV x w n V)) c=((allL n (censG r)).filter fun s=>decide (0<sumW W (nextV x w n (cntG n r s)))).map fun s=>(c++s,sumW W (nextV x w n (cntG n r s))):=fun w c=>by obtain⟨W',g,hV⟩:=stepWt hW hx w n;rw[show (fun V=>sumW W (nextV x w n V))=sumW W' from funext fun V=>(hV V).symm,crs_eq n r hr W' g c];simp only[hV]
   by_cases hc:x.2.2=true
   · rw[if_pos hc];have hk:censG (x::r)=censG r+1:=by simp[censG,hc]
     rw[hk];show _=(((List.range n).flatMap fun (w:Nat)=>(allL n (censG r)).map fun l=>(w:Int)::l).filter fun s=>decide (0<sumW W (cntG n (x::r) s))).map _
     rw[List.filter_flatMap,List.map_flatMap]
     congr 1
     funext w
     rw[key];have e:∀s,cntG n (x::r) ((w:Int)::s)=nextV x w n (cntG n r s):=fun s=>by funext B;rw[cntG_t hc]
     rw[List.filter_map,List.map_map];simp only[Function.comp_def,e,List.append_assoc,List.singleton_append]
   · rw[if_neg hc];have hk:censG (x::r)=censG r:=by simp[censG,hc]
     have e:∀s,cntG n (x::r) s=nextV x 0 n (cntG n r s):=fun s=>by funext B;rw[cntG_f hc]
     rw[hk,key];simp only[e]
theorem nn_bg0:nnB bg0:=fun v hv=>by rw[(List.mem_replicate.1 hv).2];decide
def cwG(G:Gm)(s:List Int):Int:=cntG G.ws.length (stepsG G.ds) s bg0
theorem crsG_eq(G:Gm)(h:stOK (stepsG G.ds)):crsG G=((allL G.ws.length (censG (stepsG G.ds))).filter fun s=>decide (0<cwG G s)).map fun s=>(s,cwG G s):=by
 have e:∀V,sumW W0 V=V bg0:=fun V=>by show 1*V bg0+0=_;omega
 unfold crsG;rw[crs_eq _ _ h W0 (fun y hy=>by rw[List.mem_singleton.1 hy];exact⟨by decide,nn_bg0⟩)];simp only[e,List.nil_append];rfl
theorem run_stOK{n:Nat}:∀{l:List Sp} {b:List Int} {m:Int},runOK n l b m→stOK l
 | [],_,_,_,y,hy=>by cases hy
 | x::r,b,m,h,y,hy=>by
   rcases List.mem_cons.1 hy with rfl | hy
   · intro h1 h2;have:=(h.1.h2 h1 h2).2.2.1;omega
   · exact run_stOK h.2 y hy
def lsum(L:List (List Int))(f:List Int→Int):Int:=(L.map f).sum
theorem lsum_cons(a:List Int)(L:List (List Int))(f:List Int→Int):lsum (a::L) f=f a+lsum L f:=rfl
theorem lsum_app(L M:List (List Int))(f:List Int→Int):lsum (L++M) f=lsum L f+lsum M f:=by simp[lsum]
theorem lsum_map(g:List Int→List Int)(f:List Int→Int)(L:List (List Int)):lsum (L.map g) f=lsum L fun s=>f (g s):=by simp[lsum,Function.comp_def]
theorem lsum_congr{f g:List Int→Int}:∀{L:List (List Int)},(∀s∈L,f s=g s)→lsum L f=lsum L g
 | [],_=>rfl
 | a::r,h=>by rw[lsum_cons,lsum_cons,h a (by simp),lsum_congr fun s hs=>h s (by simp[hs])]
theorem lsum_mul(k:Int)(f:List Int→Int):∀L:List (List Int),lsum L (fun s=>k*f s)=k*lsum L f
 | []=>by show (0:Int)=k*0;rw[Int.mul_zero]
 | a::r=>by rw[lsum_cons,lsum_cons,lsum_mul k f r,Int.mul_add]
theorem lsum_zero:∀L:List (List Int),lsum L (fun _=>0)=0
 | []=>rfl
 | a::r=>by rw[lsum_cons,lsum_zero r];rfl
theorem lsum_plus(f g:List Int→Int):∀L:List (List Int),lsum L (fun s=>f s+g s)=lsum L f+lsum L g
 | []=>rfl
 | a::r=>by rw[lsum_cons,lsum_cons,lsum_cons,lsum_plus f g r];omega
theorem lsum_nSum(g:List Int→Int→Int)(L:List (List Int)):∀n:Nat,lsum L (fun s=>nSum n (g s))=nSum n fun w=>lsum L fun s=>g s w
 | 0=>lsum_zero L
 | n+1=>by
   have:=lsum_plus (fun s=>nSum n (g s)) (fun s=>g s n) L;show lsum L (fun s=>nSum n (g s)+g s n)=nSum n _+lsum L fun s=>g s n
   rw[this,lsum_nSum g L n]
theorem lsum_nn{f:List Int→Int}:∀{L:List (List Int)},(∀s∈L,0≤f s)→0≤lsum L f
 | [],_=>Int.le_refl _
 | a::r,h=>by have:=lsum_nn (L:=r) fun s hs=>h s (by simp[hs]);have:=h a (by simp);rw[lsum_cons];omega
theorem lsum_mem{f:List Int→Int}:∀{L:List (List Int)},(∀s∈L,0≤f s)→ ∀s∈L,f s≤lsum L f
 | a::r,h,s,hs=>by
   have h1:=lsum_nn (L:=r) fun s hs=>h s (by simp[hs]);have h2:=h a (by simp);rw[lsum_cons];rcases List.mem_cons.1 hs with rfl | hs
   · omega
   · have:=lsum_mem (L:=r) (fun s hs=>h s (by simp[hs])) s hs;omega
theorem lsum_flat(F:Nat→List (List Int))(f:List Int→Int)(g:Int→Int)(h:∀w:Nat,lsum (F w) f=g w):∀n:Nat,lsum ((List.range n).flatMap F) f=nSum n g
 | 0=>rfl
 | n+1=>by rw[List.range_succ,List.flatMap_append,lsum_app,lsum_flat F f g h n,List.flatMap_cons,List.flatMap_nil,List.append_nil,h,nSum]
theorem lsum_allL(n k:Nat)(f:List Int→Int):lsum (allL n (k+1)) f=nSum n fun w=>lsum (allL n k) fun s=>f (w::s):=
 lsum_flat _ _ _ (fun w=>lsum_map _ _ _) n
theorem nSum_mulr(k:Int)(f:Int→Int):∀n:Nat,nSum n (fun w=>f w*k)=nSum n f*k
 | 0=>by show (0:Int)=0*k;rw[Int.zero_mul]
 | n+1=>by rw[nSum,nSum,nSum_mulr k f n,Int.add_mul]
theorem nSum_one(K:Int→Int)(a:Int):∀n:Nat,nSum n (fun w=>if w=a then K w else 0)=if 0≤a∧a<n then K a else 0
 | 0=>by rw[if_neg (by omega)];rfl
 | n+1=>by
   rw[nSum,nSum_one K a n];by_cases e:(n:Int)=a
   · rw[if_neg (by omega),if_pos e,if_pos (by omega),e];omega
   · rw[if_neg e];by_cases h:0≤a∧a<n
     · rw[if_pos h,if_pos (by omega)];omega
     · rw[if_neg h,if_neg (by omega)];rfl
theorem nSum_more{n:Nat}{f:Int→Int}:∀m:Nat,(∀k:Nat,n≤k→k<n+m→f k=0)→nSum (n+m) f=nSum n f
 | 0,_=>rfl
 | m+1,h=>by
   show nSum (n+m) f+f ((n+m:Nat):Int)=_
   rw[nSum_more m fun k h1 h2=>h k h1 (by omega),h (n+m) (by omega) (by omega)];omega
def szP:List Sp→List Int→Int
 | [],_=>1
 | x::r,b=>(if x.2.1=true then atI b x.1.bag else 1)*szP r (spB x b)
def wdOK(n:Nat)(l:List Sp):Prop:=∀x∈l,x.2.2=true→x.2.1=false→0≤x.1.wood∧x.1.wood<n
def cntP:List Sp→List Int→List Int→Int
 | [],_,_=>1
 | x::r,c,B=>
   if x.2.1=true then (match c with
    | []=>bgSize B x.1.bag*cntP r [] (drawB B x.1.bag (pickW B x.1.bag 0))
    | w::c'=>nSum 6 fun v=>if x.2.2=true then (if v=w then bgAt B x.1.bag v*cntP r c' (drawB B x.1.bag v) else 0) else bgAt B x.1.bag v*cntP r c (drawB B x.1.bag v))
   else if x.2.2=true then (match c with
    | []=>cntP r [] (mixedB x.1 B)
    | w::c'=>if w=x.1.wood then cntP r c' (mixedB x.1 B) else 0)
   else cntP r c (mixedB x.1 B)
theorem censG_cons(x:Sp)(r:List Sp):censG (x::r)=(if x.2.2=true then 1 else 0)+censG r:=by
 unfold censG;rw[List.filter_cons];split
 · rw[List.length_cons];omega
 · omega
theorem cnt_tot{n:Nat}(hn:n≤6):∀{l:List Sp} {b:List Int} {m:Int} {B:List Int},tbIn b m→runOK n l b m→wdOK n l→bgT n b B→lsum (allL n (censG l)) (fun s=>cntG n l s B)=szP l b
 | [],_,_,_,_,_,_,_=>rfl
 | x::r,b,m,B,ht,hr,hw,hB=>by
   have hx:=hr.1;have ht2:=(ht.step hx).1;have hwr:wdOK n r:=fun y hy=>hw y (by simp[hy]);rw[szP,censG_cons];have hnn:=hB.nn;have hdr:x.2.1=true→ ∀w:Nat,w<n→bgAt B x.1.bag w*lsum (allL n (censG r)) (fun s=>cntG n r s (drawB B x.1.bag w))=bgAt B x.1.bag w*szP r (spB x b):=fun hd w hw=>by
    obtain⟨hb,ha⟩:=hx.d hd;by_cases h0:bgAt B x.1.bag w=0
    · rw[h0,Int.zero_mul,Int.zero_mul]
    · have hp:=bgAt_nn hnn x.1.bag w;have hB2:=hB.draw ht.l hn hb (w:=w) (by omega) (by omega);have e:spB x b=setI b x.1.bag (atI b x.1.bag+ -1):=by unfold spB;rw[if_pos hd]
      rw[cnt_tot hn ht2 hr.2 hwr (by rw[e];exact hB2)]
   by_cases hc:x.2.2=true
   · rw[if_pos hc,Nat.add_comm,lsum_allL];by_cases hd:x.2.1=true
     · obtain⟨hb,ha⟩:=hx.d hd;rw[if_pos hd,←hB.sum hn hb,←nSum_mulr];refine nSum_congr fun w hwn=>?_;rw[←hdr hd w hwn,←lsum_mul];refine lsum_congr fun s _=>?_;rw[cntG_t hc];unfold nextV;rw[if_pos hd,if_pos hc]
     · have hdf:x.2.1=false:=by simpa using hd
       have hww:=hw x (by simp) hc hdf;rw[if_neg hd,Int.one_mul,←cnt_tot hn ht2 hr.2 hwr (hB.mix ht.l hn hx hdf)];have e:∀w:Int,lsum (allL n (censG r)) (fun s=>cntG n (x::r) (w::s) B)=if w=x.1.wood then lsum (allL n (censG r)) (fun s=>cntG n r s (mixedB x.1 B)) else 0:=fun w=>by
        by_cases hwx:w=x.1.wood
        · rw[if_pos hwx];refine lsum_congr fun s _=>?_;rw[cntG_t hc];unfold nextV;rw[if_neg hd,if_neg (by rintro⟨_,h⟩;exact h hwx.symm)]
        · rw[if_neg hwx,←lsum_zero (allL n (censG r))];refine lsum_congr fun s _=>?_;rw[cntG_t hc];unfold nextV;rw[if_neg hd,if_pos ⟨hc,fun h=>hwx h.symm⟩]
       simp only[e];rw[nSum_one (fun _=>lsum (allL n (censG r)) (fun s=>cntG n r s (mixedB x.1 B))) x.1.wood n,if_pos hww]
   · rw[if_neg hc,Nat.zero_add];by_cases hd:x.2.1=true
     · obtain⟨hb,ha⟩:=hx.d hd;rw[if_pos hd,←hB.sum hn hb,←nSum_mulr];have e:lsum (allL n (censG r)) (fun s=>cntG n (x::r) s B)=lsum (allL n (censG r)) (fun s=>nSum n fun w=>bgAt B x.1.bag w*cntG n r s (drawB B x.1.bag w)):=lsum_congr fun s _=>by rw[cntG_f hc];unfold nextV;rw[if_pos hd,if_neg hc]
       rw[e,lsum_nSum];refine nSum_congr fun w hwn=>?_;rw[lsum_mul];exact hdr hd w hwn
     · have hdf:x.2.1=false:=by simpa using hd
       rw[if_neg hd,Int.one_mul,←cnt_tot hn ht2 hr.2 hwr (hB.mix ht.l hn hx hdf)];refine lsum_congr fun s _=>?_;rw[cntG_f hc];unfold nextV;rw[if_neg hd,if_neg (fun h=>hc h.1)]
theorem allL_mem{n:Nat}:∀{k:Nat} {s:List Int},s∈allL n k↔s.length=k∧ ∀w∈s,0≤w∧w<n
 | 0,s=>by
   rw[allL,List.mem_singleton]
   constructor
   · rintro rfl;exact⟨rfl,fun w hw=>by cases hw⟩
   · intro h;exact List.eq_nil_of_length_eq_zero h.1
 | k+1,s=>by
   rw[allL,List.mem_flatMap]
   constructor
   · rintro⟨w,hw,hs⟩;obtain⟨t,ht,rfl⟩:=List.mem_map.1 hs;obtain⟨h1,h2⟩:=allL_mem.1 ht;refine⟨by simp[h1],fun v hv=>?_⟩;rcases List.mem_cons.1 hv with rfl | hv
     · have:=List.mem_range.1 hw;omega
     · exact h2 v hv
   · rintro⟨h1,h2⟩;cases s with
     | nil=>simp at h1
     | cons w t=> have hw:=h2 w (by simp);refine⟨w.toNat,List.mem_range.2 (by omega),List.mem_map.2 ⟨t,allL_mem.2 ⟨by simpa using h1,fun v hv=>h2 v (by simp[hv])⟩,?_⟩⟩;rw[show ((w.toNat:Nat):Int)=w by omega]
def szL:List Sp→List Int→List Int
 | [],_=>[]
 | x::r,b=>if x.2.1=true then atI b x.1.bag::szL r (spB x b) else szL r (spB x b)
def allP:List Int→List (List Int)
 | []=>[[]]
 | s::r=>(List.range s.toNat).flatMap fun (p:Nat)=>(allP r).map fun l=>(p:Int)::l
theorem szL_len:∀(l:List Sp) (b:List Int),(szL l b).length=drawN l
 | [],_=>rfl
 | x::r,b=>by
   have:=szL_len r (spB x b);rw[szL];unfold drawN at this ⊢;rw[List.filter_cons];split
   · rw[List.length_cons,List.length_cons,this]
   · exact this
def playT:List Sp→List Int→List Int→Option (List Int)
 | [],_,_=>some []
 | x::r,B,ps=>if x.2.1=true then (match ps with
    | []=>none
    | p::ps=>if 0≤p∧p<bgSize B x.1.bag then (playT r (drawB B x.1.bag (pickW B x.1.bag p)) ps).map fun c=>if x.2.2=true then pickW B x.1.bag p::c else c else none)
   else (playT r (mixedB x.1 B) ps).map fun c=>if x.2.2=true then x.1.wood::c else c
theorem playS_T:∀(l:List Sp) (B ps c:List Int),playS l B ps c=(playT l B ps).map fun s=>c++s
 | [],_,_,c=>by show some c=some (c++[]);rw[List.append_nil]
 | x::r,B,ps,c=>by
   by_cases hd:x.2.1=true
   · cases ps with
     | nil=>simp only[playS,playT,if_pos hd];rfl
     | cons p ps=>
       simp only[playS,playT,if_pos hd];by_cases hp:0≤p∧p<bgSize B x.1.bag
       · rw[if_pos hp,if_pos hp,playS_T r,Option.map_map]
         congr 1
         funext s
         simp only[Function.comp_def];split<;>simp
       · rw[if_neg hp,if_neg hp];rfl
   · simp only[playS,playT,if_neg hd];rw[playS_T r,Option.map_map]
     congr 1
     funext s
     simp only[Function.comp_def];split<;>simp
theorem nSum_add(f:Int→Int)(a:Nat):∀b:Nat,nSum (a+b) f=nSum a f+nSum b fun p=>f (a+p)
 | 0=>by show _=_+0;rw[Int.add_zero];rfl
 | b+1=>by
   show nSum (a+b) f+f ((a+b:Nat):Int)=_
   rw[nSum_add f a b,nSum,Int.natCast_add];omega
theorem nSum_const(k:Int):∀n:Nat,nSum n (fun _=>k)=n*k
 | 0=>by show (0:Int)=((0:Nat):Int)*k;simp
 | n+1=>by rw[nSum,nSum_const k n,Int.natCast_succ,Int.add_mul,Int.one_mul]
theorem nSum_head(f:Int→Int)(n:Nat):nSum (n+1) f=f 0+nSum n fun p=>f (p+1):=by
 rw[Nat.add_comm,nSum_add];show (0+f 0)+_=_
 rw[Int.zero_add]
 congr 1
 refine nSum_congr fun k _=>?_;show f (((1:Nat):Int)+(k:Int))=f ((k:Int)+1)
 rw[Int.add_comm];rfl
theorem pick_sum(F:Int→Int):∀(R:List Int),(∀v∈R,0≤v)→nSum R.sum.toNat (fun p=>F (pickF R p:Nat))=nSum R.length fun w=>R.getD w.toNat 0*F w
 | [],_=>rfl
 | k::r,h=>by
   have hk:=h k (by simp);have hr:=sum_nn (l:=r) fun x hx=>h x (by simp[hx]);have ih:=pick_sum (fun w=>F (w+1)) r fun x hx=>h x (by simp[hx]);rw[List.sum_cons,show (k+r.sum).toNat=k.toNat+r.sum.toNat by omega,nSum_add,List.length_cons,nSum_head]
   congr 1
   · have:nSum k.toNat (fun p=>F (pickF (k::r) p:Nat))=nSum k.toNat fun _=>F 0:=nSum_congr fun p hp=>by
      show F (pickF (k::r) (p:Int):Nat)=_
      rw[pickF,if_pos (by omega)];rfl
     rw[this,nSum_const];show _=(k::r).getD 0 0*F 0
     rw[show ((k.toNat:Nat):Int)=k by omega];rfl
   · have e1:nSum r.sum.toNat (fun p=>F (pickF (k::r) ((k.toNat:Nat)+p):Nat))=nSum r.sum.toNat fun p=>F ((pickF r p:Nat)+1):=nSum_congr fun p hp=>by
      show F (pickF (k::r) (((k.toNat:Nat):Int)+(p:Int)):Nat)=_
      rw[pickF,if_neg (by omega),show ((k.toNat:Nat):Int)+(p:Int)-k=(p:Int) by omega];rw[Int.natCast_add];rfl
     rw[e1,ih];refine nSum_congr fun w _=>?_;show r.getD w 0*F ((w:Int)+1)=(k::r).getD (w+1) 0*F ((w:Int)+1)
     rfl
theorem pickW_sum{B:List Int}(h:∀v∈B,0≤v)(i:Int)(F:Int→Int):nSum (bgSize B i).toNat (fun p=>F (pickW B i p))=nSum 6 fun w=>bgAt B i w*F w:=by
 have:=pick_sum F (rowB B i) (rowB_nn h i);rw[rowB_sum,rowB_len] at this;refine this.trans (nSum_congr fun w hw=>?_);show (rowB B i).getD w 0*F w=_
 rw[rowB_get B i hw]
theorem lsum_allP(s:Int)(r:List Int)(f:List Int→Int):lsum (allP (s::r)) f=nSum s.toNat fun p=>lsum (allP r) fun l=>f (p::l):=
 lsum_flat _ _ _ (fun w=>lsum_map _ _ _) s.toNat
def oneIf(p:Prop)[Decidable p]:Int:=if p then 1 else 0
theorem pick_cnt{n:Nat}(hn:n≤6):∀{l:List Sp} {b:List Int} {m:Int} {B:List Int} (c:List Int),tbIn b m→runOK n l b m→bgT n b B→(∀w∈c,0≤w∧w<n)→c.length=censG l→
  lsum (allP (szL l b)) (fun ps=>oneIf (playT l B ps=some c))=cntG n l c B
 | [],b,m,B,c,_,_,_,_,hl=>by have:c=[]:=List.eq_nil_of_length_eq_zero (by rw[hl];rfl);subst this;rfl
 | x::r,b,m,B,c,ht,hr,hB,hc,hl=>by
   have hx:=hr.1;have ht2:=(ht.step hx).1;have hnn:=hB.nn;rw[censG_cons] at hl;rw[szL];by_cases hd:x.2.1=true
   · obtain⟨hb,ha⟩:=hx.d hd;have hs:=hB.size hb;have e:spB x b=setI b x.1.bag (atI b x.1.bag+ -1):=by unfold spB;rw[if_pos hd]
     rw[if_pos hd,lsum_allP,←hs];have hin:∀p:Nat,p<(bgSize B x.1.bag).toNat→0≤(p:Int)∧(p:Int)<bgSize B x.1.bag:=fun p hp=>by omega
     by_cases hce:x.2.2=true
     · rw[if_pos hce] at hl;cases c with
       | nil=>rw[List.length_nil] at hl;omega
       | cons w c=>
         have hw:=hc w (by simp);have e1:nSum (bgSize B x.1.bag).toNat (fun p=>lsum (allP (szL r (spB x b))) fun ps=>oneIf (playT (x::r) B (p::ps)=some (w::c)))=nSum (bgSize B x.1.bag).toNat (fun p=>(fun v=>if v=w then lsum (allP (szL r (spB x b))) (fun ps=>oneIf (playT r (drawB B x.1.bag v) ps=some c)) else 0) (pickW B x.1.bag p)):=nSum_congr fun p hp=>by
          show _=if pickW B x.1.bag p=w then _ else _
          by_cases hv:pickW B x.1.bag p=w
          · rw[if_pos hv];refine lsum_congr fun ps _=>?_;simp only[playT,if_pos hd,if_pos (hin p hp),if_pos hce,oneIf];cases hh:playT r (drawB B x.1.bag (pickW B x.1.bag p)) ps with
            | none=>simp
            | some s=>simp[hv]
          · rw[if_neg hv,←lsum_zero (allP (szL r (spB x b)))];refine lsum_congr fun ps _=>?_;simp only[playT,if_pos hd,if_pos (hin p hp),if_pos hce,oneIf];cases hh:playT r (drawB B x.1.bag (pickW B x.1.bag p)) ps with
            | none=>simp
            | some s=>simp[hv]
         rw[e1,pickW_sum hnn x.1.bag (fun v=>if v=w then lsum (allP (szL r (spB x b))) (fun ps=>oneIf (playT r (drawB B x.1.bag v) ps=some c)) else 0),cntG_t hce];have e2:nSum 6 (fun v=>bgAt B x.1.bag v*(if v=w then lsum (allP (szL r (spB x b))) (fun ps=>oneIf (playT r (drawB B x.1.bag v) ps=some c)) else 0))=nSum 6 fun v=>if v=w then bgAt B x.1.bag v*lsum (allP (szL r (spB x b))) (fun ps=>oneIf (playT r (drawB B x.1.bag v) ps=some c)) else 0:=nSum_congr fun v _=>by
          show bgAt B x.1.bag v*(if (v:Int)=w then _ else 0)=_
          split
          · rfl
          · rw[Int.mul_zero]
         rw[e2,nSum_one,if_pos (by omega)];unfold nextV;rw[if_pos hd,if_pos hce];by_cases h0:bgAt B x.1.bag w=0
         · rw[h0,Int.zero_mul,Int.zero_mul]
         · have hp:=bgAt_nn hnn x.1.bag w;have hB2:=hB.draw ht.l hn hb (w:=w) (by omega) (by omega);rw[pick_cnt hn c ht2 hr.2 (by rw[e];exact hB2) (fun v hv=>hc v (by simp[hv])) (by rw[List.length_cons] at hl;omega)]
     · rw[if_neg hce,Nat.zero_add] at hl;have e1:nSum (bgSize B x.1.bag).toNat (fun p=>lsum (allP (szL r (spB x b))) fun ps=>oneIf (playT (x::r) B (p::ps)=some c))=nSum (bgSize B x.1.bag).toNat (fun p=>(fun v=>lsum (allP (szL r (spB x b))) (fun ps=>oneIf (playT r (drawB B x.1.bag v) ps=some c))) (pickW B x.1.bag p)):=nSum_congr fun p hp=>by
        refine lsum_congr fun ps _=>?_;simp only[playT,if_pos hd,if_pos (hin p hp),if_neg hce,oneIf];cases hh:playT r (drawB B x.1.bag (pickW B x.1.bag p)) ps with
        | none=>simp
        | some s=>simp
       rw[e1,pickW_sum hnn x.1.bag (fun v=>lsum (allP (szL r (spB x b))) (fun ps=>oneIf (playT r (drawB B x.1.bag v) ps=some c))),cntG_f hce];unfold nextV;rw[if_pos hd,if_neg hce];have hz:∀k:Nat,n≤k→k<n+(6-n)→bgAt B x.1.bag (k:Int)*lsum (allP (szL r (spB x b))) (fun ps=>oneIf (playT r (drawB B x.1.bag k) ps=some c))=0:=fun k h1 h2=>by rw[hB.z x.1.bag k hb (by omega),Int.zero_mul]
       have:=nSum_more (f:=fun v=>bgAt B x.1.bag v*lsum (allP (szL r (spB x b))) (fun ps=>oneIf (playT r (drawB B x.1.bag v) ps=some c))) (6-n) hz;rw[show n+(6-n)=6 by omega] at this;rw[this];refine nSum_congr fun v hv=>?_;by_cases h0:bgAt B x.1.bag v=0
       · rw[h0,Int.zero_mul,Int.zero_mul]
       · have hp:=bgAt_nn hnn x.1.bag v;have hB2:=hB.draw ht.l hn hb (w:=v) (by omega) (by omega);rw[pick_cnt hn c ht2 hr.2 (by rw[e];exact hB2) hc hl]
   · have hdf:x.2.1=false:=by simpa using hd
     have hB2:=hB.mix ht.l hn hx hdf;rw[if_neg hd];by_cases hce:x.2.2=true
     · rw[if_pos hce] at hl;cases c with
       | nil=>rw[List.length_nil] at hl;omega
       | cons w c=>
         rw[cntG_t hce];unfold nextV;rw[if_neg hd];by_cases hw:x.1.wood=w
         · rw[if_neg (fun h=>h.2 hw),←pick_cnt hn c ht2 hr.2 hB2 (fun v hv=>hc v (by simp[hv])) (by rw[List.length_cons] at hl;omega)];refine lsum_congr fun ps _=>?_;simp only[playT,if_neg hd,if_pos hce,oneIf];cases hh:playT r (mixedB x.1 B) ps with
           | none=>simp
           | some s=>simp[hw]
         · rw[if_pos ⟨hce,hw⟩,←lsum_zero (allP (szL r (spB x b)))];refine lsum_congr fun ps _=>?_;simp only[playT,if_neg hd,if_pos hce,oneIf];cases hh:playT r (mixedB x.1 B) ps with
           | none=>simp
           | some s=>simp[hw]
     · rw[if_neg hce,Nat.zero_add] at hl;rw[cntG_f hce,←show nextV x 0 n (cntG n r c) B=nextV x 0 n (cntG n r c) B from rfl];unfold nextV;rw[if_neg hd,if_neg (fun h=>hce h.1),←pick_cnt hn c ht2 hr.2 hB2 hc hl];refine lsum_congr fun ps _=>?_;simp only[playT,if_neg hd,if_neg hce,oneIf];cases hh:playT r (mixedB x.1 B) ps with
       | none=>simp
       | some s=>simp
theorem allP_mem:∀{sz ps:List Int},ps∈allP sz↔ps.length=sz.length∧ ∀i:Nat,i<sz.length→0≤ps.getD i 0∧ps.getD i 0<sz.getD i 0
 | [],ps=>by
   rw[allP,List.mem_singleton]
   constructor
   · rintro rfl;exact⟨rfl,fun i hi=>by simp at hi⟩
   · intro h;exact List.eq_nil_of_length_eq_zero h.1
 | s::r,ps=>by
   rw[allP,List.mem_flatMap]
   constructor
   · rintro⟨p,hp,hs⟩;obtain⟨t,ht,rfl⟩:=List.mem_map.1 hs;obtain⟨h1,h2⟩:=allP_mem.1 ht;have hp:=List.mem_range.1 hp;refine⟨by simp[h1],fun i hi=>?_⟩;cases i with
     | zero=>simp;omega
     | succ i=>simpa using h2 i (by simpa using hi)
   · rintro⟨h1,h2⟩;cases ps with
     | nil=>simp at h1
     | cons p t=>
       have hp:=h2 0 (by simp);simp only[List.getD_cons_zero] at hp;refine⟨p.toNat,List.mem_range.2 (by omega),List.mem_map.2 ⟨t,allP_mem.2 ⟨by simpa using h1,fun i hi=>?_⟩,?_⟩⟩
       · simpa using h2 (i+1) (by simpa using hi)
       · rw[show ((p.toNat:Nat):Int)=p by omega]
theorem play_in{n:Nat}(hn:n≤6):∀{l:List Sp} {b:List Int} {m:Int} {B ps:List Int},tbIn b m→runOK n l b m→wdOK n l→bgT n b B→ps∈allP (szL l b)→ ∃c,playT l B ps=some c∧c.length=censG l∧ ∀w∈c,0≤w∧w<n
 | [],_,_,_,_,_,_,_,_,_=>⟨[],rfl,rfl,fun w hw=>by cases hw⟩
 | x::r,b,m,B,ps,ht,hr,hw,hB,hp=>by
   have hx:=hr.1;have ht2:=(ht.step hx).1;have hwr:wdOK n r:=fun y hy=>hw y (by simp[hy]);rw[szL] at hp;rw[censG_cons];by_cases hd:x.2.1=true
   · obtain⟨hb,ha⟩:=hx.d hd;have hs:=hB.size hb;rw[if_pos hd,allP,List.mem_flatMap] at hp;obtain⟨p,hp,hps⟩:=hp;obtain⟨t,ht',rfl⟩:=List.mem_map.1 hps;have hp:=List.mem_range.1 hp;have hpi:0≤(p:Int)∧(p:Int)<bgSize B x.1.bag:=by omega
     obtain⟨hq,hq2⟩:=pickW_ok hpi.1 hpi.2;have hB2:=hB.draw ht.l hn hb hq hq2;have e:spB x b=setI b x.1.bag (atI b x.1.bag+ -1):=by unfold spB;rw[if_pos hd]
     obtain⟨c,h1,h2,h3⟩:=play_in hn ht2 hr.2 hwr (by rw[e];exact hB2) ht';simp only[playT,if_pos hd,if_pos hpi,h1,Option.map_some];refine⟨_,rfl,?_,?_⟩
     · split
       · rw[List.length_cons,h2];omega
       · rw[h2];omega
     · split
       · intro w hw;rcases List.mem_cons.1 hw with rfl | hw
         · exact⟨hq.1,hB.lt hb hq hq2⟩
         · exact h3 w hw
       · exact h3
   · have hdf:x.2.1=false:=by simpa using hd
     rw[if_neg hd] at hp;obtain⟨c,h1,h2,h3⟩:=play_in hn ht2 hr.2 hwr (hB.mix ht.l hn hx hdf) hp;simp only[playT,if_neg hd,h1,Option.map_some];refine⟨_,rfl,?_,?_⟩
     · split
       · rw[List.length_cons,h2];omega
       · rw[h2];omega
     · split
       · intro w hw';rcases List.mem_cons.1 hw' with rfl | hw'
         · exact hw x (by simp) (by assumption) hdf
         · exact h3 w hw'
       · exact h3
theorem play_out{n:Nat}(hn:n≤6):∀{l:List Sp} {b:List Int} {m:Int} {B ps c:List Int},tbIn b m→runOK n l b m→bgT n b B→ps.length=drawN l→playT l B ps=some c→ps∈allP (szL l b)
 | [],_,_,_,ps,_,_,_,_,hl,_=>by have:ps=[]:=List.eq_nil_of_length_eq_zero (by rw[hl];rfl);subst this;simp[szL,allP]
 | x::r,b,m,B,ps,c,ht,hr,hB,hl,hp=>by
   have hx:=hr.1;have ht2:=(ht.step hx).1;rw[szL];by_cases hd:x.2.1=true
   · obtain⟨hb,ha⟩:=hx.d hd;have hs:=hB.size hb;have hdn:drawN (x::r)=drawN r+1:=by unfold drawN;rw[List.filter_cons,if_pos hd];rfl
     rw[hdn] at hl;cases ps with
     | nil=>simp at hl
     | cons p t=>
       simp only[playT,if_pos hd] at hp;by_cases hpi:0≤p∧p<bgSize B x.1.bag
       · rw[if_pos hpi] at hp;obtain⟨s,h1,-⟩:=Option.map_eq_some_iff.1 hp;obtain⟨hq,hq2⟩:=pickW_ok hpi.1 hpi.2;have hB2:=hB.draw ht.l hn hb hq hq2;have e:spB x b=setI b x.1.bag (atI b x.1.bag+ -1):=by unfold spB;rw[if_pos hd]
         have:=play_out hn ht2 hr.2 (by rw[e];exact hB2) (by rw[List.length_cons] at hl;omega) h1;rw[if_pos hd,allP,List.mem_flatMap];exact⟨p.toNat,List.mem_range.2 (by omega),List.mem_map.2 ⟨t,this,by rw[show ((p.toNat:Nat):Int)=p by omega]⟩⟩
       · rw[if_neg hpi] at hp;cases hp
   · have hdf:x.2.1=false:=by simpa using hd
     have hdn:drawN (x::r)=drawN r:=by unfold drawN;rw[List.filter_cons,if_neg hd]
     rw[hdn] at hl;simp only[playT,if_neg hd] at hp;obtain⟨s,h1,-⟩:=Option.map_eq_some_iff.1 hp;rw[if_neg hd];exact play_out hn ht2 hr.2 (hB.mix ht.l hn hx hdf) hl h1
structure GOK (G:Gm):Prop where
 n1:1≤G.ws.length
 n6:G.ws.length≤6
 d24:G.ds.length≤24
 cnt:∀d∈G.ds,drawsB d=true→1≤d.count∧d.count≤12
 cen:1≤censG (stepsG G.ds)∧censG (stepsG G.ds)≤9
 wd:wdOK G.ws.length (stepsG G.ds)
 ex:runOK G.ws.length (stepsG G.ds) tb0.bags tb0.mixed
 ws:wsErr [] G.ws=0
 ds:dsErr G.ws.length tb0 G.ds=0
theorem bgT0(n:Nat):bgT n tb0.bags bg0:=by
 refine⟨rfl,fun v hv=>?_,fun i w _ _=>bg0_at i w,fun i hi=>?_⟩
 · rw[(List.mem_replicate.1 hv).2];decide
 · rw[nSum6,bg0_at,bg0_at,bg0_at,bg0_at,bg0_at,bg0_at];rcases (by omega:i=0∨i=1∨i=2∨i=3) with rfl|rfl|rfl|rfl<;>rfl
theorem dl_of{n:Nat}{d:Dl}{t:Tb}(h:dlErr n d t=0):inB d.kind 1 6=true∧formD d=true∧dealE n d t=0:=by
 unfold dlErr at h;by_cases hk:inB d.kind 1 6=true
 · rw[if_pos hk] at h;by_cases hf:formD d=true
   · rw[if_pos hf] at h;exact⟨hk,hf,h⟩
   · rw[if_neg hf] at h;exact absurd h (by decide)
 · rw[if_neg hk] at h;exact absurd h (by decide)
theorem ds_cons{n:Nat}{t:Tb}{d:Dl}{r:List Dl}(h:dsErr n t (d::r)=0):dlErr n d t=0∧dsErr n (dealT d t) r=0:=by
 rw[dsErr] at h;by_cases hd:dlErr n d t=0
 · rw[if_pos hd] at h;exact⟨hd,h⟩
 · rw[if_neg hd] at h;exact absurd h hd
theorem deals_tab{n:Nat}:∀(l:List Dl) (t:Tb),tbOK t→dsErr n t l=0→tbOK (dsTab t l)
 | [],t,h,_=>h
 | d::r,t,h,h0=>by obtain⟨h1,h2⟩:=ds_cons h0;obtain⟨k1,k2,k3⟩:=dl_of h1;exact deals_tab r _ (dealT_ok k1 h k3) h2
theorem stp1_wd{n:Nat}{d:Dl}{t:Tb}(hk:inB d.kind 1 6=true)(h0:dealE n d t=0):wdOK n (stp1 d):=by
 intro x hx h1 h2;unfold stp1 at hx;split at hx
 · rw[(List.mem_replicate.1 hx).2] at h2;cases h2
 · rw[List.mem_singleton.1 hx] at h1 ⊢;have h6:d.kind=6:=by simpa using h1
   unfold dealE at h0;rw[if_neg (by omega),if_neg (by omega),if_neg (by omega),if_neg (by omega),if_neg (by omega)] at h0;have:=inB_t.1 (place_0 h0);exact⟨this.1,by show d.wood<_;omega⟩
theorem deals_wd{n:Nat}:∀(l:List Dl) (t:Tb),dsErr n t l=0→wdOK n (stepsG l)
 | [],_,_=>fun x hx=>by cases hx
 | d::r,t,h0=>by
   obtain⟨h1,h2⟩:=ds_cons h0;obtain⟨k1,k2,k3⟩:=dl_of h1;intro x hx;rcases List.mem_append.1 (show x∈stp1 d++stepsG r from hx) with hx | hx
   · exact stp1_wd k1 k3 x hx
   · exact deals_wd r _ h2 x hx
theorem gm_ok{G:Gm}(h:gmErr G=0):GOK G:=by
 unfold gmErr at h;by_cases h1:G.ws=[]
 · rw[if_pos h1] at h;exact absurd h (by decide)
 rw[if_neg h1] at h;by_cases h2:6<G.ws.length
 · rw[if_pos h2] at h;exact absurd h (by decide)
 rw[if_neg h2] at h;by_cases h3:wsErr [] G.ws=0
 rotate_left
 · rw[if_neg h3] at h;exact absurd h h3
 rw[if_pos h3] at h;by_cases h4:24<G.ds.length
 · rw[if_pos h4] at h;exact absurd h (by decide)
 rw[if_neg h4] at h;by_cases h5:dsErr G.ws.length tb0 G.ds=0
 rotate_left
 · rw[if_neg h5] at h;exact absurd h h5
 rw[if_pos h5] at h;by_cases h6:(dsTab tb0 G.ds).cens=0
 · rw[if_pos h6] at h;exact absurd h (by decide)
 obtain⟨i1,i2,i3⟩:=deals_run G.ds tb0 tb0_ok h5;have hw0:G.ws.length≠0:=fun e=>h1 (List.eq_nil_of_length_eq_zero e);have hc0:tb0.cens=0:=rfl;have hc9:=(deals_tab G.ds tb0 tb0_ok h5).c;exact⟨by omega,by omega,by omega,i1,⟨by omega,by omega⟩,deals_wd _ _ h5,i2,h3,h5⟩
theorem tb0_in:tbIn tb0.bags tb0.mixed:=tb0_ok.tin
theorem bgT.bgin{n:Nat}{b B:List Int}{m:Int}(h:bgT n b B)(ht:tbIn b m):bgIn B:=by
 refine⟨h.l,fun v hv=>?_⟩;obtain⟨p,hp,rfl⟩:=List.getElem_of_mem hv;have hp24:p<24:=by rw[←h.l];exact hp
 have hi:(0:Int)≤(p/6:Nat)∧((p/6:Nat):Int)≤3:=by omega
 have:=h.at hi (w:=(p%6:Nat)) (by omega);have h2:=ht.le hi;have h3:=ht.sm;have h4:=ht.m;have e:bgAt B (p/6:Nat) (p%6:Nat)=B[p]:=by unfold bgAt;rw[Int.toNat_natCast,Int.toNat_natCast,show p/6*6+p%6=p by omega,List.getD_eq_getElem?_getD,List.getElem?_eq_getElem hp];rfl
 rw[e] at this;omega
theorem crsG_list{G:Gm}(h:GOK G):crsG G=((allL G.ws.length (censG (stepsG G.ds))).filter fun s=>decide (0<cwG G s)).map fun s=>(s,cwG G s):=crsG_eq G (run_stOK h.ex)
theorem szP_pos{n:Nat}:∀{l:List Sp} {b:List Int} {m:Int},runOK n l b m→1≤szP l b
 | [],_,_,_=>Int.le_refl _
 | x::r,b,m,h=>by
   have ih:=szP_pos h.2;rw[szP];split
   · have:=(h.1.d (by assumption)).2;have:1*1≤atI b x.1.bag*szP r (spB x b):=Int.mul_le_mul this ih (by decide) (by omega);omega
   · omega
theorem lsum_pos{f:List Int→Int}:∀{L:List (List Int)},0<lsum L f→ ∃s∈L,0<f s
 | [],h=>by simp[lsum] at h
 | a::r,h=>by
   rw[lsum_cons] at h;by_cases ha:0<f a
   · exact⟨a,by simp,ha⟩
   · obtain⟨s,hs,hf⟩:=lsum_pos (L:=r) (f:=f) (by omega);exact⟨s,by simp[hs],hf⟩
def allW(G:Gm):Int:=szP (stepsG G.ds) tb0.bags
theorem cwG_tot{G:Gm}(h:GOK G):lsum (allL G.ws.length (censG (stepsG G.ds))) (cwG G)=allW G:=cnt_tot h.n6 tb0_in h.ex h.wd (bgT0 _)
theorem crsG_mem{G:Gm}(h:GOK G){c:List Int×Int}:c∈crsG G↔(c.1.length=censG (stepsG G.ds)∧ ∀w∈c.1,0≤w∧w<G.ws.length)∧0<cwG G c.1∧c.2=cwG G c.1:=by
 rw[crsG_list h,List.mem_map]
 constructor
 · rintro⟨s,hs,rfl⟩;obtain⟨h1,h2⟩:=List.mem_filter.1 hs;exact⟨allL_mem.1 h1,by simpa using h2,rfl⟩
 · rintro⟨h1,h2,h3⟩;exact⟨c.1,List.mem_filter.2 ⟨allL_mem.2 h1,by simpa using h2⟩,by rw[←h3]⟩
theorem crsG_ne{G:Gm}(h:GOK G):crsG G≠[]:=fun e=>by have h1:=cwG_tot h;have h2:=szP_pos h.ex;obtain⟨s,hs,hp⟩:=lsum_pos (L:=allL G.ws.length (censG (stepsG G.ds))) (f:=cwG G) (by rw[h1];exact h2);have:(s,cwG G s)∈crsG G:=(crsG_mem h).2 ⟨allL_mem.1 hs,hp,rfl⟩;rw[e] at this;cases this
theorem szP_le{n:Nat}:∀{l:List Sp} {b:List Int} {m:Int},tbIn b m→runOK n l b m→szP l b≤fct (sumB b+12-m).toNat
 | [],b,m,_,_=>fct_pos _
 | x::r,b,m,ht,h=>by
   obtain⟨ht2,hs⟩:=ht.step h.1;have ih:=szP_le ht2 h.2;rw[szP];by_cases hd:x.2.1=true
   · obtain⟨hb,ha⟩:=h.1.d hd;rw[if_pos hd] at hs ⊢;have hle:=ht.le hb;have hsm:=ht.sm;have hm:=ht.m;obtain⟨k,hk⟩:∃k:Nat,(sumB b+12-m).toNat=k+1:=⟨(sumB b+12-m).toNat-1,by omega⟩;have hk2:(sumB (spB x b)+12-spM x m).toNat=k:=by omega
     rw[hk2] at ih;rw[hk];have hz:=szP_pos h.2;have e1:atI b x.1.bag*szP r (spB x b)≤((k+1:Nat):Int)*fct k:=Int.mul_le_mul (by omega) ih (by omega) (by omega);exact e1
   · rw[if_neg hd] at hs ⊢;have hk2:(sumB (spB x b)+12-spM x m).toNat=(sumB b+12-m).toNat:=by omega
     rw[hk2] at ih;omega
theorem allW_bd{G:Gm}(h:GOK G):1≤allW G∧allW G≤479001600:=by
 have:=szP_le tb0_in h.ex;have e:(sumB tb0.bags+12-tb0.mixed).toNat=12:=by decide
 rw[e,fct12] at this;exact⟨szP_pos h.ex,this⟩
theorem lsum_filter(f:List Int→Int)(hf:∀s,0≤f s):∀L:List (List Int),lsum (L.filter fun s=>decide (0<f s)) f=lsum L f
 | []=>rfl
 | a::r=>by
   rw[List.filter_cons,lsum_cons];have:=hf a;split
   · rw[lsum_cons,lsum_filter f hf r]
   · rename_i h;rw[lsum_filter f hf r];have:¬0<f a:=by simpa using h
     omega
theorem cwG_nn{G:Gm}(h:GOK G)(s:List Int):0≤cwG G s:=cntG_nn _ (run_stOK h.ex) s nn_bg0
def sumA:List (List Int×Int)→Int
 | []=>0
 | y::r=>y.2+sumA r
theorem sumA_map(f:List Int→Int):∀L:List (List Int),sumA (L.map fun s=>(s,f s))=lsum L f
 | []=>rfl
 | a::r=>by rw[List.map_cons,sumA,lsum_cons,sumA_map f r]
theorem crsG_sum{G:Gm}(h:GOK G):sumA (crsG G)=allW G:=by rw[crsG_list h,sumA_map,lsum_filter _ (cwG_nn h),cwG_tot h]
theorem subV2{P:Program}{f:Nat}{args:List AV}{a b:AV}(h:Fn0 P f args (fun v=>v=a))(hs:Sub a b):Fn0 P f args (fun v=>v=b):=
 h.sub fun _ _ e=>⟨b,e▸hs,rfl⟩
theorem crsO_bd(G:Gm):(crsO G).1.length≤5000∧ ∀x∈(crsO G).1,x.1.length≤9:=by
 unfold crsO;by_cases h0:gmErr G=0
 · rw[if_pos h0];by_cases h5:(crsG G).length≤5000
   · rw[if_pos h5];refine⟨h5,fun x hx=>?_⟩;have hG:=gm_ok h0;have:=((crsG_mem hG).1 hx).1.1;have:=hG.cen;omega
   · rw[if_neg h5];exact⟨Nat.zero_le _,fun x hx=>by cases hx⟩
 · rw[if_neg h0];exact⟨Nat.zero_le _,fun x hx=>by cases hx⟩
def ir116:IFn:= ⟨33,[(4,none)],(sO [oo 2 (.box 2 0),oo 3 (.box 2 1),oM 4 (kI 0)] (.seq (.blk 0 (sO [oF 6 0 3,oL 7 6,oC 8 161 [7,(kI 1),(kI 6)],oo 9 (.not 8),oM 5 9] (.cnd 5 (sO [oM 4 (kI 4)] .ret) (sO [oF 11 0 3,oL 12 11,oB 13 .neq 12 (kI 4),oM 14 13,⟨(some 15),(some (14,true)),(.flA 1 3)⟩,⟨(some 16),(some (14,true)),(.ld 1 false 15)⟩,⟨(some 17),(some (14,true)),(.bin .neq 16 (kI 0))⟩,oo 18 (.pick 14 17 (kB false)),oM 10 18] (.cnd 10 (sO [oM 4 (kI 3)] .ret) (sO [oF 20 0 3,oL 21 20,oB 22 .eql 21 (kI 4),oM 23 22,⟨(some 24),(some (23,true)),(.flA 1 3)⟩,⟨(some 25),(some (23,true)),(.ld 1 false 24)⟩,⟨(some 26),(some (23,true)),(.flA 0 2)⟩,⟨(some 27),(some (23,true)),(.ld 1 false 26)⟩,⟨(some 28),(some (23,true)),(.len false 27)⟩,⟨(some 29),(some (23,true)),(.bin .sub 28 (kI 1))⟩,⟨(some 30),(some (23,true)),(.callF 161 [25,(kI 0),29])⟩,⟨(some 31),(some (23,true)),(.not 30)⟩,oo 32 (.pick 23 31 (kB false)),oM 19 32] (.cnd 19 (sO [oM 4 (kI 7)] .ret) .skip))))))) (sO [oM 4 (kI 0)] .ret)))⟩
structure Aq where
 kind:Int
 wood:Int
 deriving DecidableEq
abbrev aqA(a:Aq):AV:= .agg [.int .i64 a.kind,.int .i64 a.wood]
def askErr(n:Nat)(a:Aq):Int:=if inB a.kind 1 6=true then (if a.kind=4 then (if inB a.wood 0 (n-1)=true then 0 else 7) else if a.wood=0 then 0 else 3) else 4
theorem checkAsk_c(G:Gm)(a:Aq)(hn:G.ws.length<1000):FV 116 [gmA G,aqA a] (.int .i64 (askErr G.ws.length a)):=by
 obtain⟨B,hB⟩:∃B,askErr G.ws.length a=B:=⟨_,rfl⟩;rw[hB];unfold askErr at hB;have h1:=gin_c a.kind 1 6;have h2:=gin_c a.wood 0 (G.ws.length-1);cases e1:inB a.kind 1 6 with
 | false=>
   rw[e1] at hB h1;rw[if_neg Bool.false_ne_true] at hB;subst hB;refine wk ir116 Tryz.func116 ?_;unfold ir116
   repeat' (first|refine aR ?_|((with_reducible refine aC ?_);first|refine aV h1 ?_)|refine aX ?_|with_reducible intro _|refine aP ?_ ?_)
   all_goals first|(exfalso;omega)|rfl
 | true=>
   rw[e1] at hB h1;rw[if_pos rfl] at hB;by_cases e4:a.kind=4
   · rw[if_pos e4] at hB;cases e2:inB a.wood 0 (G.ws.length-1) with
     | true=>
       rw[e2] at hB h2;rw[if_pos rfl] at hB;subst hB;refine wk ir116 Tryz.func116 ?_;unfold ir116
       repeat' (first|refine aR ?_|((with_reducible refine aC ?_);first|refine aV h1 ?_|refine aV h2 ?_)|refine aX ?_|with_reducible intro _|refine aP ?_ ?_)
       all_goals first|(exfalso;omega)|rfl
     | false=>
       rw[e2] at hB h2;rw[if_neg Bool.false_ne_true] at hB;subst hB;refine wk ir116 Tryz.func116 ?_;unfold ir116
       repeat' (first|refine aR ?_|((with_reducible refine aC ?_);first|refine aV h1 ?_|refine aV h2 ?_)|refine aX ?_|with_reducible intro _|refine aP ?_ ?_)
       all_goals exact aZ
   · rw[if_neg e4] at hB;by_cases e0:a.wood=0
     · rw[if_pos e0] at hB;subst hB;refine wk ir116 Tryz.func116 ?_;unfold ir116
       repeat' (first|refine aR ?_|((with_reducible refine aC ?_);first|refine aV h1 ?_|refine aV h2 ?_)|refine aX ?_|with_reducible intro _|refine aP ?_ ?_)
       all_goals exact aZ
     · rw[if_neg e0] at hB;subst hB;refine wk ir116 Tryz.func116 ?_;unfold ir116
       repeat' (first|refine aR ?_|((with_reducible refine aC ?_);first|refine aV h1 ?_|refine aV h2 ?_)|refine aX ?_|with_reducible intro _|refine aP ?_ ?_)
       all_goals exact aZ
def ir216:IFn:= ⟨19,[(4,none)],(sO [oM 4 (kI 0)] (.seq (sO [oM 6 0,oN 7 6,oM 8 (kI 0)] (.blk 0 (.loop (sO [oB 9 .lss 8 7] (.seq (.cnd 9 .skip (.exit 0)) (.seq (.blk 1 (sO [oM 10 8,oM 5 10] (sO [oM 11 1,oM 12 0,oM 13 5,oA 14 1 12 13,oL 15 14,oo 16 (.callV 11 [15])] (.cnd 16 (sO [oM 17 5,oM 4 17] .ret) .skip)))) (.ops [oB 18 .add 8 (kI 1),oM 8 18]))))))) (sO [oo 4 (.mov (.k (.int .i64 (-1))))] .ret)))⟩
def ir199:IFn:= ⟨9,[(4,none)],(sO [oM 4 (kB false)] (sO [oM 5 0,oM 6 1,oC 7 216 [5,6],oB 8 .geq 7 (kI 0),oM 4 8] .ret))⟩
def ir200:IFn:= ⟨11,[(3,none)],(sO [oM 3 (kB false)] (sO [oM 4 0,oF 5 0 1,oL 6 5,oN 7 6,oB 8 .sub 7 (kI 1),oC 9 161 [4,(kI 0),8],oo 10 (.not 9),oM 3 10] .ret))⟩
def ir152:IFn:= ⟨13,[(4,none)],(sO [oo 2 (.box 2 0),oM 4 (kI 0)] (.seq (sO [oM 5 1,oN 6 5,oo 7 (.ld 2 true 2),oC 8 198 [7],oB 9 .neq 6 8] (.cnd 9 (sO [oM 4 (kI 3)] .ret) .skip)) (.seq (.seq (.seq (.frz 2) (.ops [oM 10 1,oo 11 (.mkf (.func 200) [] [2]),oC 12 199 [10,11]])) (.cnd 12 (sO [oM 4 (kI 7)] .ret) .skip)) (sO [oM 4 (kI 0)] .ret))))⟩
def hint152(P:Program):Hint:={site:=[],nils:=[],frz:=[(11,2)],mve:=[],wr:=[] }
theorem idxF_c(k:Nat)(cs:List AV)(p:Int→Bool)(l:List Int)(hl:l.length<1000000)(hf:∀x∈l,FV k [.int .i64 x,.pin cs] (.bool (p x))):Fn0 Tryz.prog 216 [.slc 1 (iR l) .non,.clo (.func k) [] [.pin cs]] (fun v=>∃i:Int,v= .int .i64 i∧(0≤i↔l.any p=true)):=by
 refine wk ir216 Tryz.func216 ?_;unfold ir216
 repeat' (first|refine aR ?_|refine aX ?_|with_reducible intro _|refine aP ?_ ?_)
 refine w_loopK [0,1,7] [] (fun x:List Int×List Int=>l=x.1++x.2∧x.1.any p=false) (fun x=>x.2.length) (fun x=>[(8,.int .i64 x.1.length)]) (fun _=>[]) ([],l) ⟨rfl,rfl⟩ ⟨rfl,trivial⟩ trivial ?_;rintro⟨pre,post⟩ ⟨hll,hb⟩ e σ;dsimp only at hll hb ⊢;have hlen:=congrArg List.length hll;cases post with
 | nil=>
   simp only[List.append_nil,List.length_append,List.length_nil] at hlen
   repeat' (first|refine aR ?_|refine aX ?_|with_reducible intro _|refine aP ?_ ?_)
   all_goals first|(exfalso;omega)|exact⟨-1,rfl,by rw[hll,List.append_nil,hb];simp⟩
 | cons c post=>
   simp only[List.length_append,List.length_cons] at hlen;have hfc:=hf c (by rw[hll];simp);cases hpc:p c with
   | false=>
     rw[hpc] at hfc
     repeat' (first|refine aR ?_|(refine w_ixP hll rfl rfl ?_)|((with_reducible refine aC ?_);first|refine aV hfc ?_)|refine aX ?_|with_reducible intro _|refine aP ?_ ?_)
     all_goals first|(exfalso;omega)|exact q_loop (pre++[c],post) ⟨by dsimp only;rw[hll];simp,by rw[List.any_append,hb];simp[hpc]⟩ (Nat.lt_succ_self _) ⟨by rw[len_snoc];rfl,trivial⟩ aS aK aK
   | true=>
     rw[hpc] at hfc
     repeat' (first|refine aR ?_|(refine w_ixP hll rfl rfl ?_)|((with_reducible refine aC ?_);first|refine aV hfc ?_)|refine aX ?_|with_reducible intro _|refine aP ?_ ?_)
     all_goals first|(exfalso;omega)|exact⟨pre.length,rfl,by rw[hll];simp[hpc]⟩
end Go.Abs
