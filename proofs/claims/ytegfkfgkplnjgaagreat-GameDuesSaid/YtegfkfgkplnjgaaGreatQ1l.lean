/- A part of the proofs of the laws of this seat: contracts of the functions that they reach, each proved of the program's form in Lean. No condition beyond those that each contract names. -/
import Derived.Test.YtegfkfgkplnjgaaGreatProg
import Derived.Test.YtegfkfgkplnjgaaGreatSnd3
import Derived.Test.YtegfkfgkplnjgaaGreatA0
import Derived.Test.YtegfkfgkplnjgaaGreatQ1a
import Derived.Test.YtegfkfgkplnjgaaGreatQ1b
import Derived.Test.YtegfkfgkplnjgaaGreatQ1c
import Derived.Test.YtegfkfgkplnjgaaGreatQ1d
import Derived.Test.YtegfkfgkplnjgaaGreatQ1e
import Derived.Test.YtegfkfgkplnjgaaGreatQ1f
import Derived.Test.YtegfkfgkplnjgaaGreatQ1g
import Derived.Test.YtegfkfgkplnjgaaGreatQ1h
import Derived.Test.YtegfkfgkplnjgaaGreatQ1i
import Derived.Test.YtegfkfgkplnjgaaGreatQ1j
import Derived.Test.YtegfkfgkplnjgaaGreatQ1k
set_option linter.unusedVariables false
set_option linter.unusedSimpArgs false
set_option maxRecDepth 20000
set_option maxHeartbeats 4000000
namespace Go.Abs
open Go.Proofs
theorem gameOf_c (g:Nat) (w woods drawn cens:Int) (h1:1≤woods∧woods≤6) (h2:0≤drawn∧drawn≤9) (h3:1≤cens∧cens≤9):RawC Tryz.prog 8 [.ref 1000 g 0,.int .i64 woods,.int .i64 drawn,.int .i64 cens] (BoxS g w) (BoxR g fun av=>∃G,av=gmA G∧madeO G woods drawn cens):=by
 refine RawC.walk (H:=hint8 Tryz.prog) ir8 Tryz.func8 rfl rfl rfl ?_
 unfold ir8
 repeat' (first
  | with_reducible (first|refine Rd.p ?_|refine w_alt ?_ ?_|refine zE ?_|refine zE0 ?_)
  | with_reducible (first|refine zI fun y hy=>?_|refine zL ?_|refine zS ?_|refine zA fun _=>?_|refine zV ?_|refine zC ?_|refine zG ?_|refine zU ?_|refine zG0 ?_|refine zU0 ?_|refine zF ?_)
  | ((with_reducible refine acall_id ?_);refine ACall.box (woodsOf_c _ _ _ h1) rfl rfl rfl ?_;rintro _ _ ⟨ws,rfl,hmw,hw1,hw2⟩)
  | with_reducible (first|refine zX ?_|refine zD fun _=>?_|refine zD0 ?_|refine zN ?_|refine zF0 ?_|refine zX0 ?_|refine z1 ?_|refine z2 ?_|refine z3 ?_|refine z4 ?_|refine z5 ?_|refine z6 ?_|refine z7 ?_|refine z8 ?_|refine y1 ?_|refine y2 ?_|refine y3 ?_|refine y4 ?_|refine y5 ?_|refine y6 ?_|refine y7 ?_|refine y8 ?_|refine Rt.p (fun _=>?_) fun _=>?_)
  | ((with_reducible apply w_ixM);(focus exact rfl);(focus exact rfl);case' hk=>intro y hy)|((with_reducible (first | apply w_val | apply q_ends));(focus exact rfl)))
 rename_i g8 w0 g9
 have hwl:(wR ws).length=ws.length:=List.length_map _
 refine w_loopK [0,2,3,8,9,50,51,52,53,66,67,152,153,154,155,156,186,187,188,189,190,193,194,195,196,197] [8] (fun x:List Dl×List Bool×Int×Nat×Nat=>mkG ws.length x.1 {tb0 with tried:=x.2.1 } 0∧x.2.2.2.2≤ws.length∧x.1.length≤x.2.2.2.2∧ ∀i:Nat,x.2.2.2.2≤i→x.2.1.getD i false=false)
  (fun x=>ws.length-x.2.2.2.2) (fun x=>[(10,.int .i64 (x.2.2.2.2:Int))]) (fun x=>[(1000,(g,.row [.int .u64 x.2.2.1])),(9,(g9,.row [.slc 2 (wR ws) .non,dlV x.1 x.2.2.2.1])),(42,dlX x.1 x.2.2.2.1)]) ([],tb0.tried,w0,0,0) ⟨mkG.nil _,Nat.zero_le _,Nat.le_refl _,fun i _=>by
    show ([false,false,false,false,false,false]:List Bool).getD i false=false
    rcases i with _ | _ | _ | _ | _ | _ | i<;>rfl⟩ ⟨rfl,trivial⟩ ⟨rfl,rfl,rfl,trivial⟩ ?_
 rintro⟨D,tr,w,gd,j⟩ ⟨hmk,hj,hDl,htr⟩ e σ
 dsimp only at hmk hj hDl htr ⊢
 by_cases hjn:j=ws.length
 rotate_left
 · have hmk2:=hmk.trial (w:=(j:Int)) (by omega) (htr j (Nat.le_refl _))
   have htr2:∀i:Nat,j+1≤i→(tr.set j true).getD i false=false:=fun i hi=>by
    rw[List.getD_eq_getElem?_getD,List.getElem?_set,if_neg (by omega),←List.getD_eq_getElem?_getD]
    exact htr i (by omega)
   cases D with
   | nil=>
     repeat' (first
      | with_reducible (first|refine Rd.p ?_|refine w_alt ?_ ?_|refine zE ?_|refine zE0 ?_)
      | with_reducible (first|refine zI fun y hy=>?_|refine zL ?_|refine zS ?_|refine zA fun _=>?_|refine zV ?_|refine zC ?_|refine zG ?_|refine zU ?_|refine zG0 ?_|refine zU0 ?_|refine zF ?_)
      | ((with_reducible refine acall_id ?_);refine ACall.box (one_c _ _ _ (by omega)) rfl rfl rfl ?_;rintro _ _ ⟨b,rfl⟩)
      | with_reducible (first|refine zX ?_|refine zD fun _=>?_|refine zD0 ?_|refine zN ?_|refine zF0 ?_|refine zX0 ?_|refine z1 ?_|refine z2 ?_|refine z3 ?_|refine z4 ?_|refine z5 ?_|refine z6 ?_|refine z7 ?_|refine z8 ?_|refine y1 ?_|refine y2 ?_|refine y3 ?_|refine y4 ?_|refine y5 ?_|refine y6 ?_|refine y7 ?_|refine y8 ?_|refine Rt.p (fun _=>?_) fun _=>?_)
      | ((with_reducible apply w_ixM);(focus exact rfl);(focus exact rfl);case' hk=>intro y hy)|((with_reducible (first | apply w_val | apply q_ends));(focus exact rfl)))
     all_goals first
      | (exfalso;omega)
      | exact q_loop ([⟨1,0,0,(j:Int),0⟩],tr.set j true,_,_,j+1) ⟨hmk2,by show j+1≤_;omega,Nat.le_add_left _ _,htr2⟩ (by show _-(j+1)<_-j;omega) ⟨int_eq (by simp),trivial⟩ aS aK aK
      | exact q_loop ([],tr,_,gd,j+1) ⟨hmk,by show j+1≤_;omega,Nat.zero_le _,fun i hi=>htr i (by dsimp only at hi;omega)⟩ (by show _-(j+1)<_-j;omega) ⟨int_eq (by simp),trivial⟩ aS aK aK
   | cons x l=>
     have hxl:(dlR (x::l)).length=(x::l).length:=List.length_map _
     repeat' (first
      | with_reducible (first|refine Rd.p ?_|refine w_alt ?_ ?_|refine zE ?_|refine zE0 ?_)
      | with_reducible (first|refine zI fun y hy=>?_|refine zL ?_|refine zS ?_|refine zA fun _=>?_|refine zV ?_|refine zC ?_|refine zG ?_|refine zU ?_|refine zG0 ?_|refine zU0 ?_|refine zF ?_)
      | ((with_reducible refine acall_id ?_);refine ACall.box (one_c _ _ _ (by omega)) rfl rfl rfl ?_;rintro _ _ ⟨b,rfl⟩)
      | with_reducible (first|refine zX ?_|refine zD fun _=>?_|refine zD0 ?_|refine zN ?_|refine zF0 ?_|refine zX0 ?_|refine z1 ?_|refine z2 ?_|refine z3 ?_|refine z4 ?_|refine z5 ?_|refine z6 ?_|refine z7 ?_|refine z8 ?_|refine y1 ?_|refine y2 ?_|refine y3 ?_|refine y4 ?_|refine y5 ?_|refine y6 ?_|refine y7 ?_|refine y8 ?_|refine Rt.p (fun _=>?_) fun _=>?_)
      | ((with_reducible apply w_ixM);(focus exact rfl);(focus exact rfl);case' hk=>intro y hy)|((with_reducible (first | apply w_val | apply q_ends));(focus exact rfl)))
     all_goals first
      | (exfalso;omega)
      | exact q_loop (x::l++[⟨1,0,0,(j:Int),0⟩],tr.set j true,_,_,j+1) ⟨hmk2,by show j+1≤_;omega,by show (x::l++[_]).length≤j+1;rw[len_snoc];omega,htr2⟩ (by show _-(j+1)<_-j;omega) ⟨int_eq (by simp),trivial⟩ ⟨rfl,sl9 ⟨1,0,0,(j:Int),0⟩ _,rfl,trivial⟩ aK aK
      | exact q_loop (x::l,tr,_,gd,j+1) ⟨hmk,by show j+1≤_;omega,by show (x::l).length≤j+1;omega,fun i hi=>htr i (by dsimp only at hi;omega)⟩ (by show _-(j+1)<_-j;omega) ⟨int_eq (by simp),trivial⟩ aS aK aK
 subst hjn
 clear htr hj
 repeat' (first
  | with_reducible (first|refine Rd.p ?_|refine w_alt ?_ ?_|refine zE ?_|refine zE0 ?_)
  | with_reducible (first|refine zI fun y hy=>?_|refine zL ?_|refine zS ?_|refine zA fun _=>?_|refine zV ?_|refine zC ?_|refine zG ?_|refine zU ?_|refine zG0 ?_|refine zU0 ?_|refine zF ?_)
  | ((with_reducible refine acall_id ?_);refine ACall.box (upp_c _ _ 2 (by omega) (by omega)) rfl rfl rfl ?_;rintro _ _ ⟨bg,rfl,hbg1,hbg2⟩)
  | with_reducible (first|refine zX ?_|refine zD fun _=>?_|refine zD0 ?_|refine zN ?_|refine zF0 ?_|refine zX0 ?_|refine z1 ?_|refine z2 ?_|refine z3 ?_|refine z4 ?_|refine z5 ?_|refine z6 ?_|refine z7 ?_|refine z8 ?_|refine y1 ?_|refine y2 ?_|refine y3 ?_|refine y4 ?_|refine y5 ?_|refine y6 ?_|refine y7 ?_|refine y8 ?_|refine Rt.p (fun _=>?_) fun _=>?_)
  | ((with_reducible apply w_ixM);(focus exact rfl);(focus exact rfl);case' hk=>intro y hy)|((with_reducible (first | apply w_val | apply q_ends));(focus exact rfl)))
 rename_i w1 g12
 refine w_loopK [0,2,3,8,9,11,12] [8] (fun x:List Dl×Tb×Int×Nat×Int×Nat=>mkG ws.length x.1 x.2.1 x.2.2.1∧x.2.2.2.1≤10∧x.1.length≤22∧0≤x.2.2.1∧x.2.2.1≤drawn∧x.2.1.cens≤cens)
  (fun x=>10-x.2.2.2.1) (fun x=>[(13,.int .i64 x.2.1.mixed),(14,.int .i64 x.2.2.1),(15,.int .i64 x.2.1.cens),(16,.int .i64 (x.2.2.2.1:Int))]) (fun x=>[(1000,(g,.row [.int .u64 x.2.2.2.2.1])),(9,(g9,.row [.slc 2 (wR ws) .non,dlV x.1 x.2.2.2.2.2])),(42,dlX x.1 x.2.2.2.2.2),(12,(g12,.row (nI x.2.1.bags)))]) (D,{tb0 with tried:=tr },0,0,w1,gd) ⟨hmk,Nat.zero_le _,by dsimp only;omega,Int.le_refl _,by dsimp only;omega,by show (0:Int)≤cens;omega⟩ ⟨rfl,rfl,rfl,rfl,trivial⟩ ⟨rfl,rfl,rfl,rfl,trivial⟩ ?_
 clear hmk hDl
 rintro⟨D,T,had,turn,w,gd⟩ ⟨hmk,hturn,hDl,hh0,hhd,hcn⟩ e σ
 dsimp only at hmk hturn hDl hh0 hhd hcn ⊢
 have hok:=hmk.ok
 have hb4:=hok.b
 have hm:=hok.m
 have hcc:=hok.c
 by_cases hgo:turn<10∧D.length<22
 · cases D with
   | nil=>
     repeat' (first
      | with_reducible (first|refine Rd.p ?_|refine w_alt ?_ ?_|refine zE ?_|refine zE0 ?_)
      | with_reducible (first|refine zI fun y hy=>?_|refine zL ?_|refine zS ?_|refine zA fun _=>?_|refine zV ?_|refine zC ?_|refine zG ?_|refine zU ?_|refine zG0 ?_|refine zU0 ?_|refine zF ?_)
      | ((with_reducible refine acall_id ?_);refine ACall.box (upp_c _ _ (1+bg) (by omega) (by omega)) rfl rfl rfl ?_;rintro _ _ ⟨bag,rfl,hbag1,hbag2⟩)
      | with_reducible (first|refine zX ?_|refine zD fun _=>?_|refine zD0 ?_|refine zN ?_|refine zF0 ?_|refine zX0 ?_|refine z1 ?_|refine z2 ?_|refine z3 ?_|refine z4 ?_|refine z5 ?_|refine z6 ?_|refine z7 ?_|refine z8 ?_|refine y1 ?_|refine y2 ?_|refine y3 ?_|refine y4 ?_|refine y5 ?_|refine y6 ?_|refine y7 ?_|refine y8 ?_|refine Rt.p (fun _=>?_) fun _=>?_)
      | ((with_reducible apply w_ixM);(focus exact rfl);(focus exact rfl);case' hk=>intro y hy)|((with_reducible (first | apply w_val | apply q_ends));(focus exact rfl)))
     repeat' (first
      | with_reducible (first|refine Rd.p ?_|refine w_alt ?_ ?_|refine zE ?_|refine zE0 ?_)
      | (first|(refine w_ldBag (p:=bag.toNat) hok rfl (by omega) rfl (by omega) ?_;intro hbdB)|(refine w_ldBag (p:=oth.toNat) hok rfl (by omega) rfl (by omega) ?_;intro hbdO)|refine w_stEl (p:=bag.toNat) rfl (by omega) rfl (by first | omega|(rw[List.length_set];omega)) rfl ?_|refine w_stEl (p:=oth.toNat) rfl (by omega) rfl (by omega) rfl ?_)
      | with_reducible (first|refine zI fun y hy=>?_|refine zL ?_|refine zS ?_|refine zA fun _=>?_|refine zV ?_|refine zC ?_|refine zG ?_|refine zU ?_|refine zG0 ?_|refine zU0 ?_|refine zF ?_)
      | ((with_reducible refine acall_id ?_);refine ACall.box (upp_c _ _ 7 (by omega) (by omega)) rfl rfl rfl ?_;rintro _ _ ⟨kd,rfl,hkd1,hkd2⟩)
      | ((with_reducible refine acall_id ?_);refine ACall.box (upp_c _ _ (1+bg) (by omega) (by omega)) rfl rfl rfl ?_;rintro _ _ ⟨oth,rfl,ho1,ho2⟩)
      | ((with_reducible refine acall_id ?_);refine ACall.box (any_c _ _ _ _ (by omega) (by omega) (by omega) (by omega)) rfl rfl rfl ?_;rintro _ _ ⟨c,rfl,hc1,hc2⟩)
      | ((with_reducible refine acall_id ?_);refine ACall.box (upp_c _ _ _ (by omega) (by omega)) rfl rfl rfl ?_;rintro _ _ ⟨wd,rfl,hw1,hw2⟩)
      | ((with_reducible refine acall_id ?_);refine ACall.box (one_c _ _ _ (by omega)) rfl rfl rfl ?_;rintro _ _ ⟨b,rfl⟩)
      | with_reducible (first|refine zX ?_|refine zD fun _=>?_|refine zD0 ?_|refine zN ?_|refine zF0 ?_|refine zX0 ?_|refine z1 ?_|refine z2 ?_|refine z3 ?_|refine z4 ?_|refine z5 ?_|refine z6 ?_|refine z7 ?_|refine z8 ?_|refine y1 ?_|refine y2 ?_|refine y3 ?_|refine y4 ?_|refine y5 ?_|refine y6 ?_|refine y7 ?_|refine y8 ?_|refine Rt.p (fun _=>?_) fun _=>?_)
      | ((with_reducible apply w_ixM);(focus exact rfl);(focus exact rfl);case' hk=>intro y hy)|((with_reducible (first | apply w_val | apply q_ends));(focus exact rfl)))
     all_goals first
      | (exfalso;omega)
      | (have hq:kd≤2∧T.mixed+c≤12:=by omega
         exact q_loop ([⟨2,bag,0,wd,c⟩],{T with mixed:=T.mixed+c,bags:=setI T.bags bag (atI T.bags bag+c) },had,turn+1,_,_) ⟨hmk.mix (by omega) (by omega) (by omega) (by omega),by show turn+1≤10;omega,by show (1:Nat)≤22;decide,by dsimp only;omega,by dsimp only;omega,by dsimp only;omega⟩ (by show 10-(turn+1)<10-turn;omega) ⟨rfl,rfl,rfl,int_eq (by simp),trivial⟩ ⟨rfl,rfl,rfl,rfl,trivial⟩ aK aK)
      | (have hq:kd=3∧bag≠oth:=by omega
         exact q_loop ([⟨3,bag,oth,0,0⟩],{T with bags:=setI (setI T.bags oth (atI T.bags oth+atI T.bags bag)) bag 0 },had,turn+1,_,_) ⟨hmk.pour (by omega) (by omega) (by omega),by show turn+1≤10;omega,by show (1:Nat)≤22;decide,by dsimp only;omega,by dsimp only;omega,by dsimp only;omega⟩ (by show 10-(turn+1)<10-turn;omega) ⟨rfl,rfl,rfl,int_eq (by simp),trivial⟩ ⟨rfl,rfl,rfl,rfl,trivial⟩ aK aK)
      | (have hq:kd=4∧c≤T.bags.getD bag.toNat 0∧had+c≤drawn:=by omega
         exact q_loop ([⟨4,bag,0,0,c⟩],{T with bags:=setI T.bags bag (atI T.bags bag-c) },had+c,turn+1,_,_) ⟨hmk.aside (by omega) (by unfold atI;omega),by show turn+1≤10;omega,by show (1:Nat)≤22;decide,by dsimp only;omega,by dsimp only;omega,by dsimp only;omega⟩ (by show 10-(turn+1)<10-turn;omega) ⟨rfl,rfl,rfl,int_eq (by simp),trivial⟩ ⟨rfl,rfl,rfl,rfl,trivial⟩ aK aK)
      | (have hq:kd=5∧c≤T.bags.getD bag.toNat 0∧had+c≤drawn∧T.cens+c≤cens:=by omega
         exact q_loop ([⟨5,bag,0,0,c⟩],{T with bags:=setI T.bags bag (atI T.bags bag-c),cens:=T.cens+c },had+c,turn+1,_,_) ⟨hmk.pass (by omega) (by unfold atI;omega) (by omega),by show turn+1≤10;omega,by show (1:Nat)≤22;decide,by dsimp only;omega,by dsimp only;omega,by dsimp only;omega⟩ (by show 10-(turn+1)<10-turn;omega) ⟨rfl,rfl,rfl,int_eq (by simp),trivial⟩ ⟨rfl,rfl,rfl,rfl,trivial⟩ aK aK)
      | (have hq:kd=6∧T.cens<cens:=by omega
         exact q_loop ([⟨6,0,0,wd,0⟩],{T with cens:=T.cens+1 },had,turn+1,_,_) ⟨hmk.place (by omega) (by omega),by show turn+1≤10;omega,by show (1:Nat)≤22;decide,by dsimp only;omega,by dsimp only;omega,by dsimp only;omega⟩ (by show 10-(turn+1)<10-turn;omega) ⟨rfl,rfl,rfl,int_eq (by simp),trivial⟩ ⟨rfl,rfl,rfl,rfl,trivial⟩ aK aK)
      | exact q_loop ([],T,had,turn+1,_,gd) ⟨hmk,by show turn+1≤10;omega,by show (([]:List Dl)).length≤22;decide,by dsimp only;omega,by dsimp only;omega,by dsimp only;omega⟩ (by show 10-(turn+1)<10-turn;omega) ⟨rfl,rfl,rfl,int_eq (by simp),trivial⟩ aS aK aK
   | cons x l=>
     have hxl:(dlR (x::l)).length=(x::l).length:=List.length_map _
     repeat' (first
      | with_reducible (first|refine Rd.p ?_|refine w_alt ?_ ?_|refine zE ?_|refine zE0 ?_)
      | with_reducible (first|refine zI fun y hy=>?_|refine zL ?_|refine zS ?_|refine zA fun _=>?_|refine zV ?_|refine zC ?_|refine zG ?_|refine zU ?_|refine zG0 ?_|refine zU0 ?_|refine zF ?_)
      | ((with_reducible refine acall_id ?_);refine ACall.box (upp_c _ _ (1+bg) (by omega) (by omega)) rfl rfl rfl ?_;rintro _ _ ⟨bag,rfl,hbag1,hbag2⟩)
      | with_reducible (first|refine zX ?_|refine zD fun _=>?_|refine zD0 ?_|refine zN ?_|refine zF0 ?_|refine zX0 ?_|refine z1 ?_|refine z2 ?_|refine z3 ?_|refine z4 ?_|refine z5 ?_|refine z6 ?_|refine z7 ?_|refine z8 ?_|refine y1 ?_|refine y2 ?_|refine y3 ?_|refine y4 ?_|refine y5 ?_|refine y6 ?_|refine y7 ?_|refine y8 ?_|refine Rt.p (fun _=>?_) fun _=>?_)
      | ((with_reducible apply w_ixM);(focus exact rfl);(focus exact rfl);case' hk=>intro y hy)|((with_reducible (first | apply w_val | apply q_ends));(focus exact rfl)))
     repeat' (first
      | with_reducible (first|refine Rd.p ?_|refine w_alt ?_ ?_|refine zE ?_|refine zE0 ?_)
      | (first|(refine w_ldBag (p:=bag.toNat) hok rfl (by omega) rfl (by omega) ?_;intro hbdB)|(refine w_ldBag (p:=oth.toNat) hok rfl (by omega) rfl (by omega) ?_;intro hbdO)|refine w_stEl (p:=bag.toNat) rfl (by omega) rfl (by first | omega|(rw[List.length_set];omega)) rfl ?_|refine w_stEl (p:=oth.toNat) rfl (by omega) rfl (by omega) rfl ?_)
      | with_reducible (first|refine zI fun y hy=>?_|refine zL ?_|refine zS ?_|refine zA fun _=>?_|refine zV ?_|refine zC ?_|refine zG ?_|refine zU ?_|refine zG0 ?_|refine zU0 ?_|refine zF ?_)
      | ((with_reducible refine acall_id ?_);refine ACall.box (upp_c _ _ 7 (by omega) (by omega)) rfl rfl rfl ?_;rintro _ _ ⟨kd,rfl,hkd1,hkd2⟩)
      | ((with_reducible refine acall_id ?_);refine ACall.box (upp_c _ _ (1+bg) (by omega) (by omega)) rfl rfl rfl ?_;rintro _ _ ⟨oth,rfl,ho1,ho2⟩)
      | ((with_reducible refine acall_id ?_);refine ACall.box (any_c _ _ _ _ (by omega) (by omega) (by omega) (by omega)) rfl rfl rfl ?_;rintro _ _ ⟨c,rfl,hc1,hc2⟩)
      | ((with_reducible refine acall_id ?_);refine ACall.box (upp_c _ _ _ (by omega) (by omega)) rfl rfl rfl ?_;rintro _ _ ⟨wd,rfl,hw1,hw2⟩)
      | ((with_reducible refine acall_id ?_);refine ACall.box (one_c _ _ _ (by omega)) rfl rfl rfl ?_;rintro _ _ ⟨b,rfl⟩)
      | with_reducible (first|refine zX ?_|refine zD fun _=>?_|refine zD0 ?_|refine zN ?_|refine zF0 ?_|refine zX0 ?_|refine z1 ?_|refine z2 ?_|refine z3 ?_|refine z4 ?_|refine z5 ?_|refine z6 ?_|refine z7 ?_|refine z8 ?_|refine y1 ?_|refine y2 ?_|refine y3 ?_|refine y4 ?_|refine y5 ?_|refine y6 ?_|refine y7 ?_|refine y8 ?_|refine Rt.p (fun _=>?_) fun _=>?_)
      | ((with_reducible apply w_ixM);(focus exact rfl);(focus exact rfl);case' hk=>intro y hy)|((with_reducible (first | apply w_val | apply q_ends));(focus exact rfl)))
     all_goals first
      | (exfalso;omega)
      | (have hq:kd≤2∧T.mixed+c≤12:=by omega
         exact q_loop (x::l++[⟨2,bag,0,wd,c⟩],{T with mixed:=T.mixed+c,bags:=setI T.bags bag (atI T.bags bag+c) },had,turn+1,_,_) ⟨hmk.mix (by omega) (by omega) (by omega) (by omega),by show turn+1≤10;omega,by show (x::l++[_]).length≤22;rw[len_snoc];omega,by dsimp only;omega,by dsimp only;omega,by dsimp only;omega⟩ (by show 10-(turn+1)<10-turn;omega) ⟨rfl,rfl,rfl,int_eq (by simp),trivial⟩ ⟨rfl,sl9 ⟨2,bag,0,wd,c⟩ _,rfl,rfl,trivial⟩ aK aK)
      | (have hq:kd=3∧bag≠oth:=by omega
         exact q_loop (x::l++[⟨3,bag,oth,0,0⟩],{T with bags:=setI (setI T.bags oth (atI T.bags oth+atI T.bags bag)) bag 0 },had,turn+1,_,_) ⟨hmk.pour (by omega) (by omega) (by omega),by show turn+1≤10;omega,by show (x::l++[_]).length≤22;rw[len_snoc];omega,by dsimp only;omega,by dsimp only;omega,by dsimp only;omega⟩ (by show 10-(turn+1)<10-turn;omega) ⟨rfl,rfl,rfl,int_eq (by simp),trivial⟩ ⟨rfl,sl9 ⟨3,bag,oth,0,0⟩ _,rfl,rfl,trivial⟩ aK aK)
      | (have hq:kd=4∧c≤T.bags.getD bag.toNat 0∧had+c≤drawn:=by omega
         exact q_loop (x::l++[⟨4,bag,0,0,c⟩],{T with bags:=setI T.bags bag (atI T.bags bag-c) },had+c,turn+1,_,_) ⟨hmk.aside (by omega) (by unfold atI;omega),by show turn+1≤10;omega,by show (x::l++[_]).length≤22;rw[len_snoc];omega,by dsimp only;omega,by dsimp only;omega,by dsimp only;omega⟩ (by show 10-(turn+1)<10-turn;omega) ⟨rfl,rfl,rfl,int_eq (by simp),trivial⟩ ⟨rfl,sl9 ⟨4,bag,0,0,c⟩ _,rfl,rfl,trivial⟩ aK aK)
      | (have hq:kd=5∧c≤T.bags.getD bag.toNat 0∧had+c≤drawn∧T.cens+c≤cens:=by omega
         exact q_loop (x::l++[⟨5,bag,0,0,c⟩],{T with bags:=setI T.bags bag (atI T.bags bag-c),cens:=T.cens+c },had+c,turn+1,_,_) ⟨hmk.pass (by omega) (by unfold atI;omega) (by omega),by show turn+1≤10;omega,by show (x::l++[_]).length≤22;rw[len_snoc];omega,by dsimp only;omega,by dsimp only;omega,by dsimp only;omega⟩ (by show 10-(turn+1)<10-turn;omega) ⟨rfl,rfl,rfl,int_eq (by simp),trivial⟩ ⟨rfl,sl9 ⟨5,bag,0,0,c⟩ _,rfl,rfl,trivial⟩ aK aK)
      | (have hq:kd=6∧T.cens<cens:=by omega
         exact q_loop (x::l++[⟨6,0,0,wd,0⟩],{T with cens:=T.cens+1 },had,turn+1,_,_) ⟨hmk.place (by omega) (by omega),by show turn+1≤10;omega,by show (x::l++[_]).length≤22;rw[len_snoc];omega,by dsimp only;omega,by dsimp only;omega,by dsimp only;omega⟩ (by show 10-(turn+1)<10-turn;omega) ⟨rfl,rfl,rfl,int_eq (by simp),trivial⟩ ⟨rfl,sl9 ⟨6,0,0,wd,0⟩ _,rfl,rfl,trivial⟩ aK aK)
      | exact q_loop (x::l,T,had,turn+1,_,gd) ⟨hmk,by show turn+1≤10;omega,by show (x::l).length≤22;omega,by dsimp only;omega,by dsimp only;omega,by dsimp only;omega⟩ (by show 10-(turn+1)<10-turn;omega) ⟨rfl,rfl,rfl,int_eq (by simp),trivial⟩ aS aK aK
 · have hstop:¬(turn:Int)<10∨(turn:Int)<10∧ ¬(D.length:Int)<22:=by omega
   cases D with
   | nil=>
     have hT:tb0=T:=hmk.t
     subst hT
     have hz:([]:List Dl).length=0:=rfl
     have hb0:tb0.bags.getD 0 0=0:=rfl
     have hc0:tb0.cens=0:=rfl
     repeat' (first
      | with_reducible (first|refine Rd.p ?_|refine w_alt ?_ ?_|refine zE ?_|refine zE0 ?_)
      | (first|refine w_ldEl (p:=0) rfl rfl rfl (by decide) ?_)
      | with_reducible (first|refine zI fun y hy=>?_|refine zL ?_|refine zS ?_|refine zA fun _=>?_|refine zV ?_|refine zC ?_|refine zG ?_|refine zU ?_|refine zG0 ?_|refine zU0 ?_|refine zF ?_)
      | ((with_reducible refine acall_id ?_);refine ACall.box (upp_c _ _ _ (by omega) (by omega)) rfl rfl rfl ?_;rintro _ _ ⟨wd,rfl,hwd1,hwd2⟩)
      | with_reducible (first|refine zX ?_|refine zD fun _=>?_|refine zD0 ?_|refine zN ?_|refine zF0 ?_|refine zX0 ?_|refine z1 ?_|refine z2 ?_|refine z3 ?_|refine z4 ?_|refine z5 ?_|refine z6 ?_|refine z7 ?_|refine z8 ?_|refine y1 ?_|refine y2 ?_|refine y3 ?_|refine y4 ?_|refine y5 ?_|refine y6 ?_|refine y7 ?_|refine y8 ?_|refine Rt.p (fun _=>?_) fun _=>?_)
      | ((with_reducible apply w_ixM);(focus exact rfl);(focus exact rfl);case' hk=>intro y hy)|((with_reducible (first | apply w_val | apply q_ends));(focus exact rfl)))
     all_goals first
      | (exfalso;omega)
      | exact⟨_,⟨⟨ws,[⟨6,0,0,wd,0⟩]⟩,rfl,mkG.made (G:=⟨ws,[⟨6,0,0,wd,0⟩]⟩) (hmk.place (by omega) (by omega)) hmw hw1 hw2 h1.2 (by show (1:Nat)≤24;decide) hhd ⟨by show (1:Int)≤tb0.cens+1;omega,by show tb0.cens+1≤cens;omega⟩⟩,rfl⟩
   | cons x l=>
     have hxl:(dlR (x::l)).length=(x::l).length:=List.length_map _
     rcases hstop with hstop | ⟨hstop,hstop2⟩
     all_goals
      repeat' (first
       | with_reducible (first|refine Rd.p ?_|refine w_alt ?_ ?_|refine zE ?_|refine zE0 ?_)
       | (first|(refine w_ldBag (p:=0) hok rfl rfl rfl (by decide) ?_;intro hbd0))
       | with_reducible (first|refine zI fun y hy=>?_|refine zL ?_|refine zS ?_|refine zA fun _=>?_|refine zV ?_|refine zC ?_|refine zG ?_|refine zU ?_|refine zG0 ?_|refine zU0 ?_|refine zF ?_)
       | ((with_reducible refine acall_id ?_);refine ACall.box (upp_c _ _ _ (by omega) (by omega)) rfl rfl rfl ?_;rintro _ _ ⟨wd,rfl,hwd1,hwd2⟩)
       | with_reducible (first|refine zX ?_|refine zD fun _=>?_|refine zD0 ?_|refine zN ?_|refine zF0 ?_|refine zX0 ?_|refine z1 ?_|refine z2 ?_|refine z3 ?_|refine z4 ?_|refine z5 ?_|refine z6 ?_|refine z7 ?_|refine z8 ?_|refine y1 ?_|refine y2 ?_|refine y3 ?_|refine y4 ?_|refine y5 ?_|refine y6 ?_|refine y7 ?_|refine y8 ?_|refine Rt.p (fun _=>?_) fun _=>?_)
       | ((with_reducible apply w_ixM);(focus exact rfl);(focus exact rfl);case' hk=>intro y hy)|((with_reducible (first | apply w_val | apply q_ends));(focus exact rfl)))
      all_goals first
       | (exfalso;omega)
       | (have hq:0<min (min (T.bags.getD 0 0) (drawn-had)) (cens-T.cens):=by omega
          exact⟨_,⟨⟨ws,x::l++[⟨5,0,0,0,min (min (T.bags.getD 0 0) (drawn-had)) (cens-T.cens)⟩]⟩,by
           show AV.agg [AV.slc 2 (wR ws) .non,AV.slc 5 _ .non]=_
           exact gm_snoc (ws:=ws) (x:=x) (l:=l) ⟨5,0,0,0,min (min (T.bags.getD 0 0) (drawn-had)) (cens-T.cens)⟩,mkG.made (G:=⟨ws,x::l++[⟨5,0,0,0,min (min (T.bags.getD 0 0) (drawn-had)) (cens-T.cens)⟩]⟩) (hmk.pass (b:=0) (by omega) (by unfold atI;rw[show (0:Int).toNat=0 from rfl];omega) (by omega)) hmw hw1 hw2 h1.2 (by show (x::l++[_]).length≤24;rw[len_snoc];omega) (by omega) ⟨by dsimp only;omega,by dsimp only;omega⟩⟩,rfl⟩)
       | (have hq:T.cens=0:=by omega
          exact⟨_,⟨⟨ws,x::l++[⟨6,0,0,wd,0⟩]⟩,by
           show AV.agg [AV.slc 2 (wR ws) .non,AV.slc 5 _ .non]=_
           exact gm_snoc (ws:=ws) (x:=x) (l:=l) ⟨6,0,0,wd,0⟩,mkG.made (G:=⟨ws,x::l++[⟨6,0,0,wd,0⟩]⟩) (hmk.place (by omega) (by omega)) hmw hw1 hw2 h1.2 (by show (x::l++[_]).length≤24;rw[len_snoc];omega) hhd ⟨by dsimp only;omega,by dsimp only;omega⟩⟩,rfl⟩)
       | exact⟨_,⟨⟨ws,x::l⟩,rfl,mkG.made (G:=⟨ws,x::l⟩) hmk hmw hw1 hw2 h1.2 (by show (x::l).length≤24;omega) hhd ⟨by omega,hcn⟩⟩,rfl⟩
section
variable {P:Program} {α:Type} {row:α→List AV} {sz:Nat}
theorem setL_get2 {β:Type}:∀(xs pre ys post:List β),xs.length=ys.length→setL (pre++ys++post) pre.length xs=pre++xs++post
 | [],pre,[],post,_=>rfl
 | [],pre,y::ys,post,h=>by simp at h
 | x::xs,pre,[],post,h=>by simp at h
 | x::xs,pre,y::ys,post,h=>by
   have e:(pre++(y::ys)++post).set pre.length x=(pre++[x])++ys++post:=by simp
   rw[setL,e,show pre.length+1=(pre++[x]).length by simp,setL_get2 xs (pre++[x]) ys post (by simpa using h)]
   simp
theorem FlatR.setRow (h:FlatR row sz) {pre post:List α} {y y':α}:setL ((pre++y::post).map row).flatten (pre.length*sz) (row y')=((pre++y'::post).map row).flatten:=by
 have e:∀z,((pre++z::post).map row).flatten=(pre.map row).flatten++row z++(post.map row).flatten:=fun z=>by simp
 rw[e,e,←h.flat_len pre];exact setL_get2 _ _ _ _ (by rw[h.len,h.len])
end
def goV (s:Nat) (l:List (List Int×Int)) (h:Nat):AV:=match l with
 | []=> .nsl
 | _::_=> .slc 1 (llR (l.map (·.1))) (.own s h)
def goW (s:Nat) (l:List (List Int×Int)) (h:Nat):AV:=match l with
 | []=> .nsl
 | _::_=> .slc 1 (iR (l.map (·.2))) (.own s h)
def goX (l:List (List Int×Int)) (h:Nat):Nat×Res:=match l with
 | []=>(0,.dead)
 | _::_=>(h,.row [])
abbrev soR (G:Gm) (A:List Dl) (m:Int) (x y:AV):List AV:=[.slc 2 (wR G.ws) .non,.slc 5 (dlR G.ds) .non,.slc 5 (dlR A) .non,.int .i64 m,x,y]
abbrev soS (s g:Nat) (G:Gm) (A:List Dl) (m:Int) (l:List (List Int×Int)) (h1 h2:Nat):List (Nat×(Nat×Res)):=[(1000,(g,.row (soR G A m (goV s l h1) (goW (s+1) l h2)))),(s,goX l h1),(s+1,goX l h2)]
theorem ren_goV {ρ:List (Nat×Nat)} {s q:Nat} (h:lk ρ s=some q) (l:List (List Int×Int)) (g:Nat):ren ρ (goV s l g)=goV q l g:=by
 cases l with
 | nil=>rfl
 | cons x r=>
   show AV.slc 1 (llR ((x::r).map (·.1))) (renT ρ (.own s g))=_
   simp only[renT,h];rfl
theorem ren_goW {ρ:List (Nat×Nat)} {s q:Nat} (h:lk ρ s=some q) (l:List (List Int×Int)) (g:Nat):ren ρ (goW s l g)=goW q l g:=by
 cases l with
 | nil=>rfl
 | cons x r=>
   show AV.slc 1 (iR ((x::r).map (·.2))) (renT ρ (.own s g))=_
   simp only[renT,h];rfl
theorem goX_ren {ρ:List (Nat×Nat)} (l:List (List Int×Int)) (h:Nat):((goX l h).1,renR ρ (goX l h).2)=goX l h:=by cases l<;>rfl
theorem ACall.so {P:Program} {f:Nat} {args0 args:List AV} {s0 p g h1 h2 d:Nat} {G:Gm} {A:List Dl} {m:Int} {l:List (List Int×Int)} {C:List (List Int×Int)→Prop} {σ:Sig} {Q:AV→Sig→Prop}
  (h:RawC P f args0 (sg (soS s0 g G A m l h1 h2)) (SR (fun (x:List (List Int×Int)×Nat×Nat) _=>C x.1) (fun x=>soS s0 g G A m x.1 x.2.1 x.2.2)))
  (hp1:p≠2001) (hp2:p≠2002) (hr1:renOK [(s0,2001),(s0+1,2002),(1000,p)]=true) (hr2:renOK [(1000,p),(s0,2001),(s0+1,2002)]=true)
  (l1:lk [(s0,2001),(s0+1,2002),(1000,p)] s0=some 2001) (l2:lk [(s0,2001),(s0+1,2002),(1000,p)] (s0+1)=some 2002) (l3:lk [(1000,p),(s0,2001),(s0+1,2002)] s0=some 2001) (l4:lk [(1000,p),(s0,2001),(s0+1,2002)] (s0+1)=some 2002)
  (l5:lk (flipL [(1000,p),(s0,2001),(s0+1,2002)]) 2001=some s0) (l6:lk (flipL [(1000,p),(s0,2001),(s0+1,2002)]) 2002=some (s0+1))
  (n1:Nat.beq 1000 s0=false) (n2:Nat.beq 1000 (s0+1)=false) (n3:Nat.beq s0 (s0+1)=false)
  (ha1:args0=renL (flipL [(1000,p)]) args) (ha2:args0=renL (flipL [(1000,p),(s0,2001),(s0+1,2002)]) args)
  (hp:σ p=(g,.row (soR G A m (goV 2001 l h1) (goW 2002 l h2)))) (hσ1:σ 2001=goX l h1) (hσ2:σ 2002=goX l h2)
  (hQ:∀(x:List (List Int×Int)) (k1 k2:Nat) av,C x→Q av (upd (upd (upd σ 2002 (goX x k2)) 2001 (goX x k1)) p (g,.row (soR G A m (goV 2001 x k1) (goW 2002 x k2))))):ACall P f args σ d Q:=by
 have y1:Nat.ble YS 2001=true:=rfl
 have y2:Nat.ble YS 2002=true:=rfl
 have hos:outsB d [(s0,2001),(s0+1,2002)]=true:=by simp[outsB,y1,y2]
 cases l with
 | nil=>
   have e0:sg (soS s0 g G A m [] h1 h2)=sg [(1000,(g,.row (soR G A m .nsl .nsl)))]:=by
    funext j
    show (match Nat.beq 1000 j with | true=>_ | false=>(match Nat.beq s0 j with | true=>((0,Res.dead):Nat×Res) | false=>(match Nat.beq (s0+1) j with | true=>(0,.dead) | false=>(0,.dead))))=(match Nat.beq 1000 j with | true=>_ | false=>_)
    split
    · rfl
    · split
      · rfl
      · split<;>rfl
   rw[e0] at h
   refine ACall.liftN h [(1000,p)] [(s0,2001),(s0+1,2002)] hos hr1 ha1 ?_ ⟨⟨_,by rw[hp]⟩,trivial⟩ fun av σ0' hR=>?_
   · show _=[(1000,((σ p).1,renR _ (σ p).2))]
     rw[hp]
     rfl
   · obtain⟨⟨x,a,b⟩,hv,hsl⟩:=hR
     obtain⟨k1,k2,k3,-⟩:=hsl
     show Q _ (upd (upd (upd σ p ((σ0' 1000).1,renR [(s0,2001),(s0+1,2002),(1000,p)] (σ0' 1000).2)) 2002 ((σ0' (s0+1)).1,renR [(s0,2001),(s0+1,2002),(1000,p)] (σ0' (s0+1)).2)) 2001 ((σ0' s0).1,renR [(s0,2001),(s0+1,2002),(1000,p)] (σ0' s0).2))
     rw[k1,k2,k3,goX_ren,goX_ren]
     have e1:renR [(s0,2001),(s0+1,2002),(1000,p)] (.row (soR G A m (goV s0 x a) (goW (s0+1) x b)))= .row (soR G A m (goV 2001 x a) (goW 2002 x b)):=by
      show Res.row [_,_,_,_,ren _ (goV s0 x a),ren _ (goW (s0+1) x b)]=_
      rw[ren_goV l1,ren_goW l2];rfl
     show Q _ (upd (upd (upd σ p (g,renR [(s0,2001),(s0+1,2002),(1000,p)] (.row (soR G A m (goV s0 x a) (goW (s0+1) x b))))) 2002 (goX x b)) 2001 (goX x a))
     rw[e1,upd_comm hp2,upd_comm hp1]
     exact hQ x a b _ hv
 | cons c cs=>
   refine ACall.liftN h [(1000,p),(s0,2001),(s0+1,2002)] [] rfl hr2 ha2 ?_ ⟨⟨_,by rw[hp]⟩,⟨[],by rw[hσ1];rfl⟩,⟨[],by rw[hσ2];rfl⟩,trivial⟩ fun av σ0' hR=>?_
   · show _=[(1000,((σ p).1,renR (flipL [(1000,p),(s0,2001),(s0+1,2002)]) (σ p).2)),(s0,((σ 2001).1,renR (flipL [(1000,p),(s0,2001),(s0+1,2002)]) (σ 2001).2)),(s0+1,((σ 2002).1,renR (flipL [(1000,p),(s0,2001),(s0+1,2002)]) (σ 2002).2))]
     rw[hp,hσ1,hσ2,goX_ren,goX_ren]
     have e1:renR (flipL [(1000,p),(s0,2001),(s0+1,2002)]) (.row (soR G A m (goV 2001 (c::cs) h1) (goW 2002 (c::cs) h2)))= .row (soR G A m (goV s0 (c::cs) h1) (goW (s0+1) (c::cs) h2)):=by
      show Res.row [_,_,_,_,ren _ (goV 2001 (c::cs) h1),ren _ (goW 2002 (c::cs) h2)]=_
      rw[ren_goV l5,ren_goW l6];rfl
     rw[e1]
   · obtain⟨⟨x,a,b⟩,hv,hsl⟩:=hR
     obtain⟨k1,k2,k3,-⟩:=hsl
     show Q _ (upd (upd (upd σ 2002 ((σ0' (s0+1)).1,renR [(1000,p),(s0,2001),(s0+1,2002)] (σ0' (s0+1)).2)) 2001 ((σ0' s0).1,renR [(1000,p),(s0,2001),(s0+1,2002)] (σ0' s0).2)) p ((σ0' 1000).1,renR [(1000,p),(s0,2001),(s0+1,2002)] (σ0' 1000).2))
     rw[k1,k2,k3,goX_ren,goX_ren]
     have e1:renR [(1000,p),(s0,2001),(s0+1,2002)] (.row (soR G A m (goV s0 x a) (goW (s0+1) x b)))= .row (soR G A m (goV 2001 x a) (goW 2002 x b)):=by
      show Res.row [_,_,_,_,ren _ (goV s0 x a),ren _ (goW (s0+1) x b)]=_
      rw[ren_goV l3,ren_goW l4];rfl
     show Q _ (upd (upd (upd σ 2002 (goX x b)) 2001 (goX x a)) p (g,renR [(1000,p),(s0,2001),(s0+1,2002)] (.row (soR G A m (goV s0 x a) (goW (s0+1) x b)))))
     rw[e1]
     exact hQ x a b _ hv
structure goH (G:Gm) (A:List Dl) (b:List Int) (m:Int):Prop where
 n6:G.ws.length≤6
 t:tbIn b m
 r:runOK G.ws.length (A.map spOf) b m
 B:bgT G.ws.length b bg0
 a:A.length<1000
theorem goH.cnt {G:Gm} {A:List Dl} {b:List Int} {m:Int} (h:goH G A b m) {a:AV} {c:List Int} (hc:CV a c) (hl:c.length<1000):Fn0 Tryz.prog 60 [.slc 5 (dlR A) .non,bgV bg0,a] (fun v=>v= .int .i64 (cntP (A.map spOf) c bg0)):=
 rcount_c _ h.n6 A b m bg0 c a hc h.t h.r h.B h.a hl
theorem szL_bd {n:Nat}:∀{l:List Sp} {b:List Int} {m:Int},tbIn b m→runOK n l b m→ ∀s∈szL l b,1≤s∧s≤12
 | [],_,_,_,_,s,hs=>by cases hs
 | x::r,b,m,ht,h,s,hs=>by
   obtain⟨ht2,_⟩:=ht.step h.1
   rw[szL] at hs
   by_cases hd:x.2.1=true
   · rw[if_pos hd] at hs
     obtain⟨hb,ha⟩:=h.1.d hd
     have hle:=ht.le hb
     have hsm:=ht.sm
     have hm:=ht.m
     rcases List.mem_cons.1 hs with rfl | hs
     · omega
     · exact szL_bd ht2 h.2 s hs
   · rw[if_neg hd] at hs
     exact szL_bd ht2 h.2 s hs
theorem oneIf_nn (p:Prop) [Decidable p]:0≤oneIf p:=by unfold oneIf;split<;>decide
theorem play_crs {G:Gm} (h0:gmErr G=0) {ps:List Int} (h:ps∈allP (szL (stepsG G.ds) tb0.bags)):∃c,playO G ps=(c,0)∧playT (stepsG G.ds) bg0 ps=some c∧(c,cwG G c)∈crsG G:=by
 have hG:=gm_ok h0
 obtain⟨c,h1,h2,h3⟩:=play_in hG.n6 tb0_in hG.ex hG.wd (bgT0 _) h
 refine⟨c,?_,h1,?_⟩
 · unfold playO
   rw[if_pos h0,if_pos (by rw[(allP_mem.1 h).1,szL_len]),playS_T,h1];rfl
 · refine (crsG_mem hG).2 ⟨⟨h2,h3⟩,?_,rfl⟩
   have hc:=pick_cnt hG.n6 c tb0_in hG.ex (bgT0 _) h3 h2
   have:=lsum_mem (f:=fun ps=>oneIf (playT (stepsG G.ds) bg0 ps=some c)) (fun s _=>oneIf_nn _) ps h
   have e:oneIf (playT (stepsG G.ds) bg0 ps=some c)=1:=by unfold oneIf;rw[if_pos h1]
   rw[e,hc] at this
   show 0<cntG G.ws.length (stepsG G.ds) c bg0
   omega
structure tbMore (t u:Tb):Prop where
 tr:u.tried=t.tried
 c:u.cens=t.cens
 m:t.mixed≤u.mixed
 bl:t.bags.length=4
 ul:u.bags.length=4
 b:∀i:Int,0≤i∧i≤3→atI t.bags i≤atI u.bags i
theorem tbMore.aside {t u:Tb} (h:tbMore t u) {d:Dl} (h0:asideE d t=0):asideE d u=0:=by
 obtain⟨h1,h2,h3⟩:=aside_0 h0
 have:=h.b d.bag (by have:=inB_t.1 h2;omega)
 unfold asideE
 rw[if_pos ⟨h2,h1⟩,if_neg (by omega)]
theorem atI_setL {b:List Int} (hb:b.length=4) {i j v:Int} (hi:0≤i∧i≤3) (hj:0≤j∧j≤3):atI (setI b i v) j=if j=i then v else atI b j:=atI_set hb hi hj
theorem tbMore.set {t u:Tb} (h:tbMore t u) {i v w:Int} (hi:0≤i∧i≤3) (hv:v≤w):tbMore {t with bags:=setI t.bags i v } {u with bags:=setI u.bags i w }:=by
 refine⟨h.tr,h.c,h.m,setI_len h.bl _ _,setI_len h.ul _ _,fun j hj=>?_⟩
 show atI (setI t.bags i v) j≤atI (setI u.bags i w) j
 rw[atI_setL h.bl hi hj,atI_setL h.ul hi hj]
 split
 · exact hv
 · exact h.b j hj
theorem tbMore.deal {n:Nat} {t u:Tb} (h:tbMore t u) {d:Dl} (hk:inB d.kind 1 6=true) (h0:dealE n d t=0):(dealE n d u=0∧tbMore (dealT d t) (dealT d u))∨dealE n d u=8:=by
 have hk6:=inB_t.1 hk
 unfold dealE at h0 ⊢
 unfold dealT
 rcases (by omega:d.kind=1∨d.kind=2∨d.kind=3∨d.kind=4∨d.kind=5∨d.kind=6) with k | k | k | k | k | k
 · simp only[k,if_true] at h0 ⊢
   left
   refine⟨by rw[←h0];unfold trialE;rw[h.tr],?_⟩
   exact⟨by dsimp only;rw[h.tr],h.c,h.m,h.bl,h.ul,h.b⟩
 · have e:∀{α:Type} {a b:α},(if d.kind=1 then a else b)=b:=fun {α a b}=>if_neg (by omega)
   simp only[e,if_pos k] at h0 ⊢
   obtain⟨h1,h2,h3,h4⟩:=mix_0 h0
   have hb:=inB_t.1 h1
   unfold mixE
   rw[if_pos h1,if_pos h2,if_pos h3]
   by_cases h5:12<u.mixed+d.count
   · rw[if_pos h5];exact .inr rfl
   · rw[if_neg h5]
     refine .inl ⟨rfl,?_⟩
     have hm:=h.b d.bag (by omega)
     have h6:=h.set (i:=d.bag) (v:=atI t.bags d.bag+d.count) (w:=atI u.bags d.bag+d.count) (by omega) (by omega)
     exact⟨h6.tr,h6.c,by have:=h.m;dsimp only;omega,h6.bl,h6.ul,h6.b⟩
 · have e:∀{α:Type} {a b:α},(if d.kind=1 then a else b)=b:=fun {α a b}=>if_neg (by omega)
   have e2:∀{α:Type} {a b:α},(if d.kind=2 then a else b)=b:=fun {α a b}=>if_neg (by omega)
   simp only[e,e2,if_pos k] at h0 ⊢
   obtain⟨⟨h1,h2⟩,h3⟩:=pour_0 h0
   have hb:=inB_t.1 h1
   have ho:=inB_t.1 h2
   refine .inl ⟨h0,?_⟩
   have m1:=h.b d.bag (by omega)
   have m2:=h.b d.other (by omega)
   exact (h.set (i:=d.other) (v:=atI t.bags d.other+atI t.bags d.bag) (w:=atI u.bags d.other+atI u.bags d.bag) (by omega) (by omega)).set (i:=d.bag) (v:=0) (w:=0) (by omega) (Int.le_refl _)
 · have e:∀{α:Type} {a b:α},(if d.kind=1 then a else b)=b:=fun {α a b}=>if_neg (by omega)
   have e2:∀{α:Type} {a b:α},(if d.kind=2 then a else b)=b:=fun {α a b}=>if_neg (by omega)
   have e3:∀{α:Type} {a b:α},(if d.kind=3 then a else b)=b:=fun {α a b}=>if_neg (by omega)
   simp only[e,e2,e3,if_pos k] at h0 ⊢
   obtain⟨h1,h2,h3⟩:=aside_0 h0
   have hb:=inB_t.1 h2
   have m1:=h.b d.bag (by omega)
   exact .inl ⟨h.aside h0,h.set (by omega) (by omega)⟩
 · have e:∀{α:Type} {a b:α},(if d.kind=1 then a else b)=b:=fun {α a b}=>if_neg (by omega)
   have e2:∀{α:Type} {a b:α},(if d.kind=2 then a else b)=b:=fun {α a b}=>if_neg (by omega)
   have e3:∀{α:Type} {a b:α},(if d.kind=3 then a else b)=b:=fun {α a b}=>if_neg (by omega)
   have e4:∀{α:Type} {a b:α},(if d.kind=4 then a else b)=b:=fun {α a b}=>if_neg (by omega)
   simp only[e,e2,e3,e4,if_pos k] at h0 ⊢
   obtain⟨h1,h2,h3⟩:=aside_0 (pass_0 h0)
   have hb:=inB_t.1 h2
   have m1:=h.b d.bag (by omega)
   have h6:=h.set (i:=d.bag) (v:=atI t.bags d.bag-d.count) (w:=atI u.bags d.bag-d.count) (by omega) (by omega)
   refine .inl ⟨?_,h6.tr,by dsimp only;rw[h.c],h6.m,h6.bl,h6.ul,h6.b⟩
   rw[←h0]
   unfold passE
   rw[if_pos (h.aside (pass_0 h0)),if_pos (pass_0 h0),h.c]
 · have e:∀{α:Type} {a b:α},(if d.kind=1 then a else b)=b:=fun {α a b}=>if_neg (by omega)
   have e2:∀{α:Type} {a b:α},(if d.kind=2 then a else b)=b:=fun {α a b}=>if_neg (by omega)
   have e3:∀{α:Type} {a b:α},(if d.kind=3 then a else b)=b:=fun {α a b}=>if_neg (by omega)
   have e4:∀{α:Type} {a b:α},(if d.kind=4 then a else b)=b:=fun {α a b}=>if_neg (by omega)
   have e5:∀{α:Type} {a b:α},(if d.kind=5 then a else b)=b:=fun {α a b}=>if_neg (by omega)
   simp only[e,e2,e3,e4,e5] at h0 ⊢
   refine .inl ⟨by rw[←h0];unfold placeE;rw[h.c],h.tr,by dsimp only;rw[h.c],h.m,h.bl,h.ul,h.b⟩
theorem tbMore.deals {n:Nat}:∀{l:List Dl} {t u:Tb},tbMore t u→dsErr n t l=0→(dsErr n u l=0∧tbMore (dsTab t l) (dsTab u l))∨dsErr n u l=8
 | [],_,_,h,_=> .inl ⟨rfl,h⟩
 | d::r,t,u,h,h0=>by
   obtain⟨h1,h2⟩:=ds_cons h0
   obtain⟨k1,k2,k3⟩:=dl_of h1
   have e:dlErr n d u=dealE n d u:=by unfold dlErr;rw[if_pos k1,if_pos k2]
   rcases h.deal k1 k3 with⟨h3,h4⟩ | h3
   · have:=h4.deals h2
     rw[dsErr,e,h3,if_pos rfl]
     exact this
   · right
     rw[dsErr,e,h3]
     rfl
theorem picksOf_c (g:Nat) (w:Int) (G:Gm) (h0:gmErr G=0):RawC Tryz.prog 10 [.ref 1000 g 0,gmA G] (BoxS g w) (BoxR g fun av=>∃ps,av= .slc 1 (iR ps) .non∧ps∈allP (szL (stepsG G.ds) tb0.bags)):=by
 have hG:=gm_ok h0
 have hSz:=Sizes_c G hG
 have hsb:=szL_bd tb0_in hG.ex
 have hsl:=szL_288 hG
 obtain⟨S,hS⟩:∃S,szL (stepsG G.ds) tb0.bags=S:=⟨_,rfl⟩
 rw[hS] at hSz hsb hsl ⊢
 have hl3:(iR S).length=S.length:=List.length_map _
 refine RawC.walk (H:=hint10 Tryz.prog) ir10 Tryz.func10 rfl rfl rfl ?_
 unfold ir10
 repeat' (first
  | with_reducible refine Rd.p ?_
  | with_reducible (first|refine zI fun y hy=>?_|refine zL ?_|refine zS ?_|refine zV ?_|refine zC ?_)
  | ((with_reducible refine aC ?_);first|(refine ACall.val hSz rfl rfl ?_))
  | refine aX ?_|with_reducible intro _
  | with_reducible refine zJ ?_ fun y hy=>?_|refine aP ?_ ?_)
 all_goals try (exfalso;omega)
 rename_i g6
 refine w_loopK [0,5] [] (fun x:List Int×List Int×List Int×Nat×Int=>S=x.1++x.2.1∧x.2.2.1.length=x.1.length∧ ∀i:Nat,i<x.1.length→0≤x.2.2.1.getD i 0∧x.2.2.1.getD i 0<x.1.getD i 0) (fun x=>x.2.1.length) (fun x=>[(6,.slc 1 (iR x.2.2.1) (.own 6 x.2.2.2.1)),(7,.int .i64 (x.1.length:Int))]) (fun x=>[(1000,(g,.row [.int .u64 x.2.2.2.2])),(6,(x.2.2.2.1,.row []))]) ([],S,[],g6,w) ⟨rfl,rfl,fun i hi=>by simp at hi⟩ ⟨rfl,rfl,trivial⟩ ⟨rfl,rfl,trivial⟩ ?_
 rintro⟨pre,post,ps,gp,w⟩ ⟨hl,hpl,hpb⟩ e σ
 dsimp only at hl hpl hpb ⊢
 have hlen:=congrArg List.length hl
 rw[List.length_append] at hlen
 have hl4:(iR ps).length=ps.length:=List.length_map _
 cases post with
 | nil=>
   simp only[List.length_nil] at hlen
   rw[List.append_nil] at hl
   repeat' (first
    | with_reducible refine Rd.p ?_
    | with_reducible (first|refine zI fun y hy=>?_|refine zL ?_|refine zS ?_|refine zV ?_|refine zC ?_)
    | refine aX ?_|with_reducible intro _
    | with_reducible refine zJ ?_ fun y hy=>?_|refine aP ?_ ?_)
   all_goals first
    | (exfalso;omega)
    | exact⟨_,⟨ps,rfl,allP_mem.2 ⟨by omega,by rw[hl];exact hpb⟩⟩,rfl⟩
 | cons s post=>
   simp only[List.length_cons] at hlen
   have hs:=hsb s (by rw[hl];simp)
   repeat' (first
    | with_reducible refine Rd.p ?_
    | (first|refine w_ixP (f:=fun x:Int=>[AV.int .i64 x]) hl rfl rfl ?_)
    | with_reducible (first|refine zI fun y hy=>?_|refine zL ?_|refine zS ?_|refine zV ?_|refine zC ?_)
    | ((with_reducible refine aC ?_);first|(refine ACall.box (upp_c _ _ _ (by omega) (by omega)) rfl rfl rfl ?_;rintro _ _ ⟨a,rfl,ha1,ha2⟩))
    | refine aX ?_|with_reducible intro _
    | with_reducible refine zJ ?_ fun y hy=>?_|refine aP ?_ ?_)
   all_goals try (exfalso;omega)
   all_goals
    rename_i gp2
    exact q_loop (pre++[s],post,ps++[a],gp2,_) ⟨by show S=_;rw[hl];simp,by dsimp only;rw[len_snoc,len_snoc,hpl],fun i hi=>by
     dsimp only at hi ⊢
     rw[len_snoc] at hi
     by_cases e:i<pre.length
     · have:=hpb i e
       rw[List.getD_eq_getElem?_getD,List.getD_eq_getElem?_getD,List.getElem?_append_left (by omega),List.getElem?_append_left e,←List.getD_eq_getElem?_getD,←List.getD_eq_getElem?_getD]
       exact this
     · have e2:i=pre.length:=by omega
       subst e2
       rw[List.getD_eq_getElem?_getD,List.getD_eq_getElem?_getD,List.getElem?_append_right (by omega),List.getElem?_append_right (Nat.le_refl _),Nat.sub_self,hpl,Nat.sub_self]
       exact⟨ha1,ha2⟩⟩  (Nat.lt_succ_self _) ⟨rfl,by rw[len_snoc];rfl,trivial⟩ ⟨rfl,rfl,trivial⟩ aK aK
theorem stW_ne {W:Wt} {v:AV} (h:stW W v) (hn:W≠[]):v=stV W:=h.resolve_right fun h2=>hn h2.2
theorem ACall.nx {P:Program} {f:Nat} {args0 args:List AV} {R:Wt→Prop} {σ:Sig} {d:Nat} {Q:AV→Sig→Prop} (h:Fn0 P f args0 (fun v=>∃W',stW W' v∧R W')) (ha:args0=renL [] args) (hn:∀W',R W'→W'≠[]) (hQ:∀W',R W'→Q (stV W') σ):ACall P f args σ d Q:=
 ACall.fn0 h ha fun av hav=>by
  obtain⟨W',h1,h2⟩:=hav
  rw[stW_ne h1 (hn W' h2)];exact hQ W' h2
theorem courseErr_ok {G:Gm} {c:List Int} (h:courseErr G c=0):c.length=censG (stepsG G.ds)∧ ∀x∈c,0≤x∧x<(G.ws.length:Int):=by
 unfold courseErr at h
 split at h
 · rename_i h1
   split at h
   · exact absurd h (by decide)
   · rename_i h2
     refine⟨by omega,fun x hx=>?_⟩
     rw[List.any_eq_true] at h2
     have h3:inB x 0 (G.ws.length-1)=true:=by
      cases h4:inB x 0 (G.ws.length-1) with
      | true=>rfl
      | false=>exact absurd ⟨x,hx,by rw[h4];rfl⟩ h2
     have:=inB_t.1 h3
     omega
 · exact absurd h (by decide)
end Go.Abs
set_option linter.unusedVariables false
set_option linter.unusedSimpArgs false
set_option maxRecDepth 20000
set_option maxHeartbeats 4000000
namespace Go.Abs
open Go.Proofs
theorem allP_cons {s p:Int} {r ps:List Int} (h:p::ps∈allP (s::r)):(0≤p∧p<s)∧ps∈allP r:=by
 obtain⟨h1,h2⟩:=allP_mem.1 h
 refine⟨by simpa using h2 0 (by simp),allP_mem.2 ⟨by simpa using h1,fun i hi=>?_⟩⟩
 simpa using h2 (i+1) (by simpa using hi)
theorem playS_nrm (l:List Sp) (B ps c:List Int):playS (l.map nrm) B ps c=playS l B ps c:=by
 rw[playS_T,playS_T,playT_nrm]
theorem playO_in {G:Gm} (h0:gmErr G=0) {ps:List Int} (h:ps∈allP (szL (stepsG G.ds) tb0.bags)):∃c,playO G ps=(c,0)∧playS (stepsG G.ds) bg0 ps []=some c∧(c,cwG G c)∈crsG G:=by
 obtain⟨c,h1,h2,h3⟩:=play_crs h0 h
 exact⟨c,h1,by rw[playS_T,h2];rfl,h3⟩
theorem playO_out {G:Gm} (h0:gmErr G=0) {ps:List Int} (hl:ps.length=(szL (stepsG G.ds) tb0.bags).length) (h:¬ps∈allP (szL (stepsG G.ds) tb0.bags)):playO G ps=([],2):=by
 have hG:=gm_ok h0
 rw[szL_len] at hl
 unfold playO
 rw[if_pos h0,if_pos hl,playS_T]
 cases e:playT (stepsG G.ds) bg0 ps with
 | none=>rfl
 | some c=>exact absurd (play_out hG.n6 tb0_in hG.ex (bgT0 _) hl e) h
theorem playO_len {G:Gm} (h0:gmErr G=0) {ps:List Int} (hl:¬ps.length=(szL (stepsG G.ds) tb0.bags).length):playO G ps=([],3):=by
 rw[szL_len] at hl
 unfold playO
 rw[if_pos h0,if_neg hl]
end Go.Abs
set_option linter.unusedVariables false
set_option linter.unusedSimpArgs false
set_option maxRecDepth 20000
set_option maxHeartbeats 4000000
namespace Go.Abs
open Go.Proofs
def ir43:IFn:=
 ⟨27,[(4,none)],(.seq (.ops [oo 2 (.box 2 0),oo 4 (.mov (kI 0))])
 (.seq (.seq (.ops [oo 6 (.mov 1),oo 7 (.len false 6),oo 8 (.ld 2 true 2),oo 9 (.callF 81 [8]),oo 10 (.bin .neq 7 9)])
 (.cnd 10
 (.seq (.ops [oo 4 (.mov (kI 3))])
 .ret)
 .skip))
 (.seq (.seq (.ops [oo 5 (.mov (kI 0))])
 (.blk 0 (.loop (.seq (.seq (.ops [oo 11 (.mov 5),oo 12 (.mov 1),oo 13 (.len false 12),oo 14 (.bin .lss 11 13)])
 (.cnd 14
 .skip
 (.exit 0)))
 (.seq (.blk 1 (.seq (.ops [oo 17 (.mov 1),oo 18 (.mov 5),oo 19 (.ixA 1 17 18),oo 20 (.ld 1 false 19),oo 21 (.flA 0 2),oo 22 (.ld 1 false 21),oo 23 (.len false 22),oo 24 (.bin .sub 23 (kI 1)),oo 25 (.callF 32 [20,(kI 0),24]),oo 26 (.not 25)])
 (.cnd 26
 (.seq (.ops [oo 4 (.mov (kI 7))])
 .ret)
 .skip)))
 (.ops [oo 15 (.mov 5),oo 16 (.bin .add 15 (kI 1)),oo 5 (.mov 16)]))))))
 (.seq (.ops [oo 4 (.mov (kI 0))])
 .ret))))⟩
def hint43 (P:Program):Hint:={}
theorem rcheckCourse_c (G:Gm) (h:GOK G) (c:List Int) (hc:c.length<1000000):Fn0 Tryz.prog 43 [gmA G,.slc 1 (iR c) .non] (fun v=>v= .int .i64 (courseErr G c)):=by
 have hCe:=Censers_c G h.d24 h.cnt
 have hcl:(iR c).length=c.length:=List.length_map _
 have hwl:(wR G.ws).length=G.ws.length:=List.length_map _
 have hn6:=h.n6
 by_cases hl0:(c.length:Int)=(censG (stepsG G.ds):Nat)
 rotate_left
 · rw[show courseErr G c=3 from if_neg hl0]
   refine RawC.walk (H:=hint43 Tryz.prog) ir43 Tryz.func43 rfl rfl rfl ?_
   unfold ir43
   repeat' (first
    | with_reducible refine Rd.p ?_
    | with_reducible (first|refine zL ?_|refine zS ?_|refine zV ?_|refine zC ?_)
    | ((with_reducible refine aC ?_);first|(refine ACall.val hCe rfl rfl ?_))
    | refine aX ?_|with_reducible intro _
    | refine aP ?_ ?_)
   all_goals first
    | (exfalso;omega)
    | rfl
 obtain⟨R,hR⟩:∃R,courseErr G c=R:=⟨_,rfl⟩
 rw[hR]
 unfold courseErr at hR
 rw[if_pos hl0] at hR
 refine RawC.walk (H:=hint43 Tryz.prog) ir43 Tryz.func43 rfl rfl rfl ?_
 unfold ir43
 repeat' (first
  | with_reducible refine Rd.p ?_
  | with_reducible (first|refine zL ?_|refine zS ?_|refine zV ?_|refine zC ?_)
  | ((with_reducible refine aC ?_);first|(refine ACall.val hCe rfl rfl ?_))
  | refine aX ?_|with_reducible intro _
  | refine aP ?_ ?_)
 all_goals try (exfalso;omega)
 refine w_loopK [1,2] [2] (fun x:List Int×List Int=>c=x.1++x.2∧(if x.2.any (fun x=>!inB x 0 (G.ws.length-1))=true then (7:Int) else 0)=R) (fun x=>x.2.length) (fun x=>[(5,.int .i64 (x.1.length:Int))]) (fun _=>[]) ([],c) ⟨rfl,hR⟩ ⟨rfl,trivial⟩ trivial ?_
 rintro⟨pre,post⟩ ⟨hl,hr⟩ e σ
 dsimp only at hl hr ⊢
 have hlen:=congrArg List.length hl
 rw[List.length_append] at hlen
 cases post with
 | nil=>
   simp only[List.length_nil] at hlen
   have hR0:(0:Int)=R:=hr
   subst hR0
   repeat' (first
    | with_reducible refine Rd.p ?_
    | with_reducible (first|refine zL ?_|refine zS ?_|refine zV ?_|refine zC ?_)
    | refine aX ?_|with_reducible intro _
    | refine aP ?_ ?_)
   all_goals first
    | (exfalso;omega)
    | rfl
 | cons x post=>
   simp only[List.length_cons] at hlen
   have hin:=rin_c x 0 (G.ws.length-1)
   rw[List.any_cons] at hr
   cases hx:inB x 0 (G.ws.length-1) with
   | true=>
     rw[hx] at hin hr
     repeat' (first
      | with_reducible refine Rd.p ?_
      | (first|refine w_ixP (f:=fun x:Int=>[AV.int .i64 x]) hl rfl rfl ?_)
      | with_reducible (first|refine zL ?_|refine zS ?_|refine zV ?_|refine zC ?_)
      | ((with_reducible refine aC ?_);first|(refine ACall.val hin rfl rfl ?_))
      | refine aX ?_|with_reducible intro _
      | refine aP ?_ ?_)
     all_goals first
      | (exfalso;omega)
      | exact q_loop (pre++[x],post) ⟨by show c=_;rw[hl];simp,hr⟩ (Nat.lt_succ_self _) ⟨by rw[len_snoc];rfl,trivial⟩ aS aK aK
   | false=>
     rw[hx] at hin hr
     have hR7:(7:Int)=R:=hr
     subst hR7
     repeat' (first
      | with_reducible refine Rd.p ?_
      | (first|refine w_ixP (f:=fun x:Int=>[AV.int .i64 x]) hl rfl rfl ?_)
      | with_reducible (first|refine zL ?_|refine zS ?_|refine zV ?_|refine zC ?_)
      | ((with_reducible refine aC ?_);first|(refine ACall.val hin rfl rfl ?_))
      | refine aX ?_|with_reducible intro _
      | refine aP ?_ ?_)
     all_goals first
      | (exfalso;omega)
      | rfl
theorem goH.of {G:Gm} (h:GOK G):goH G (actsF G.ds) tb0.bags tb0.mixed:=
 ⟨h.n6,tb0_in,run_acts h,bgT0 _,by have:=acts_len G.ds h.cnt;have:=h.d24;omega⟩
end Go.Abs
namespace Go.Abs
open Go.Proofs
theorem isPerm.snoc {n:Nat} {l:List Int} (h:isPerm n l):isPerm (n+1) (l++[(n:Int)]):=by
 refine⟨by simp[h.len],?_,fun x hx=>?_⟩
 · rw[List.nodup_append]
   exact⟨h.nd,by simp,fun a ha b hb=>by simp at hb;subst hb;have:=h.bd a ha;omega⟩
 · rcases List.mem_append.1 hx with hx | hx
   · have:=h.bd x hx;omega
   · simp at hx;omega
def ir13:IFn:=
 ⟨6,[(2,none)],(.seq (.ops [oo 2 (.nil 1 2)])
 (.seq (.ops [oo 3 (.bsl 1 [] []),oo 4 (.mov 0),oo 5 (.app 1 8 3 4 2),oo 2 (.mov 5)])
 .ret))⟩
def hint13 (P:Program):Hint:={site:=[(5,2)],nils:=[(2,1)],frz:=[],mve:=[],wr:=[] }
theorem ints_c (l:List Int) (hl:l.length<2^40):Fn0 Tryz.prog 13 [.slc 1 (iR l) .non] (fun v=>v= .slc 1 (iR l) .non):=by
 have h1:(iR l).length=l.length:=by simp
 refine RawC.walk (H:=hint13 Tryz.prog) ir13 Tryz.func13 rfl rfl rfl ?_
 unfold ir13
 repeat' (first
  | with_reducible refine Rd.p ?_
  | with_reducible (first|refine zL ?_|refine zS ?_|refine zV ?_|refine zC ?_)
  | refine aX ?_|with_reducible intro _
  | refine aP ?_ ?_)
 rfl
end Go.Abs
set_option linter.unusedVariables false
set_option linter.unusedSimpArgs false
set_option maxRecDepth 20000
set_option maxHeartbeats 4000000
namespace Go.Abs
open Go.Proofs
def ir9:IFn:=
 ⟨91,[(4,none),(5,none)],(.seq (.ops [oo 2 (.box 2 0),oo 4 (.mov (.k .nsl)),oo 5 (.mov (kI 0))])
 (.seq (.seq (.ops [oo 15 (.ld 2 true 2),oo 16 (.callF 26 [15]),oo 6 (.mov 16)])
 (.seq (.ops [oo 17 (.mov 6),oo 18 (.bin .neq 17 (kI 0))])
 (.cnd 18
 (.seq (.ops [oo 19 (.mov 6),oo 4 (.mov (.k .nsl)),oo 5 (.mov 19)])
 .ret)
 .skip)))
 (.seq (.ops [oo 20 (.ld 2 true 2),oo 21 (.callF 27 [20]),oo 7 (.mov 21)])
 (.seq (.seq (.ops [oo 22 (.mov 1),oo 23 (.len false 22),oo 24 (.mov 7),oo 25 (.len false 24),oo 26 (.bin .neq 23 25)])
 (.cnd 26
 (.seq (.ops [oo 4 (.mov (.k .nsl)),oo 5 (.mov (kI 3))])
 .ret)
 .skip))
 (.seq (.seq (.ops [oo 8 (.mov (kI 0))])
 (.blk 0 (.loop (.seq (.seq (.ops [oo 27 (.mov 8),oo 28 (.mov 1),oo 29 (.len false 28),oo 30 (.bin .lss 27 29)])
 (.cnd 30
 .skip
 (.exit 0)))
 (.seq (.blk 1 (.seq (.ops [oo 33 (.mov 1),oo 34 (.mov 8),oo 35 (.ixA 1 33 34),oo 36 (.ld 1 false 35),oo 37 (.mov 7),oo 38 (.mov 8),oo 39 (.ixA 1 37 38),oo 40 (.ld 1 false 39),oo 41 (.bin .sub 40 (kI 1)),oo 42 (.callF 32 [36,(kI 0),41]),oo 43 (.not 42)])
 (.cnd 43
 (.seq (.ops [oo 4 (.mov (.k .nsl)),oo 5 (.mov (kI 2))])
 .ret)
 .skip)))
 (.ops [oo 31 (.mov 8),oo 32 (.bin .add 31 (kI 1)),oo 8 (.mov 32)]))))))
 (.seq (.ops [oo 9 (.nil 1 9)])
 (.seq (.ops [oo 10 (.new [z0,z0,z0,z0,z0,z0,z0,z0,z0,z0,z0,z0,z0,z0,z0,z0,z0,z0,z0,z0,z0,z0,z0,z0])])
 (.seq (.ops [oo 44 (.ld 2 true 2),oo 45 (.callF 33 [44]),oo 11 (.mov 45)])
 (.seq (.seq (.ops [oo 12 (.mov (kI 0))])
 (.blk 2 (.loop (.seq (.seq (.ops [oo 46 (.mov 12),oo 47 (.mov 11),oo 48 (.len false 47),oo 49 (.bin .lss 46 48)])
 (.cnd 49
 .skip
 (.exit 2)))
 (.seq (.blk 3 (.seq (.ops [oo 52 (.mov 11),oo 53 (.mov 12),oo 54 (.ixA 5 52 53),oo 55 (.ld 5 true 54),oo 13 (.new [(.int .i64 0),(.int .i64 0),(.int .i64 0),(.int .i64 0),(.int .i64 0)]),
 ⟨none,none,(.st 5 13 55)⟩])
 (.seq (.seq (.ops [oo 56 (.ld 5 true 13),oo 57 (.callF 34 [56])])
 (.cnd 57
 (.seq (.ops [oo 58 (.ld 24 true 10),oo 59 (.flA 1 13),oo 60 (.ld 1 false 59),oo 61 (.mov 1),oo 62 (.ixA 1 61 (kI 0)),oo 63 (.ld 1 false 62),oo 64 (.callF 35 [58,60,63]),oo 14 (.mov 64)])
 (.seq (.ops [oo 65 (.ld 24 true 10),oo 66 (.flA 1 13),oo 67 (.ld 1 false 66),oo 68 (.mov 14),oo 70 (.mov 1),oo 71 (.slS 1 70 (some (kI 1)) none none),oo 69 (.callF 36 [65,67,68]),
 ⟨none,none,(.st 24 10 69)⟩,oo 1 (.mov 71)])
 (.seq (.seq (.ops [oo 72 (.flA 0 13),oo 73 (.ld 1 false 72),oo 74 (.bin .eql 73 (kI 5))])
 (.cnd 74
 (.ops [oo 75 (.mov 9),oo 76 (.mov 14),oo 77 (.bsl 1 [[(.int .i64 0)]] [(0,76)]),oo 78 (.app 1 8 75 77 9),oo 9 (.mov 78)])
 .skip))
 (.exit 3))))
 .skip))
 (.seq (.ops [oo 79 (.ld 24 true 10),oo 80 (.ld 5 true 13),oo 81 (.callF 37 [79,80]),
 ⟨none,none,(.st 24 10 81)⟩])
 (.seq (.ops [oo 82 (.flA 0 13),oo 83 (.ld 1 false 82),oo 84 (.bin .eql 83 (kI 6))])
 (.cnd 84
 (.ops [oo 85 (.mov 9),oo 86 (.flA 3 13),oo 87 (.ld 1 false 86),oo 88 (.bsl 1 [[(.int .i64 0)]] [(0,87)]),oo 89 (.app 1 8 85 88 9),oo 9 (.mov 89)])
 .skip))))))
 (.ops [oo 50 (.mov 12),oo 51 (.bin .add 50 (kI 1)),oo 12 (.mov 51)]))))))
 (.seq (.ops [oo 90 (.mov 9),oo 4 (.mov 90),oo 5 (.mov (kI 0))])
 .ret))))))))))⟩
def hint9 (P:Program):Hint:={site:=[(78,9),(89,9)],nils:=[(9,1)],frz:=[],mve:=[],wr:=[] }
theorem iR_snocO (c:List Int) (w:Int) (g:Nat):AV.slc 1 (iR c++[[.int .i64 w]]) (.own 9 g)=AV.slc 1 (iR (c++[w])) (.own 9 g):=
 congrArg (fun z=>AV.slc 1 z (.own 9 g)) (map_snoc (f:=fun x:Int=>[AV.int .i64 x]) (x:=w)).symm
theorem rPlay_c (G:Gm) (ps:List Int) (hw:G.ws.length<1000) (hd:G.ds.length<1000) (hs:∀w∈G.ws,w.name.size≤1000) (hps:ps.length<1000000):Fn0 Tryz.prog 9 [gmA G,.slc 1 (iR ps) .non] (fun v=>v=plA (playO G ps)):=by
 have hck:=gRefCheck_c G hw hd hs
 have hpl0:(iR ps).length=ps.length:=List.length_map _
 by_cases h0:gmErr G=0
 rotate_left
 · rw[show playO G ps=([],gmErr G) from if_neg h0]
   unfold plA
   rw[if_neg h0]
   refine RawC.walk (H:=hint9 Tryz.prog) ir9 Tryz.func9 rfl rfl rfl ?_
   unfold ir9
   repeat' (first
    | with_reducible refine Rd.p ?_
    | with_reducible (first|refine zI fun y hy=>?_|refine zL ?_|refine zS ?_|refine zV ?_|refine zC ?_)
    | ((with_reducible refine aC ?_);first|(refine ACall.val hck rfl rfl ?_))
    | refine aX ?_|with_reducible intro _
    | with_reducible refine zJ ?_ fun y hy=>?_|refine aP ?_ ?_)
   all_goals first
    | (exfalso;omega)
    | rfl
 rw[h0] at hck
 have hG:=gm_ok h0
 have hSz:=Sizes_c G hG
 have hsb:=szL_bd tb0_in hG.ex
 have hsl:=szL_288 hG
 have hout:=playO_out h0 (ps:=ps)
 have hoin:=playO_in h0 (ps:=ps)
 have holn:=playO_len h0 (ps:=ps)
 have hszA:szL ((actsF G.ds).map spOf) tb0.bags=szL (stepsG G.ds) tb0.bags:=by rw[acts_sp,szL_nrm]
 have hplA:playS ((actsF G.ds).map spOf) bg0 ps []=playS (stepsG G.ds) bg0 ps []:=by rw[acts_sp,playS_nrm]
 obtain⟨S,hS⟩:∃S,szL (stepsG G.ds) tb0.bags=S:=⟨_,rfl⟩
 rw[hS] at hSz hsb hsl hout hoin holn hszA
 by_cases hln:ps.length=S.length
 rotate_left
 · rw[holn hln]
   have hsl2:(iR S).length=S.length:=List.length_map _
   refine RawC.walk (H:=hint9 Tryz.prog) ir9 Tryz.func9 rfl rfl rfl ?_
   unfold ir9
   repeat' (first
    | with_reducible refine Rd.p ?_
    | with_reducible (first|refine zI fun y hy=>?_|refine zL ?_|refine zS ?_|refine zV ?_|refine zC ?_)
    | ((with_reducible refine aC ?_);first|(refine ACall.val hck rfl rfl ?_)|(refine ACall.val hSz rfl rfl ?_))
    | refine aX ?_|with_reducible intro _
    | with_reducible refine zJ ?_ fun y hy=>?_|refine aP ?_ ?_)
   all_goals first
    | (exfalso;omega)
    | rfl
 obtain⟨R,hR⟩:∃R,playO G ps=R:=⟨_,rfl⟩
 rw[hR]
 have hac:=acts_c G hG.d24 hG.cnt
 have hal:=acts_len G.ds hG.cnt
 have hrun:=run_acts hG
 have hd24:=hG.d24
 obtain⟨A,hA⟩:∃A,actsF G.ds=A:=⟨_,rfl⟩
 rw[hA] at hac hal hrun hszA hplA
 refine RawC.walk (H:=hint9 Tryz.prog) ir9 Tryz.func9 rfl rfl rfl ?_
 unfold ir9
 repeat' (first
  | with_reducible refine Rd.p ?_
  | with_reducible (first|refine zI fun y hy=>?_|refine zL ?_|refine zS ?_|refine zV ?_|refine zC ?_)
  | ((with_reducible refine aC ?_);first|(refine ACall.val hck rfl rfl ?_)|(refine ACall.val hSz rfl rfl ?_))
  | refine aX ?_|with_reducible intro _
  | with_reducible refine zJ ?_ fun y hy=>?_|refine aP ?_ ?_)
 all_goals try (exfalso;omega)
 refine w_loopK [1,2,7] [2] (fun x:List Int×List Int×List Int×List Int=>ps=x.1++x.2.1∧S=x.2.2.1++x.2.2.2∧x.1.length=x.2.2.1.length∧ ∀i:Nat,i<x.1.length→0≤ps.getD i 0∧ps.getD i 0<S.getD i 0) (fun x=>x.2.1.length) (fun x=>[(8,.int .i64 (x.1.length:Int))]) (fun _=>[]) ([],ps,[],S) ⟨rfl,rfl,rfl,fun i hi=>by simp at hi⟩ ⟨rfl,trivial⟩ trivial ?_
 rintro⟨pa,ra,pb,rb⟩ ⟨h1,h2,h3,h4⟩ e σ
 dsimp only at h1 h2 h3 h4 ⊢
 have hn1:=congrArg List.length h1
 have hn2:=congrArg List.length h2
 rw[List.length_append] at hn1 hn2
 cases ra with
 | cons p ra=>
   cases rb with
   | nil=>exfalso;simp only[List.length_cons,List.length_nil] at hn1 hn2;omega
   | cons s rb=>
     simp only[List.length_cons] at hn1 hn2
     have h2':S=pb++s::rb:=h2
     have hg1:ps.getD pa.length 0=p:=by rw[h1];exact mid_get pa p ra
     have hg2:S.getD pa.length 0=s:=by rw[h2',h3];exact mid_get pb s rb
     have hs12:=hsb s (by rw[h2'];simp)
     have hrin:=rin_c p 0 (s-1)
     by_cases hp:0≤p∧p<s
     · rw[show inB p 0 (s-1)=true from inB_t.2 (by omega)] at hrin
       repeat' (first
        | with_reducible refine Rd.p ?_
        | (first|refine w_ixP (f:=fun x:Int=>[AV.int .i64 x]) h1 rfl rfl ?_|refine w_ixP (f:=fun x:Int=>[AV.int .i64 x]) h2' rfl (by rw[←h3];rfl) ?_)
        | with_reducible (first|refine zI fun y hy=>?_|refine zL ?_|refine zS ?_|refine zV ?_|refine zC ?_)
        | ((with_reducible refine aC ?_);first|(refine ACall.val hrin rfl rfl ?_))
        | refine aX ?_|with_reducible intro _
        | with_reducible refine zJ ?_ fun y hy=>?_|refine aP ?_ ?_)
       all_goals first
        | (exfalso;omega)
        | exact q_loop (pa++[p],ra,pb++[s],rb) ⟨by show ps=_;rw[h1];simp,by show S=_;rw[h2'];simp,by dsimp only;rw[len_snoc,len_snoc,h3],fun i hi=>by
          dsimp only at hi
          rw[len_snoc] at hi
          by_cases e:i<pa.length
          · exact h4 i e
          · have e2:i=pa.length:=by omega
            subst e2
            rw[hg1,hg2];exact hp⟩ (Nat.lt_succ_self _) ⟨by rw[len_snoc];rfl,trivial⟩ aS aK aK
     · rw[show inB p 0 (s-1)=false from inB_f.2 (by omega)] at hrin
       have hR2:=hout hln fun hm=>hp (by have:=(allP_mem.1 hm).2 pa.length (by omega);rw[hg1,hg2] at this;exact this)
       rw[hR] at hR2
       subst hR2
       repeat' (first
        | with_reducible refine Rd.p ?_
        | (first|refine w_ixP (f:=fun x:Int=>[AV.int .i64 x]) h1 rfl rfl ?_|refine w_ixP (f:=fun x:Int=>[AV.int .i64 x]) h2' rfl (by rw[←h3];rfl) ?_)
        | with_reducible (first|refine zI fun y hy=>?_|refine zL ?_|refine zS ?_|refine zV ?_|refine zC ?_)
        | ((with_reducible refine aC ?_);first|(refine ACall.val hrin rfl rfl ?_))
        | refine aX ?_|with_reducible intro _
        | with_reducible refine zJ ?_ fun y hy=>?_|refine aP ?_ ?_)
       all_goals first
        | (exfalso;omega)
        | rfl
 | nil=>
   simp only[List.length_nil] at hn1
   have hrb:rb=[]:=List.eq_nil_of_length_eq_zero (by omega)
   subst hrb
   have hall:ps∈allP S:=allP_mem.2 ⟨hln,fun i hi=>h4 i (by omega)⟩
   obtain⟨X',hX1,hX2,hX3⟩:=hoin hall
   rw[←hplA] at hX2
   rw[hX1] at hR
   subst hR
   have hall2:ps∈allP (szL (A.map spOf) tb0.bags):=by rw[hszA];exact hall
   repeat' (first
    | with_reducible refine Rd.p ?_
    | with_reducible (first|refine zI fun y hy=>?_|refine zL ?_|refine zS ?_|refine zV ?_|refine zC ?_)
    | ((with_reducible refine aC ?_);first|(refine ACall.val hac rfl rfl ?_))
    | refine aX ?_|with_reducible intro _
    | with_reducible refine zJ ?_ fun y hy=>?_|refine aP ?_ ?_)
   rename_i g9 g10
   refine w_loopK [10,11] [] (fun x:List Dl×List Dl×List Int×List Int×List Int×Nat×List Int×Int=>A=x.1++x.2.1∧playS (x.2.1.map spOf) x.2.2.1 x.2.2.2.1 x.2.2.2.2.1=some X'∧x.2.2.2.1∈allP (szL (x.2.1.map spOf) x.2.2.2.2.2.2.1)∧x.2.2.2.2.1.length≤x.1.length∧tbIn x.2.2.2.2.2.2.1 x.2.2.2.2.2.2.2∧runOK G.ws.length (x.2.1.map spOf) x.2.2.2.2.2.2.1 x.2.2.2.2.2.2.2∧bgT G.ws.length x.2.2.2.2.2.2.1 x.2.2.1) (fun x=>x.2.1.length)
    (fun x=>[(12,.int .i64 (x.1.length:Int)),(1,.slc 1 (iR x.2.2.2.1) .non),(9,.slc 1 (iR x.2.2.2.2.1) (.own 9 x.2.2.2.2.2.1))]) (fun x=>[(10,(g10,.row (nI x.2.2.1))),(9,(x.2.2.2.2.2.1,.row []))]) ([],A,bg0,ps,[],g9,tb0.bags,tb0.mixed) ⟨rfl,hX2,hall2,Nat.le_refl _,tb0_in,hrun,bgT0 _⟩ ⟨rfl,rfl,rfl,trivial⟩ ⟨rfl,rfl,trivial⟩ ?_
   rintro⟨pre,post,B,qs,c,g,b,m⟩ ⟨hl,he,hq,ho,ht,hr,hB⟩ e σ
   dsimp only at hl he hq ho ht hr hB ⊢
   have hlen:=congrArg List.length hl
   rw[List.length_append] at hlen
   have hol:(iR c).length=c.length:=List.length_map _
   have hBl:=hB.l
   have hin:=hB.bgin ht
   cases post with
   | nil=>
     simp only[List.length_nil] at hlen
     have hcX:c=X':=by rw[show playS (List.map spOf []) B qs c=some c from rfl] at he;exact Option.some.inj he
     subst hcX
     repeat' (first
      | with_reducible refine Rd.p ?_
      | with_reducible (first|refine zI fun y hy=>?_|refine zL ?_|refine zS ?_|refine zV ?_|refine zC ?_)
      | refine aX ?_|with_reducible intro _
      | with_reducible refine zJ ?_ fun y hy=>?_|refine aP ?_ ?_)
     all_goals first
      | (exfalso;omega)
      | rfl
   | cons d post=>
     simp only[List.length_cons] at hlen
     have hx:=hr.1
     have hds:=rdraws_c d
     have hmap:(d::post).map spOf=spOf d::post.map spOf:=rfl
     rw[hmap] at he hq
     have hs2:(spOf d).2.2=(decide (d.kind=5) || decide (d.kind=6)):=rfl
     cases hdb:drawsB d with
     | true=>
       rw[hdb] at hds
       have hdp:(spOf d).2.1=true:=hdb
       have hk:d.kind=4∨d.kind=5:=by simpa[drawsB] using hdb
       obtain⟨hb,ha⟩:=hx.d hdb
       have hsz1:=hB.size hb
       have hle:=ht.le hb
       have hsm:=ht.sm
       have hm:=ht.m
       change 0≤d.bag∧d.bag≤3 at hb
       change 1≤atI b d.bag at ha
       change bgSize B d.bag=atI b d.bag at hsz1
       change atI b d.bag≤sumB b at hle
       rw[szL,if_pos hdp] at hq
       change qs∈allP (atI b d.bag::_) at hq
       cases qs with
       | nil=>have:=(allP_mem.1 hq).1;simp at this
       | cons p qs=>
         obtain⟨hp,hq2⟩:=allP_cons hq
         rw[←hsz1] at hp
         rw[playS_t hdp,if_pos (show 0≤p∧p<bgSize B (spOf d).1.bag from hp)] at he
         change playS (post.map spOf) (drawB B d.bag (pickW B d.bag p)) qs (if (spOf d).2.2=true then c++[pickW B d.bag p] else c)=some _ at he
         obtain⟨hw1,hw2⟩:=pickW_ok hp.1 hp.2
         have hs3:=rwood_c B hin d.bag p hb hp (by omega)
         have hs4:=rwithout_c B hin d.bag (pickW B d.bag p) hb hw1
         have hB2:=hB.draw ht.l hG.n6 hb hw1 hw2
         have hbe:spB (spOf d) b=setI b d.bag (atI b d.bag+ -1):=by unfold spB;rw[if_pos hdp];rfl
         rw[←hbe] at hB2
         have hdl:=hB2.l
         have hpl1:(iR (p::qs)).length=qs.length+1:=by rw[List.length_map];rfl
         by_cases h5:d.kind=5
         · rw[if_pos (show (spOf d).2.2=true by rw[hs2];simp[h5])] at he
           repeat' (first
            | with_reducible refine Rd.p ?_
            | (first|refine w_ixP (f:=fun d:Dl=>[AV.int .i64 d.kind,.int .i64 d.bag,.int .i64 d.other,.int .i64 d.wood,.int .i64 d.count]) hl rfl rfl ?_|refine w_ldN rfl rfl hBl ?_|refine w_chkN rfl rfl hBl rfl ?_|refine w_stN rfl rfl (by rw[List.length_map];exact hBl) rfl hdl ?_|refine w_sl1 rfl ?_|refine w_ixP (f:=fun x:Int=>[AV.int .i64 x]) (l:=p::qs) (pre:=[]) (y:=p) (post:=qs) rfl rfl rfl ?_)
            | with_reducible (first|refine zI fun y hy=>?_|refine zL ?_|refine zS ?_|refine zV ?_|refine zC ?_)
            | ((with_reducible refine aC ?_);first|(refine ACall.val hds rfl rfl ?_)|(refine ACall.bg2i hs3 rfl ?_)|(refine ACall.bg2b hs4 rfl ?_))
            | refine aX ?_|with_reducible intro _
            | with_reducible refine zJ ?_ fun y hy=>?_|refine aP ?_ ?_)
           all_goals try (exfalso;omega)
           all_goals
            rename_i g5
            exact q_loop (pre++[d],post,drawB B d.bag (pickW B d.bag p),qs,c++[pickW B d.bag p],g5,spB (spOf d) b,spM (spOf d) m) ⟨by rw[hl];simp,he,hq2,by dsimp only;rw[len_snoc,len_snoc];omega,(ht.step hx).1,hr.2,hB2⟩ (Nat.lt_succ_self _) ⟨by rw[len_snoc];rfl,rfl,by first|rfl|exact iR_snocO _ _ _,trivial⟩ aS aK aK
         · rw[if_neg (show ¬(spOf d).2.2=true by rw[hs2];simp;omega)] at he
           repeat' (first
            | with_reducible refine Rd.p ?_
            | (first|refine w_ixP (f:=fun d:Dl=>[AV.int .i64 d.kind,.int .i64 d.bag,.int .i64 d.other,.int .i64 d.wood,.int .i64 d.count]) hl rfl rfl ?_|refine w_ldN rfl rfl hBl ?_|refine w_chkN rfl rfl hBl rfl ?_|refine w_stN rfl rfl (by rw[List.length_map];exact hBl) rfl hdl ?_|refine w_sl1 rfl ?_|refine w_ixP (f:=fun x:Int=>[AV.int .i64 x]) (l:=p::qs) (pre:=[]) (y:=p) (post:=qs) rfl rfl rfl ?_)
            | with_reducible (first|refine zI fun y hy=>?_|refine zL ?_|refine zS ?_|refine zV ?_|refine zC ?_)
            | ((with_reducible refine aC ?_);first|(refine ACall.val hds rfl rfl ?_)|(refine ACall.bg2i hs3 rfl ?_)|(refine ACall.bg2b hs4 rfl ?_))
            | refine aX ?_|with_reducible intro _
            | with_reducible refine zJ ?_ fun y hy=>?_|refine aP ?_ ?_)
           all_goals first
            | (exfalso;omega)
            | exact q_loop (pre++[d],post,drawB B d.bag (pickW B d.bag p),qs,c,g,spB (spOf d) b,spM (spOf d) m) ⟨by rw[hl];simp,he,hq2,by dsimp only;rw[len_snoc];omega,(ht.step hx).1,hr.2,hB2⟩ (Nat.lt_succ_self _) ⟨by rw[len_snoc];rfl,rfl,rfl,trivial⟩ aS aK aK
     | false=>
       rw[hdb] at hds
       have hdp:¬(spOf d).2.1=true:=by show ¬drawsB d=true;rw[hdb];decide
       have hk:¬(d.kind=4∨d.kind=5):=by simpa[drawsB] using hdb
       have hm:=ht.m
       have hn6:=hG.n6
       rw[szL,if_neg hdp] at hq
       rw[playS_f hdp] at he
       change playS (post.map spOf) (mixedB d B) qs (if (spOf d).2.2=true then c++[d.wood] else c)=some _ at he
       have hs1:=rready_c d B hin (fun h2=>by obtain⟨q1,q2,q3,q4⟩:=hx.h2 hdb h2;change 0≤d.wood∧d.wood<_ at q2;change 1≤d.count at q3;change m+d.count≤12 at q4;exact⟨q1,by omega,by omega⟩) (fun h3=>hx.h3 hdb h3)
       have hB2:=hB.mix ht.l hG.n6 hx hdb
       have hdl:(mixedB d B).length=24:=hB2.l
       by_cases h6:d.kind=6
       · rw[if_pos (show (spOf d).2.2=true by rw[hs2];simp[h6])] at he
         repeat' (first
          | with_reducible refine Rd.p ?_
          | (first|refine w_ixP (f:=fun d:Dl=>[AV.int .i64 d.kind,.int .i64 d.bag,.int .i64 d.other,.int .i64 d.wood,.int .i64 d.count]) hl rfl rfl ?_|refine w_ldN rfl rfl hBl ?_|refine w_chkN rfl rfl hBl rfl ?_|refine w_stN rfl rfl (by rw[List.length_map];exact hBl) rfl hdl ?_)
          | with_reducible (first|refine zI fun y hy=>?_|refine zL ?_|refine zS ?_|refine zV ?_|refine zC ?_)
          | ((with_reducible refine aC ?_);first|(refine ACall.val hds rfl rfl ?_)|(refine ACall.bgbg hs1 rfl ?_))
          | refine aX ?_|with_reducible intro _
          | with_reducible refine zJ ?_ fun y hy=>?_|refine aP ?_ ?_)
         all_goals try (exfalso;omega)
         all_goals
          rename_i g5
          exact q_loop (pre++[d],post,mixedB d B,qs,c++[d.wood],g5,spB (spOf d) b,spM (spOf d) m) ⟨by rw[hl];simp,he,hq,by dsimp only;rw[len_snoc,len_snoc];omega,(ht.step hx).1,hr.2,hB2⟩ (Nat.lt_succ_self _) ⟨by rw[len_snoc];rfl,rfl,by first|rfl|exact iR_snocO _ _ _,trivial⟩ aS aK aK
       · rw[if_neg (show ¬(spOf d).2.2=true by rw[hs2];simp;omega)] at he
         repeat' (first
          | with_reducible refine Rd.p ?_
          | (first|refine w_ixP (f:=fun d:Dl=>[AV.int .i64 d.kind,.int .i64 d.bag,.int .i64 d.other,.int .i64 d.wood,.int .i64 d.count]) hl rfl rfl ?_|refine w_ldN rfl rfl hBl ?_|refine w_chkN rfl rfl hBl rfl ?_|refine w_stN rfl rfl (by rw[List.length_map];exact hBl) rfl hdl ?_)
          | with_reducible (first|refine zI fun y hy=>?_|refine zL ?_|refine zS ?_|refine zV ?_|refine zC ?_)
          | ((with_reducible refine aC ?_);first|(refine ACall.val hds rfl rfl ?_)|(refine ACall.bgbg hs1 rfl ?_))
          | refine aX ?_|with_reducible intro _
          | with_reducible refine zJ ?_ fun y hy=>?_|refine aP ?_ ?_)
         all_goals first
          | (exfalso;omega)
          | exact q_loop (pre++[d],post,mixedB d B,qs,c,g,spB (spOf d) b,spM (spOf d) m) ⟨by rw[hl];simp,he,hq,by dsimp only;rw[len_snoc];omega,(ht.step hx).1,hr.2,hB2⟩ (Nat.lt_succ_self _) ⟨by rw[len_snoc];rfl,rfl,rfl,trivial⟩ aS aK aK
end Go.Abs
