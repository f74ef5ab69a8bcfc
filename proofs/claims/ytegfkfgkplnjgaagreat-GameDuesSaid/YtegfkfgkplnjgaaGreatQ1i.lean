/- A part of the proofs of the laws of this seat: contracts of the functions that they reach, each proved of the program's form in Lean. No condition beyond those that each contract names. -/
import Derived.Test.YtegfkfgkplnjgaaGreatProg
import Derived.Test.YtegfkfgkplnjgaaGreatSnd3
import Derived.Test.YtegfkfgkplnjgaaGreatA0
import Derived.Test.YtegfkfgkplnjgaaGreatQ1a
import Derived.Test.YtegfkfgkplnjgaaGreatQ1b
import Derived.Test.YtegfkfgkplnjgaaGreatQ1c
import Derived.Test.YtegfkfgkplnjgaaGreatQ1d
import Derived.Test.YtegfkfgkplnjgaaGreatQ1e
import Derived.Test.YtegfkfgkplnjgaaGreatQ1f
import Derived.Test.YtegfkfgkplnjgaaGreatQ1g
import Derived.Test.YtegfkfgkplnjgaaGreatQ1h
set_option linter.unusedVariables false
set_option linter.unusedSimpArgs false
set_option maxRecDepth 20000
set_option maxHeartbeats 4000000
namespace Go.Abs
open Go.Proofs
theorem Sizes_c (G:Gm) (h:GOK G):Fn0 Tryz.prog 27 [gmA G] (fun v=>v= .slc 1 (iR (szL (stepsG G.ds) tb0.bags)) .non):=by
 have hac:=acts_c G h.d24 h.cnt
 have hal:=acts_len G.ds h.cnt
 have hrun:=run_acts h
 have hd24:=h.d24
 have hsz:szL ((actsF G.ds).map spOf) tb0.bags=szL (stepsG G.ds) tb0.bags:=by rw[acts_sp,szL_nrm]
 obtain⟨A,hA⟩:∃A,actsF G.ds=A:=⟨_,rfl⟩
 rw[hA] at hac hal hrun hsz
 rw[←hsz]
 refine RawC.walk (H:=hint27 Tryz.prog) ir27 Tryz.func27 rfl rfl rfl ?_
 unfold ir27
 repeat' (first
  | with_reducible refine Rd.p ?_
  | with_reducible (first|refine zI fun y hy=>?_|refine zL ?_|refine zS ?_|refine zV ?_|refine zC ?_)
  | ((with_reducible refine aC ?_);first|(refine ACall.val hac rfl rfl ?_))
  | refine aX ?_|with_reducible intro _
  | with_reducible refine zJ ?_ fun y hy=>?_|refine aP ?_ ?_)
 rename_i g3 g4
 refine w_loopK [4,5] [] (fun x:List Dl×List Dl×List Int×List Int×Nat×List Int×Int=>A=x.1++x.2.1∧x.2.2.2.1++szL (x.2.1.map spOf) x.2.2.2.2.2.1=szL (A.map spOf) tb0.bags∧x.2.2.2.1.length≤x.1.length∧tbIn x.2.2.2.2.2.1 x.2.2.2.2.2.2∧runOK G.ws.length (x.2.1.map spOf) x.2.2.2.2.2.1 x.2.2.2.2.2.2∧bgT G.ws.length x.2.2.2.2.2.1 x.2.2.1) (fun x=>x.2.1.length)
  (fun x=>[(6,.int .i64 (x.1.length:Int)),(3,.slc 1 (iR x.2.2.2.1) (.own 3 x.2.2.2.2.1))]) (fun x=>[(4,(g4,.row (nI x.2.2.1))),(3,(x.2.2.2.2.1,.row []))]) ([],A,bg0,[],g3,tb0.bags,tb0.mixed) ⟨rfl,rfl,Nat.le_refl _,tb0_in,hrun,bgT0 _⟩ ⟨rfl,rfl,trivial⟩ ⟨rfl,rfl,trivial⟩ ?_
 rintro⟨pre,post,B,out,g,b,m⟩ ⟨hl,he,ho,ht,hr,hB⟩ e σ
 dsimp only at hl he ho ht hr hB ⊢
 have hlen:=congrArg List.length hl
 rw[List.length_append] at hlen
 have hol:(iR out).length=out.length:=List.length_map _
 have hBl:=hB.l
 have hin:=hB.bgin ht
 cases post with
 | nil=>
   simp only[List.length_nil] at hlen
   rw[show szL (List.map spOf []) b=[] from rfl,List.append_nil] at he
   rw[←he]
   repeat' (first
    | with_reducible refine Rd.p ?_
    | with_reducible (first|refine zI fun y hy=>?_|refine zL ?_|refine zS ?_|refine zV ?_|refine zC ?_)
    | refine aX ?_|with_reducible intro _
    | with_reducible refine zJ ?_ fun y hy=>?_|refine aP ?_ ?_)
   all_goals first
    | (exfalso;omega)
    | rfl
 | cons d post=>
   simp only[List.length_cons] at hlen
   have hx:=hr.1
   have hds:=rdraws_c d
   cases hdb:drawsB d with
   | true=>
     rw[hdb] at hds
     obtain⟨hb,ha⟩:=hx.d hdb
     have hsz1:=hB.size hb
     have hle:=ht.le hb
     have hsm:=ht.sm
     have hm:=ht.m
     change 0≤d.bag∧d.bag≤3 at hb
     change 1≤atI b d.bag at ha
     change bgSize B d.bag=atI b d.bag at hsz1
     change atI b d.bag≤sumB b at hle
     have hs1:=rsize_c B hin d.bag hb
     have hp0:0≤(0:Int)∧(0:Int)<bgSize B d.bag:=by omega
     obtain⟨hq,hq2⟩:=pickW_ok hp0.1 hp0.2
     have hs2:=rwood_c B hin d.bag 0 hb hp0 (by decide)
     have hs3:=rwithout_c B hin d.bag (pickW B d.bag 0) hb hq
     have hB2:=hB.draw ht.l h.n6 hb hq hq2
     have hbe:spB (spOf d) b=setI b d.bag (atI b d.bag+ -1):=by unfold spB;rw[if_pos (show (spOf d).2.1=true from hdb)];rfl
     rw[←hbe] at hB2
     have hdl:=hB2.l
     have he1:out++(bgSize B d.bag::szL (post.map spOf) (spB (spOf d) b))=szL (A.map spOf) tb0.bags:=by
      rw[←he,List.map_cons,szL,if_pos (show (spOf d).2.1=true from hdb),hsz1];rfl
     repeat' (first
      | with_reducible refine Rd.p ?_
      | (first|refine w_ixP (f:=fun d:Dl=>[AV.int .i64 d.kind,.int .i64 d.bag,.int .i64 d.other,.int .i64 d.wood,.int .i64 d.count]) hl rfl rfl ?_|refine w_ldN rfl rfl hBl ?_|refine w_chkN rfl rfl hBl rfl ?_|refine w_stN rfl rfl (by rw[List.length_map];exact hBl) rfl hdl ?_)
      | with_reducible (first|refine zI fun y hy=>?_|refine zL ?_|refine zS ?_|refine zV ?_|refine zC ?_)
      | ((with_reducible refine aC ?_);first|(refine ACall.val hds rfl rfl ?_)|(refine ACall.bg2i hs1 rfl ?_)|(refine ACall.bg2i hs2 rfl ?_)|(refine ACall.bg2b hs3 rfl ?_))
      | refine aX ?_|with_reducible intro _
      | with_reducible refine zJ ?_ fun y hy=>?_|refine aP ?_ ?_)
     all_goals try (exfalso;omega)
     all_goals
      rename_i g5
      exact q_loop (pre++[d],post,drawB B d.bag (pickW B d.bag 0),out++[bgSize B d.bag],g5,spB (spOf d) b,spM (spOf d) m) ⟨by rw[hl];simp,by rw[←he1];simp,by dsimp only;rw[len_snoc,len_snoc];omega,(ht.step hx).1,hr.2,hB2⟩ (Nat.lt_succ_self _) ⟨by rw[len_snoc];rfl,rfl,trivial⟩ aS aK aK
   | false=>
     rw[hdb] at hds
     have hm:=ht.m
     have hn6:=h.n6
     have hs1:=rready_c d B hin (fun h2=>by obtain⟨q1,q2,q3,q4⟩:=hx.h2 hdb h2;change 0≤d.wood∧d.wood<_ at q2;change 1≤d.count at q3;change m+d.count≤12 at q4;exact⟨q1,by omega,by omega⟩) (fun h3=>hx.h3 hdb h3)
     have hB2:=hB.mix ht.l h.n6 hx hdb
     have hdl:(mixedB d B).length=24:=hB2.l
     have he1:out++szL (post.map spOf) (spB (spOf d) b)=szL (A.map spOf) tb0.bags:=by
      rw[←he,List.map_cons,szL,if_neg (show ¬(spOf d).2.1=true by show ¬drawsB d=true;rw[hdb];decide)]
     repeat' (first
      | with_reducible refine Rd.p ?_
      | (first|refine w_ixP (f:=fun d:Dl=>[AV.int .i64 d.kind,.int .i64 d.bag,.int .i64 d.other,.int .i64 d.wood,.int .i64 d.count]) hl rfl rfl ?_|refine w_ldN rfl rfl hBl ?_|refine w_chkN rfl rfl hBl rfl ?_|refine w_stN rfl rfl (by rw[List.length_map];exact hBl) rfl hdl ?_)
      | with_reducible (first|refine zI fun y hy=>?_|refine zL ?_|refine zS ?_|refine zV ?_|refine zC ?_)
      | ((with_reducible refine aC ?_);first|(refine ACall.val hds rfl rfl ?_)|(refine ACall.bgbg hs1 rfl ?_))
      | refine aX ?_|with_reducible intro _
      | with_reducible refine zJ ?_ fun y hy=>?_|refine aP ?_ ?_)
     all_goals first
      | (exfalso;omega)
      | exact q_loop (pre++[d],post,mixedB d B,out,g,spB (spOf d) b,spM (spOf d) m) ⟨by rw[hl];simp,he1,by dsimp only;rw[len_snoc];omega,(ht.step hx).1,hr.2,hB2⟩ (Nat.lt_succ_self _) ⟨by rw[len_snoc];rfl,rfl,trivial⟩ aS aK aK
theorem fct_mono:∀{j k:Nat},j≤k→fct j≤fct k:=by
 intro j k h
 induction k with
 | zero=>rw[Nat.le_zero.1 h];exact Int.le_refl _
 | succ k ih=>
   by_cases e:j=k+1
   · rw[e];exact Int.le_refl _
   · have:=ih (by omega)
     have hp:=fct_pos k
     have:1*fct k≤((k+1:Nat):Int)*fct k:=Int.mul_le_mul_of_nonneg_right (by omega) (by omega)
     show fct j≤((k+1:Nat):Int)*fct k
     omega
theorem szP_bd {n:Nat} {l:List Sp} {b:List Int} {m:Int} (ht:tbIn b m) (h:runOK n l b m):1≤szP l b∧szP l b≤479001600:=by
 have h1:=szP_le ht h
 have hs:=ht.sm
 have hm:=ht.m
 have h2:=fct_mono (show (sumB b+12-m).toNat≤12 by omega)
 rw[fct12] at h2
 exact⟨szP_pos h,by omega⟩
section
variable {x:Sp} {r:List Sp} {B c:List Int} {w:Int}
theorem cntP_dn (h:x.2.1=true):cntP (x::r) [] B=bgSize B x.1.bag*cntP r [] (drawB B x.1.bag (pickW B x.1.bag 0)):=by
 show (if x.2.1=true then _ else _)=_
 rw[if_pos h]
def cntW (x:Sp) (r:List Sp) (B:List Int) (w:Int) (c:List Int) (v:Int):Int:=if x.2.2=true then (if v=w then bgAt B x.1.bag v*cntP r c (drawB B x.1.bag v) else 0) else bgAt B x.1.bag v*cntP r (w::c) (drawB B x.1.bag v)
theorem cntP_dc (h:x.2.1=true):cntP (x::r) (w::c) B=nSum 6 (cntW x r B w c):=by
 show (if x.2.1=true then _ else _)=_
 rw[if_pos h];rfl
theorem cntP_pn (h:¬x.2.1=true) (h2:x.2.2=true):cntP (x::r) [] B=cntP r [] (mixedB x.1 B):=by
 show (if x.2.1=true then _ else if x.2.2=true then _ else _)=_
 rw[if_neg h,if_pos h2]
theorem cntP_pc (h:¬x.2.1=true) (h2:x.2.2=true):cntP (x::r) (w::c) B=if w=x.1.wood then cntP r c (mixedB x.1 B) else 0:=by
 show (if x.2.1=true then _ else if x.2.2=true then _ else _)=_
 rw[if_neg h,if_pos h2]
theorem cntP_m (h:¬x.2.1=true) (h2:¬x.2.2=true):cntP (x::r) c B=cntP r c (mixedB x.1 B):=by
 show (if x.2.1=true then _ else if x.2.2=true then _ else _)=_
 rw[if_neg h,if_neg h2]
end
theorem cntP_bd {n:Nat} (hn:n≤6):∀{l:List Sp} {b:List Int} {m:Int} {B:List Int} (c:List Int),tbIn b m→runOK n l b m→bgT n b B→0≤cntP l c B∧cntP l c B≤szP l b
 | [],_,_,_,c,_,_,_=>by
   show 0≤(1:Int)∧(1:Int)≤1
   decide
 | x::r,b,m,B,c,ht,hr,hB=>by
   have hx:=hr.1
   have ht2:=(ht.step hx).1
   have hz:=szP_pos hr.2
   rw[szP]
   by_cases hd:x.2.1=true
   · obtain⟨hb,ha⟩:=hx.d hd
     have hs:=hB.size hb
     have e:spB x b=setI b x.1.bag (atI b x.1.bag+ -1):=by unfold spB;rw[if_pos hd]
     rw[if_pos hd]
     have hdr:∀(v:Int) (c:List Int),0≤v→v≤5→0≤bgAt B x.1.bag v*cntP r c (drawB B x.1.bag v)∧bgAt B x.1.bag v*cntP r c (drawB B x.1.bag v)≤bgAt B x.1.bag v*szP r (spB x b):=fun v c hv hv5=>by
      by_cases h0:bgAt B x.1.bag v=0
      · rw[h0,Int.zero_mul,Int.zero_mul];exact⟨Int.le_refl _,Int.le_refl _⟩
      · have hp:=bgAt_nn hB.nn x.1.bag v
        have hB2:=hB.draw ht.l hn hb (w:=v) ⟨hv,hv5⟩ (by omega)
        obtain⟨i1,i2⟩:=cntP_bd hn c ht2 hr.2 (by rw[e];exact hB2)
        exact⟨Int.mul_nonneg hp i1,Int.mul_le_mul_of_nonneg_left i2 hp⟩
     cases c with
     | nil=>
       rw[cntP_dn hd,hs]
       obtain⟨hp,hq⟩:=pickW_ok (B:=B) (i:=x.1.bag) (p:=0) (Int.le_refl _) (by rw[hs];omega)
       have hB2:=hB.draw ht.l hn hb hp hq
       obtain⟨i1,i2⟩:=cntP_bd hn [] ht2 hr.2 (by rw[e];exact hB2)
       exact⟨Int.mul_nonneg (by omega) i1,Int.mul_le_mul_of_nonneg_left i2 (by omega)⟩
     | cons w c=>
       rw[cntP_dc hd]
       have hF:∀k:Nat,k<6→0≤cntW x r B w c k∧cntW x r B w c k≤bgAt B x.1.bag k*szP r (spB x b):=fun k hk=>by
        unfold cntW
        have hbn:=bgAt_nn hB.nn x.1.bag k
        split
        · split
          · exact hdr k c (by omega) (by omega)
          · exact⟨Int.le_refl _,Int.mul_nonneg hbn (by omega)⟩
        · exact hdr k (w::c) (by omega) (by omega)
       refine⟨nSum_nn fun k hk=>(hF k hk).1,?_⟩
       have hle:∀j:Nat,j≤6→nSum j (cntW x r B w c)≤nSum j fun v=>bgAt B x.1.bag v*szP r (spB x b):=by
        intro j
        induction j with
        | zero=>intro _;exact Int.le_refl _
        | succ j ih=>
          intro hj
          have:=ih (by omega)
          have:=(hF j (by omega)).2
          rw[nSum,nSum];omega
       have h6:=hle 6 (Nat.le_refl _)
       rw[nSum_mulr,hB.s x.1.bag hb] at h6
       exact h6
   · have hdf:x.2.1=false:=by simpa using hd
     have hB2:=hB.mix ht.l hn hx hdf
     rw[if_neg hd,Int.one_mul]
     by_cases hc:x.2.2=true
     · cases c with
       | nil=>rw[cntP_pn hd hc];exact cntP_bd hn [] ht2 hr.2 hB2
       | cons w c=>
         rw[cntP_pc hd hc]
         split
         · exact cntP_bd hn c ht2 hr.2 hB2
         · exact⟨Int.le_refl _,by omega⟩
     · rw[cntP_m hd hc];exact cntP_bd hn c ht2 hr.2 hB2
theorem cntW_bd {n:Nat} (hn:n≤6) {x:Sp} {r:List Sp} {b:List Int} {m:Int} {B:List Int} (ht:tbIn b m) (hr:runOK n (x::r) b m) (hB:bgT n b B) (hd:x.2.1=true) (w:Int) (c:List Int):(∀k:Nat,k<6→0≤cntW x r B w c k)∧ ∀k:Nat,k≤6→0≤nSum k (cntW x r B w c)∧nSum k (cntW x r B w c)≤479001600:=by
 have hx:=hr.1
 obtain⟨hb,ha⟩:=hx.d hd
 have ht2:=(ht.step hx).1
 have e:spB x b=setI b x.1.bag (atI b x.1.bag+ -1):=by unfold spB;rw[if_pos hd]
 have hF:∀k:Nat,k<6→0≤cntW x r B w c k:=fun k hk=>by
  have hdr:∀(c:List Int),0≤bgAt B x.1.bag k*cntP r c (drawB B x.1.bag k):=fun c=>by
   by_cases h0:bgAt B x.1.bag k=0
   · rw[h0,Int.zero_mul];exact Int.le_refl _
   · have hp:=bgAt_nn hB.nn x.1.bag k
     have hB2:=hB.draw ht.l hn hb (w:=(k:Int)) (by omega) (by omega)
     exact Int.mul_nonneg hp (cntP_bd hn c ht2 hr.2 (by rw[e];exact hB2)).1
  unfold cntW
  split
  · split
    · exact hdr c
    · exact Int.le_refl _
  · exact hdr _
 refine⟨hF,fun k hk=>⟨nSum_nn fun j hj=>hF j (by omega),?_⟩⟩
 have h1:=nSum_mono (n:=6) hF hk
 have h2:=(cntP_bd hn (w::c) ht hr hB).2
 rw[cntP_dc hd] at h2
 have:=(szP_bd ht hr).2
 omega
def ir60:IFn:=
 ⟨123,[(6,none)],(.seq (.ops [oo 4 (.box 24 1),oo 6 (.mov (kI 0))])
 (.seq (.seq (.ops [oo 11 (.mov 0),oo 12 (.len false 11),oo 13 (.bin .eql 12 (kI 0))])
 (.cnd 13
 (.seq (.ops [oo 6 (.mov (kI 1))])
 .ret)
 .skip))
 (.seq (.ops [oo 14 (.mov 0),oo 15 (.ixA 5 14 (kI 0)),oo 16 (.ld 5 true 15),oo 7 (.new [(.int .i64 0),(.int .i64 0),(.int .i64 0),(.int .i64 0),(.int .i64 0)]),
 ⟨none,none,(.st 5 7 16)⟩])
 (.seq (.blk 0 (.seq (.ops [oo 18 (.ld 5 true 7),oo 19 (.callF 34 [18]),oo 20 (.not 19),oo 21 (.mov 20),
 ⟨(some 22),(some (21,true)),(.flA 0 7)⟩,
 ⟨(some 23),(some (21,true)),(.ld 1 false 22)⟩,
 ⟨(some 24),(some (21,true)),(.bin .neq 23 (kI 6))⟩,oo 25 (.pick 21 24 (kB false)),oo 17 (.mov 25)])
 (.cnd 17
 (.seq (.ops [oo 26 (.mov 0),oo 27 (.slS 5 26 (some (kI 1)) none none),oo 28 (.ld 24 true 4),oo 29 (.ld 5 true 7),oo 31 (.mov 2),oo 30 (.callF 37 [28,29]),oo 32 (.callF 60 [27,30,31]),oo 6 (.mov 32)])
 .ret)
 (.seq (.ops [oo 34 (.flA 0 7),oo 35 (.ld 1 false 34),oo 36 (.bin .eql 35 (kI 6)),oo 37 (.mov 36),
 ⟨(some 38),(some (37,true)),(.mov 2)⟩,
 ⟨(some 39),(some (37,true)),(.len false 38)⟩,
 ⟨(some 40),(some (37,true)),(.bin .eql 39 (kI 0))⟩,oo 41 (.pick 37 40 (kB false)),oo 33 (.mov 41)])
 (.cnd 33
 (.seq (.ops [oo 42 (.mov 0),oo 43 (.slS 5 42 (some (kI 1)) none none),oo 44 (.ld 24 true 4),oo 45 (.callF 60 [43,44,(.k .nsl)]),oo 6 (.mov 45)])
 .ret)
 (.seq (.ops [oo 47 (.flA 0 7),oo 48 (.ld 1 false 47),oo 49 (.bin .eql 48 (kI 6)),oo 46 (.mov 49)])
 (.cnd 46
 (.seq (.seq (.ops [oo 50 (.mov 2),oo 51 (.ixA 1 50 (kI 0)),oo 52 (.ld 1 false 51),oo 53 (.flA 3 7),oo 54 (.ld 1 false 53),oo 55 (.bin .neq 52 54)])
 (.cnd 55
 (.seq (.ops [oo 6 (.mov (kI 0))])
 .ret)
 .skip))
 (.seq (.ops [oo 56 (.mov 0),oo 57 (.slS 5 56 (some (kI 1)) none none),oo 58 (.ld 24 true 4),oo 59 (.mov 2),oo 60 (.slS 1 59 (some (kI 1)) none none),oo 61 (.callF 60 [57,58,60]),oo 6 (.mov 61)])
 .ret))
 (.seq (.ops [oo 63 (.mov 2),oo 64 (.len false 63),oo 65 (.bin .eql 64 (kI 0)),oo 62 (.mov 65)])
 (.cnd 62
 (.seq (.ops [oo 66 (.ld 24 true 4),oo 67 (.flA 1 7),oo 68 (.ld 1 false 67),oo 70 (.mov 0),oo 71 (.slS 5 70 (some (kI 1)) none none),oo 72 (.ld 24 true 4),oo 73 (.flA 1 7),oo 74 (.ld 1 false 73),oo 75 (.ld 24 true 4),oo 76 (.flA 1 7),oo 77 (.ld 1 false 76),oo 69 (.callF 65 [66,68]),
 ⟨none,none,(.chk 24 true 4 72)⟩,
 ⟨none,none,(.chk 1 false 73 74)⟩,
 ⟨none,none,(.chk 24 true 4 75)⟩,
 ⟨none,none,(.chk 1 false 76 77)⟩,oo 78 (.callF 35 [75,77,(kI 0)]),
 ⟨none,none,(.chk 24 true 4 72)⟩,
 ⟨none,none,(.chk 1 false 73 74)⟩,oo 79 (.callF 36 [72,74,78]),oo 80 (.callF 60 [71,79,(.k .nsl)]),oo 81 (.bin .mul 69 80),oo 6 (.mov 81)])
 .ret)
 .skip)))))))))
 (.seq (.ops [oo 8 (.mov (kI 0))])
 (.seq (.seq (.ops [oo 9 (.mov (kI 0))])
 (.blk 1 (.loop (.seq (.seq (.ops [oo 82 (.mov 9),oo 83 (.bin .lss 82 (kI 6))])
 (.cnd 83
 .skip
 (.exit 1)))
 (.seq (.blk 2 (.seq (.seq (.ops [oo 86 (.flA 1 7),oo 87 (.ld 1 false 86),oo 88 (.mov 9),oo 89 (.ixAr 4 6 4 87),oo 90 (.ixAr 6 1 89 88),oo 91 (.ld 1 false 90),oo 92 (.bin .eql 91 (kI 0))])
 (.cnd 92
 (.exit 2)
 .skip))
 (.seq (.ops [oo 93 (.mov 2),oo 10 (.mov 93)])
 (.seq (.seq (.ops [oo 94 (.flA 0 7),oo 95 (.ld 1 false 94),oo 96 (.bin .eql 95 (kI 5))])
 (.cnd 96
 (.seq (.seq (.ops [oo 97 (.mov 9),oo 98 (.mov 2),oo 99 (.ixA 1 98 (kI 0)),oo 100 (.ld 1 false 99),oo 101 (.bin .neq 97 100)])
 (.cnd 101
 (.exit 2)
 .skip))
 (.ops [oo 102 (.mov 2),oo 103 (.slS 1 102 (some (kI 1)) none none),oo 10 (.mov 103)]))
 .skip))
 (.ops [oo 104 (.mov 8),oo 105 (.flA 1 7),oo 106 (.ld 1 false 105),oo 107 (.mov 9),oo 108 (.ixAr 4 6 4 106),oo 109 (.ixAr 6 1 108 107),oo 110 (.ld 1 false 109),oo 111 (.mov 0),oo 112 (.slS 5 111 (some (kI 1)) none none),oo 113 (.ld 24 true 4),oo 114 (.flA 1 7),oo 115 (.ld 1 false 114),oo 116 (.mov 9),oo 118 (.mov 10),oo 117 (.callF 36 [113,115,116]),
 ⟨none,none,(.chk 1 false 105 106)⟩,
 ⟨none,none,(.chk 1 false 109 110)⟩,oo 119 (.callF 60 [112,117,118]),
 ⟨none,none,(.chk 1 false 105 106)⟩,
 ⟨none,none,(.chk 1 false 109 110)⟩,oo 120 (.bin .mul 110 119),oo 121 (.bin .add 104 120),oo 8 (.mov 121)])))))
 (.ops [oo 84 (.mov 9),oo 85 (.bin .add 84 (kI 1)),oo 9 (.mov 85)]))))))
 (.seq (.ops [oo 122 (.mov 8),oo 6 (.mov 122)])
 .ret)))))))⟩
def hint60 (P:Program):Hint:={}
def CV (a:AV) (c:List Int):Prop:=(a= .nsl∧c=[])∨a= .slc 1 (iR c) .non
theorem ACall.cnt {P:Program} {f:Nat} {B:List Int} {a0 a0' a1 a1':AV} {r:Int} {σ:Sig} {d:Nat} {Q:AV→Sig→Prop} (h:Fn0 P f [a0,bgV B,a1] (fun a=>a= .int .i64 r)) (ha:a0=ren [] a0') (hb:a1=ren [] a1') (hQ:Q (.int .i64 r) σ):ACall P f [a0',bgV B,a1'] σ d Q:=
 ACall.val h (by show[a0,bgV B,a1]=[ren [] a0',ren [] (bgV B),ren [] a1'];rw[ren_bg,ha,hb]) rfl hQ
section
variable {P:Program} {K:(Nat→AV)→Sig→Prop} {e:Nat→AV} {σ:Sig} {x h:IOpd} {r:List IStep}
theorem w_slT {α:Type} {f:α→List AV} {l:List α} {p:α} {d sz:Nat} {t:Tag} (hx:x.ev e= .slc sz ((p::l).map f) t) (hk:stepsW P r K (upd e d (.slc sz (l.map f) .non)) σ):stepsW P (⟨some d,none,.slS sz x (some (.k (.int .i64 1))) none none⟩::r) K e σ:=by
 refine w_slM (a:=1) (b:=((p::l).length:Int)) hx rfl rfl ⟨by decide,by rw[List.length_cons];omega,Int.le_refl _⟩ ?_
 have e1:((p::l).drop (1:Int).toNat).take (((p::l).length:Int)-1).toNat=l:=by
  show l.take _=l
  exact List.take_of_length_le (by rw[List.length_cons];omega)
 rw[e1];exact hk
theorem w_chkAt {i g off t:Nat} {cs:List AV} {a:AV} (hx:x.ev e= .ref i g off) (hσ:σ i=(g,.row cs)) (hc:cs[off]?=some a) (hf:forceA a=some a) (ht:e t=a)
  (hk:stepsW P r K e σ):stepsW P (⟨none,none,.chk 1 false x t⟩::r) K e σ:=by
 refine w_det0 (p:=(g=g∧True)∧a=e t) (v:= .junk) (σ':=σ) (fun _=>?_) ⟨⟨rfl,trivial⟩,ht.symm⟩ hk
 show (match ldO 1 false σ (x.ev e) with
  | some (p,v)=>some (p∧v=e t,AV.junk,σ)
  | none=>none)=_
 rw[hx]
 simp only[ldO,hσ,partO,hc,hf,liftV,okV]
theorem w_chkEl {i g off t p:Nat} {B:List Int} (hx:x.ev e= .ref i g off) (ho:off=p) (hσ:σ i=(g,.row (nI B))) (hp:p<B.length) (ht:e t= .int .i64 (B.getD p 0)) (hk:stepsW P r K e σ):stepsW P (⟨none,none,.chk 1 false x t⟩::r) K e σ:=
 w_chkAt hx hσ (by rw[ho];exact nI_get hp) rfl ht hk
end
theorem rcount_c (n:Nat) (hn:n≤6):∀(A:List Dl) (b:List Int) (m:Int) (B c:List Int) (a:AV),CV a c→tbIn b m→runOK n (A.map spOf) b m→bgT n b B→A.length<1000→c.length<1000→Fn0 Tryz.prog 60 [.slc 5 (dlR A) .non,bgV B,a] (fun v=>v= .int .i64 (cntP (A.map spOf) c B))
 | [],b,m,B,c,a,hc,ht,hr,hB,hA,hcl=>by
   have hz:([]:List Dl).length=0:=rfl
   have hl:=hB.l
   rcases hc with⟨rfl,rfl⟩|rfl
   all_goals
    refine RawC.walk (H:=hint60 Tryz.prog) ir60 Tryz.func60 rfl rfl rfl ?_
    unfold ir60
    repeat' (first
     | with_reducible (first|refine Rd.p ?_|refine w_alt ?_ ?_|refine zE ?_|refine zE0 ?_)
     | (first|(refine w_boxN rfl hl ?_;intro g2))
     | with_reducible (first|refine zI fun y hy=>?_|refine zL ?_|refine zS ?_|refine zA fun _=>?_|refine zV ?_|refine zC ?_|refine zG ?_|refine zU ?_|refine zG0 ?_|refine zU0 ?_|refine zF ?_)
     | with_reducible (first|refine zX ?_|refine zD fun _=>?_|refine zD0 ?_|refine zN ?_|refine zF0 ?_|refine zX0 ?_|refine z1 ?_|refine z2 ?_|refine z3 ?_|refine z4 ?_|refine z5 ?_|refine z6 ?_|refine z7 ?_|refine z8 ?_|refine y1 ?_|refine y2 ?_|refine y3 ?_|refine y4 ?_|refine y5 ?_|refine y6 ?_|refine y7 ?_|refine y8 ?_|refine Rt.p (fun _=>?_) fun _=>?_)
     | ((with_reducible apply w_ixM);(focus exact rfl);(focus exact rfl);case' hk=>intro y hy)|((with_reducible (first | apply w_val | apply q_ends));(focus exact rfl)))
    all_goals first
     | (exfalso;omega)
     | rfl
 | d::A,b,m,B,c,a,hc,ht,hr,hB,hA,hcl=>by
   have hl:=hB.l
   have hin:=hB.bgin ht
   have hx:=hr.1
   have ht2:=(ht.step hx).1
   have hds:=rdraws_c d
   have hm:=ht.m
   have hbd:=cntP_bd hn c ht hr hB
   have hsb:=szP_bd ht hr
   have hsb2:=szP_bd ht2 hr.2
   have hcls:(d::A).length=A.length+1:=rfl
   have hmap:(d::A).map spOf=spOf d::A.map spOf:=rfl
   rw[hmap] at hbd hsb ⊢
   have hs1:(spOf d).2.1=drawsB d:=rfl
   have hs2:(spOf d).2.2=(decide (d.kind=5) || decide (d.kind=6)):=rfl
   cases hdb:drawsB d with
   | false=>
     have hk:¬(d.kind=4∨d.kind=5):=by simpa[drawsB] using hdb
     have hnd:¬(spOf d).2.1=true:=by rw[hs1,hdb];decide
     rw[hdb] at hds
     have hB2:=hB.mix ht.l hn hx (by rw[hs1,hdb])
     by_cases h6:d.kind=6
     · have hce:(spOf d).2.2=true:=by rw[hs2];simp[h6]
       have hmx:mixedB (spOf d).1 B=B:=by show mixedB d B=B;unfold mixedB;rw[if_neg (by omega),if_neg (by omega)]
       rw[hmx] at hB2
       cases c with
       | nil=>
         rw[cntP_pn hnd hce,hmx]
         have ih:=rcount_c n hn A _ _ B [] .nsl (.inl ⟨rfl,rfl⟩) ht2 hr.2 hB2 (by omega) hcl
         have hz:([]:List Int).length=0:=rfl
         rcases hc with⟨rfl,-⟩|rfl
         all_goals
          refine RawC.walk (H:=hint60 Tryz.prog) ir60 Tryz.func60 rfl rfl rfl ?_
          unfold ir60
          repeat' (first
           | with_reducible (first|refine Rd.p ?_|refine w_alt ?_ ?_|refine zE ?_|refine zE0 ?_)
           | (first|(refine w_boxN rfl hl ?_;intro g2)|refine w_ixP (f:=fun d:Dl=>[AV.int .i64 d.kind,.int .i64 d.bag,.int .i64 d.other,.int .i64 d.wood,.int .i64 d.count]) (l:=d::A) (pre:=[]) (y:=d) (post:=A) rfl rfl rfl ?_|refine w_ldN rfl rfl hl ?_|refine w_slT (f:=fun d:Dl=>[AV.int .i64 d.kind,.int .i64 d.bag,.int .i64 d.other,.int .i64 d.wood,.int .i64 d.count]) rfl ?_)
           | with_reducible (first|refine zI fun y hy=>?_|refine zL ?_|refine zS ?_|refine zA fun _=>?_|refine zV ?_|refine zC ?_|refine zG ?_|refine zU ?_|refine zG0 ?_|refine zU0 ?_|refine zF ?_)
           | ((with_reducible refine acall_id ?_);refine ACall.val hds rfl rfl ?_)
           | ((with_reducible refine acall_id ?_);refine ACall.cnt ih rfl rfl ?_)
           | with_reducible (first|refine zX ?_|refine zD fun _=>?_|refine zD0 ?_|refine zN ?_|refine zF0 ?_|refine zX0 ?_|refine z1 ?_|refine z2 ?_|refine z3 ?_|refine z4 ?_|refine z5 ?_|refine z6 ?_|refine z7 ?_|refine z8 ?_|refine y1 ?_|refine y2 ?_|refine y3 ?_|refine y4 ?_|refine y5 ?_|refine y6 ?_|refine y7 ?_|refine y8 ?_|refine Rt.p (fun _=>?_) fun _=>?_)
           | ((with_reducible apply w_ixM);(focus exact rfl);(focus exact rfl);case' hk=>intro y hy)|((with_reducible (first | apply w_val | apply q_ends));(focus exact rfl)))
          all_goals first
           | (exfalso;omega)
           | rfl
       | cons w c=>
         rw[cntP_pc hnd hce,hmx]
         have ih:=rcount_c n hn A _ _ B c _ (.inr rfl) ht2 hr.2 hB2 (by omega) (by rw[List.length_cons] at hcl;omega)
         rcases hc with⟨-,h⟩|rfl
         · cases h
         have hz:(iR (w::c)).length=c.length+1:=by rw[List.length_map];rfl
         have hz2:(w::c).length=c.length+1:=rfl
         by_cases hw:w=(spOf d).1.wood
         · rw[if_pos hw]
           change w=d.wood at hw
           refine RawC.walk (H:=hint60 Tryz.prog) ir60 Tryz.func60 rfl rfl rfl ?_
           unfold ir60
           repeat' (first
            | with_reducible (first|refine Rd.p ?_|refine w_alt ?_ ?_|refine zE ?_|refine zE0 ?_)
            | (first|(refine w_boxN rfl hl ?_;intro g2)|refine w_ixP (f:=fun d:Dl=>[AV.int .i64 d.kind,.int .i64 d.bag,.int .i64 d.other,.int .i64 d.wood,.int .i64 d.count]) (l:=d::A) (pre:=[]) (y:=d) (post:=A) rfl rfl rfl ?_|refine w_ixP (f:=fun x:Int=>[AV.int .i64 x]) (l:=w::c) (pre:=[]) (y:=w) (post:=c) rfl rfl rfl ?_|refine w_ldN rfl rfl hl ?_|refine w_slT (f:=fun d:Dl=>[AV.int .i64 d.kind,.int .i64 d.bag,.int .i64 d.other,.int .i64 d.wood,.int .i64 d.count]) rfl ?_|refine w_sl1 rfl ?_)
            | with_reducible (first|refine zI fun y hy=>?_|refine zL ?_|refine zS ?_|refine zA fun _=>?_|refine zV ?_|refine zC ?_|refine zG ?_|refine zU ?_|refine zG0 ?_|refine zU0 ?_|refine zF ?_)
            | ((with_reducible refine acall_id ?_);refine ACall.val hds rfl rfl ?_)
            | ((with_reducible refine acall_id ?_);refine ACall.cnt ih rfl rfl ?_)
            | with_reducible (first|refine zX ?_|refine zD fun _=>?_|refine zD0 ?_|refine zN ?_|refine zF0 ?_|refine zX0 ?_|refine z1 ?_|refine z2 ?_|refine z3 ?_|refine z4 ?_|refine z5 ?_|refine z6 ?_|refine z7 ?_|refine z8 ?_|refine y1 ?_|refine y2 ?_|refine y3 ?_|refine y4 ?_|refine y5 ?_|refine y6 ?_|refine y7 ?_|refine y8 ?_|refine Rt.p (fun _=>?_) fun _=>?_)
            | ((with_reducible apply w_ixM);(focus exact rfl);(focus exact rfl);case' hk=>intro y hy)|((with_reducible (first | apply w_val | apply q_ends));(focus exact rfl)))
           all_goals first
            | (exfalso;omega)
            | rfl
         · rw[if_neg hw]
           change ¬w=d.wood at hw
           refine RawC.walk (H:=hint60 Tryz.prog) ir60 Tryz.func60 rfl rfl rfl ?_
           unfold ir60
           repeat' (first
            | with_reducible (first|refine Rd.p ?_|refine w_alt ?_ ?_|refine zE ?_|refine zE0 ?_)
            | (first|(refine w_boxN rfl hl ?_;intro g2)|refine w_ixP (f:=fun d:Dl=>[AV.int .i64 d.kind,.int .i64 d.bag,.int .i64 d.other,.int .i64 d.wood,.int .i64 d.count]) (l:=d::A) (pre:=[]) (y:=d) (post:=A) rfl rfl rfl ?_|refine w_ixP (f:=fun x:Int=>[AV.int .i64 x]) (l:=w::c) (pre:=[]) (y:=w) (post:=c) rfl rfl rfl ?_|refine w_ldN rfl rfl hl ?_)
            | with_reducible (first|refine zI fun y hy=>?_|refine zL ?_|refine zS ?_|refine zA fun _=>?_|refine zV ?_|refine zC ?_|refine zG ?_|refine zU ?_|refine zG0 ?_|refine zU0 ?_|refine zF ?_)
            | ((with_reducible refine acall_id ?_);refine ACall.val hds rfl rfl ?_)
            | with_reducible (first|refine zX ?_|refine zD fun _=>?_|refine zD0 ?_|refine zN ?_|refine zF0 ?_|refine zX0 ?_|refine z1 ?_|refine z2 ?_|refine z3 ?_|refine z4 ?_|refine z5 ?_|refine z6 ?_|refine z7 ?_|refine z8 ?_|refine y1 ?_|refine y2 ?_|refine y3 ?_|refine y4 ?_|refine y5 ?_|refine y6 ?_|refine y7 ?_|refine y8 ?_|refine Rt.p (fun _=>?_) fun _=>?_)
            | ((with_reducible apply w_ixM);(focus exact rfl);(focus exact rfl);case' hk=>intro y hy)|((with_reducible (first | apply w_val | apply q_ends));(focus exact rfl)))
           all_goals first
            | (exfalso;omega)
            | rfl
     · have hce:¬(spOf d).2.2=true:=by rw[hs2];simp;omega
       rw[cntP_m hnd hce]
       have hrd:=rready_c d B hin (fun h2=>by obtain⟨q1,q2,q3,q4⟩:=hx.h2 (by rw[hs1,hdb]) h2;change 0≤d.wood∧d.wood<_ at q2;change 1≤d.count at q3;change m+d.count≤12 at q4;exact⟨q1,by omega,by omega⟩) (fun h3=>hx.h3 (by rw[hs1,hdb]) h3)
       have ih:=rcount_c n hn A _ _ (mixedB d B) c _ hc ht2 hr.2 hB2 (by omega) hcl
       have hml:=hB2.l
       change Fn0 Tryz.prog _ _ (fun v=>v= .int .i64 (cntP (A.map spOf) c (mixedB d B))) at ih
       rcases hc with⟨rfl,-⟩|rfl
       all_goals
        refine RawC.walk (H:=hint60 Tryz.prog) ir60 Tryz.func60 rfl rfl rfl ?_
        unfold ir60
        repeat' (first
         | with_reducible (first|refine Rd.p ?_|refine w_alt ?_ ?_|refine zE ?_|refine zE0 ?_)
         | (first|(refine w_boxN rfl hl ?_;intro g2)|refine w_ixP (f:=fun d:Dl=>[AV.int .i64 d.kind,.int .i64 d.bag,.int .i64 d.other,.int .i64 d.wood,.int .i64 d.count]) (l:=d::A) (pre:=[]) (y:=d) (post:=A) rfl rfl rfl ?_|refine w_ldN rfl rfl hl ?_|refine w_slT (f:=fun d:Dl=>[AV.int .i64 d.kind,.int .i64 d.bag,.int .i64 d.other,.int .i64 d.wood,.int .i64 d.count]) rfl ?_)
         | with_reducible (first|refine zI fun y hy=>?_|refine zL ?_|refine zS ?_|refine zA fun _=>?_|refine zV ?_|refine zC ?_|refine zG ?_|refine zU ?_|refine zG0 ?_|refine zU0 ?_|refine zF ?_)
         | ((with_reducible refine acall_id ?_);refine ACall.val hds rfl rfl ?_)
         | ((with_reducible refine acall_id ?_);refine ACall.bgbg hrd rfl ?_)
         | ((with_reducible refine acall_id ?_);refine ACall.cnt ih rfl rfl ?_)
         | with_reducible (first|refine zX ?_|refine zD fun _=>?_|refine zD0 ?_|refine zN ?_|refine zF0 ?_|refine zX0 ?_|refine z1 ?_|refine z2 ?_|refine z3 ?_|refine z4 ?_|refine z5 ?_|refine z6 ?_|refine z7 ?_|refine z8 ?_|refine y1 ?_|refine y2 ?_|refine y3 ?_|refine y4 ?_|refine y5 ?_|refine y6 ?_|refine y7 ?_|refine y8 ?_|refine Rt.p (fun _=>?_) fun _=>?_)
         | ((with_reducible apply w_ixM);(focus exact rfl);(focus exact rfl);case' hk=>intro y hy)|((with_reducible (first | apply w_val | apply q_ends));(focus exact rfl)))
        all_goals first
         | (exfalso;omega)
         | rfl
   | true=>
     rw[hdb] at hds
     have hd:(spOf d).2.1=true:=by rw[hs1,hdb]
     have hk:d.kind=4∨d.kind=5:=by simpa[drawsB] using hdb
     obtain⟨hb,ha⟩:=hx.d hd
     have hsz1:=hB.size hb
     have hle:=ht.le hb
     have hsm:=ht.sm
     change 0≤d.bag∧d.bag≤3 at hb
     change 1≤atI b d.bag at ha
     change bgSize B d.bag=atI b d.bag at hsz1
     change atI b d.bag≤sumB b at hle
     have hbe:spB (spOf d) b=setI b d.bag (atI b d.bag+ -1):=by unfold spB;rw[if_pos hd];rfl
     cases c with
     | nil=>
       have hr1:=rsize_c B hin d.bag hb
       have hp0:0≤(0:Int)∧(0:Int)<bgSize B d.bag:=by omega
       obtain⟨hq,hq2⟩:=pickW_ok hp0.1 hp0.2
       have hr2:=rwood_c B hin d.bag 0 hb hp0 (by decide)
       have hr3:=rwithout_c B hin d.bag (pickW B d.bag 0) hb hq
       have hB2:=hB.draw ht.l hn hb hq hq2
       rw[←hbe] at hB2
       have ih:=rcount_c n hn A _ _ _ [] .nsl (.inl ⟨rfl,rfl⟩) ht2 hr.2 hB2 (by omega) hcl
       rw[cntP_dn hd] at hbd ⊢
       change 0≤bgSize B d.bag*cntP (A.map spOf) [] (drawB B d.bag (pickW B d.bag 0))∧bgSize B d.bag*cntP (A.map spOf) [] (drawB B d.bag (pickW B d.bag 0))≤_ at hbd
       have hz:([]:List Int).length=0:=rfl
       rcases hc with⟨rfl,-⟩|rfl
       all_goals
        refine RawC.walk (H:=hint60 Tryz.prog) ir60 Tryz.func60 rfl rfl rfl ?_
        unfold ir60
        repeat' (first
         | with_reducible (first|refine Rd.p ?_|refine w_alt ?_ ?_|refine zE ?_|refine zE0 ?_)
         | (first|(refine w_boxN rfl hl ?_;intro g2)|refine w_ixP (f:=fun d:Dl=>[AV.int .i64 d.kind,.int .i64 d.bag,.int .i64 d.other,.int .i64 d.wood,.int .i64 d.count]) (l:=d::A) (pre:=[]) (y:=d) (post:=A) rfl rfl rfl ?_|refine w_ldN rfl rfl hl ?_|refine w_chkN rfl rfl hl rfl ?_|refine w_slT (f:=fun d:Dl=>[AV.int .i64 d.kind,.int .i64 d.bag,.int .i64 d.other,.int .i64 d.wood,.int .i64 d.count]) rfl ?_)
         | with_reducible (first|refine zI fun y hy=>?_|refine zL ?_|refine zS ?_|refine zA fun _=>?_|refine zV ?_|refine zC ?_|refine zG ?_|refine zU ?_|refine zG0 ?_|refine zU0 ?_|refine zF ?_)
         | ((with_reducible refine acall_id ?_);refine ACall.val hds rfl rfl ?_)
         | ((with_reducible refine acall_id ?_);refine ACall.bg2i hr1 rfl ?_)
         | ((with_reducible refine acall_id ?_);refine ACall.bg2i hr2 rfl ?_)
         | ((with_reducible refine acall_id ?_);refine ACall.bg2b hr3 rfl ?_)
         | ((with_reducible refine acall_id ?_);refine ACall.cnt ih rfl rfl ?_)
         | with_reducible (first|refine zX ?_|refine zD fun _=>?_|refine zD0 ?_|refine zN ?_|refine zF0 ?_|refine zX0 ?_|refine z1 ?_|refine z2 ?_|refine z3 ?_|refine z4 ?_|refine z5 ?_|refine z6 ?_|refine z7 ?_|refine z8 ?_|refine y1 ?_|refine y2 ?_|refine y3 ?_|refine y4 ?_|refine y5 ?_|refine y6 ?_|refine y7 ?_|refine y8 ?_|refine Rt.p (fun _=>?_) fun _=>?_)
         | ((with_reducible apply w_ixM);(focus exact rfl);(focus exact rfl);case' hk=>intro y hy)|((with_reducible (first | apply w_val | apply q_ends));(focus exact rfl)))
        all_goals first
         | (exfalso;omega)
         | rfl
     | cons w c=>
       rcases hc with⟨-,h⟩|rfl
       · cases h
       have hz2:(w::c).length=c.length+1:=rfl
       rw[cntP_dc hd]
       obtain⟨hF0,hFb⟩:=cntW_bd hn ht hr hB hd w c
       obtain⟨F,hF⟩:∃F,cntW (spOf d) (A.map spOf) B w c=F:=⟨_,rfl⟩
       rw[hF] at hF0 hFb ⊢
       have hFv:∀v:Nat,F v=if d.kind=5 then (if (v:Int)=w then bgAt B d.bag v*cntP (A.map spOf) c (drawB B d.bag v) else 0) else bgAt B d.bag v*cntP (A.map spOf) (w::c) (drawB B d.bag v):=fun v=>by
        rw[←hF]
        unfold cntW
        rw[hs2]
        by_cases h5:d.kind=5
        · rw[if_pos h5,if_pos (by simp[h5])];rfl
        · rw[if_neg h5,if_neg (by simp;omega)];rfl
       refine RawC.walk (H:=hint60 Tryz.prog) ir60 Tryz.func60 rfl rfl rfl ?_
       unfold ir60
       repeat' (first
        | with_reducible (first|refine Rd.p ?_|refine w_alt ?_ ?_|refine zE ?_|refine zE0 ?_)
        | (first|(refine w_boxN rfl hl ?_;intro g2)|refine w_ixP (f:=fun d:Dl=>[AV.int .i64 d.kind,.int .i64 d.bag,.int .i64 d.other,.int .i64 d.wood,.int .i64 d.count]) (l:=d::A) (pre:=[]) (y:=d) (post:=A) rfl rfl rfl ?_|refine w_ixP (f:=fun x:Int=>[AV.int .i64 x]) (l:=w::c) (pre:=[]) (y:=w) (post:=c) rfl rfl rfl ?_|refine w_ldN rfl rfl hl ?_|refine w_chkN rfl rfl hl rfl ?_|refine w_slT (f:=fun d:Dl=>[AV.int .i64 d.kind,.int .i64 d.bag,.int .i64 d.other,.int .i64 d.wood,.int .i64 d.count]) rfl ?_|refine w_sl1 rfl ?_)
        | with_reducible (first|refine zI fun y hy=>?_|refine zL ?_|refine zS ?_|refine zA fun _=>?_|refine zV ?_|refine zC ?_|refine zG ?_|refine zU ?_|refine zG0 ?_|refine zU0 ?_|refine zF ?_)
        | ((with_reducible refine acall_id ?_);refine ACall.val hds rfl rfl ?_)
        | with_reducible (first|refine zX ?_|refine zD fun _=>?_|refine zD0 ?_|refine zN ?_|refine zF0 ?_|refine zX0 ?_|refine z1 ?_|refine z2 ?_|refine z3 ?_|refine z4 ?_|refine z5 ?_|refine z6 ?_|refine z7 ?_|refine z8 ?_|refine y1 ?_|refine y2 ?_|refine y3 ?_|refine y4 ?_|refine y5 ?_|refine y6 ?_|refine y7 ?_|refine y8 ?_|refine Rt.p (fun _=>?_) fun _=>?_)
        | ((with_reducible apply w_ixM);(focus exact rfl);(focus exact rfl);case' hk=>intro y hy)|((with_reducible (first | apply w_val | apply q_ends));(focus exact rfl)))
       all_goals try (exfalso;omega)
       refine w_loopK [0,2,4,7] [4,7] (fun v:Nat=>v≤6) (fun v=>6-v) (fun v=>[(9,.int .i64 (v:Int)),(8,.int .i64 (nSum v F))]) (fun _=>[]) 0 (Nat.zero_le _) ⟨rfl,rfl,trivial⟩ trivial ?_
       rintro v hv e σ
       try dsimp only at hv ⊢
       by_cases hv6:v=6
       · subst hv6
         repeat' (first
          | with_reducible (first|refine Rd.p ?_|refine w_alt ?_ ?_|refine zE ?_|refine zE0 ?_)
          | with_reducible (first|refine zI fun y hy=>?_|refine zL ?_|refine zS ?_|refine zA fun _=>?_|refine zV ?_|refine zC ?_|refine zG ?_|refine zU ?_|refine zG0 ?_|refine zU0 ?_|refine zF ?_)
          | with_reducible (first|refine zX ?_|refine zD fun _=>?_|refine zD0 ?_|refine zN ?_|refine zF0 ?_|refine zX0 ?_|refine z1 ?_|refine z2 ?_|refine z3 ?_|refine z4 ?_|refine z5 ?_|refine z6 ?_|refine z7 ?_|refine z8 ?_|refine y1 ?_|refine y2 ?_|refine y3 ?_|refine y4 ?_|refine y5 ?_|refine y6 ?_|refine y7 ?_|refine y8 ?_|refine Rt.p (fun _=>?_) fun _=>?_)
          | ((with_reducible apply w_ixM);(focus exact rfl);(focus exact rfl);case' hk=>intro y hy)|((with_reducible (first | apply w_val | apply q_ends));(focus exact rfl)))
         all_goals first
          | (exfalso;omega)
          | rfl
       have hfv:=hFv v
       have hb1:=hFb v (by omega)
       have hb2:=hFb (v+1) (by omega)
       have hb3:=hF0 v (by omega)
       have hsuc:nSum (v+1) F=nSum v F+F v:=rfl
       have hat:=hin.at (d.bag.toNat*6+v)
       have ho:0+d.bag.toNat*6+v*1=d.bag.toNat*6+v:=by omega
       have hpl2:d.bag.toNat*6+v<B.length:=by omega
       have hbv:bgAt B d.bag v=B.getD (d.bag.toNat*6+v) 0:=rfl
       rw[hbv] at hfv
       by_cases h0:B.getD (d.bag.toNat*6+v) 0=0
       · have hz0:F v=0:=by
          rw[hfv,h0]
          simp only[Int.zero_mul]
          split
          · split<;>rfl
          · rfl
         repeat' (first
          | with_reducible (first|refine Rd.p ?_|refine w_alt ?_ ?_|refine zE ?_|refine zE0 ?_)
          | (first|(refine w_boxN rfl hl ?_;intro g2)|refine w_ixP (f:=fun d:Dl=>[AV.int .i64 d.kind,.int .i64 d.bag,.int .i64 d.other,.int .i64 d.wood,.int .i64 d.count]) (l:=d::A) (pre:=[]) (y:=d) (post:=A) rfl rfl rfl ?_|refine w_ixP (f:=fun x:Int=>[AV.int .i64 x]) (l:=w::c) (pre:=[]) (y:=w) (post:=c) rfl rfl rfl ?_|refine w_ldN rfl rfl hl ?_|refine w_chkN rfl rfl hl rfl ?_|refine w_slT (f:=fun d:Dl=>[AV.int .i64 d.kind,.int .i64 d.bag,.int .i64 d.other,.int .i64 d.wood,.int .i64 d.count]) rfl ?_|refine w_sl1 rfl ?_|refine w_ldEl rfl ho rfl hpl2 ?_|refine w_chkEl rfl ho rfl hpl2 rfl ?_)
          | with_reducible (first|refine zI fun y hy=>?_|refine zL ?_|refine zS ?_|refine zA fun _=>?_|refine zV ?_|refine zC ?_|refine zG ?_|refine zU ?_|refine zG0 ?_|refine zU0 ?_|refine zF ?_)
          | with_reducible (first|refine zX ?_|refine zD fun _=>?_|refine zD0 ?_|refine zN ?_|refine zF0 ?_|refine zX0 ?_|refine z1 ?_|refine z2 ?_|refine z3 ?_|refine z4 ?_|refine z5 ?_|refine z6 ?_|refine z7 ?_|refine z8 ?_|refine y1 ?_|refine y2 ?_|refine y3 ?_|refine y4 ?_|refine y5 ?_|refine y6 ?_|refine y7 ?_|refine y8 ?_|refine Rt.p (fun _=>?_) fun _=>?_)
          | ((with_reducible apply w_ixM);(focus exact rfl);(focus exact rfl);case' hk=>intro y hy)|((with_reducible (first | apply w_val | apply q_ends));(focus exact rfl)))
         all_goals first
          | (exfalso;omega)
          | exact q_loop (v+1) (by show v+1≤6;omega) (by show 6-(v+1)<6-v;omega) ⟨int_eq (by simp),by show AV.int .i64 _=AV.int .i64 _;exact int_eq (by rw[hsuc,hz0];omega),trivial⟩ aS aK aK
       have hB2:=hB.draw ht.l hn hb (w:=(v:Int)) (by omega) (by omega)
       rw[←hbe] at hB2
       have hr3:=rwithout_c B hin d.bag v hb (by omega)
       by_cases h5:d.kind=5
       · rw[if_pos h5] at hfv
         by_cases hvw:(v:Int)=w
         · rw[if_pos hvw] at hfv
           have ih:=rcount_c n hn A _ _ _ c _ (.inr rfl) ht2 hr.2 hB2 (by omega) (by omega)
           rw[hfv] at hb3 hsuc
           repeat' (first
            | with_reducible (first|refine Rd.p ?_|refine w_alt ?_ ?_|refine zE ?_|refine zE0 ?_)
            | (first|(refine w_boxN rfl hl ?_;intro g2)|refine w_ixP (f:=fun d:Dl=>[AV.int .i64 d.kind,.int .i64 d.bag,.int .i64 d.other,.int .i64 d.wood,.int .i64 d.count]) (l:=d::A) (pre:=[]) (y:=d) (post:=A) rfl rfl rfl ?_|refine w_ixP (f:=fun x:Int=>[AV.int .i64 x]) (l:=w::c) (pre:=[]) (y:=w) (post:=c) rfl rfl rfl ?_|refine w_ldN rfl rfl hl ?_|refine w_chkN rfl rfl hl rfl ?_|refine w_slT (f:=fun d:Dl=>[AV.int .i64 d.kind,.int .i64 d.bag,.int .i64 d.other,.int .i64 d.wood,.int .i64 d.count]) rfl ?_|refine w_sl1 rfl ?_|refine w_ldEl rfl ho rfl hpl2 ?_|refine w_chkEl rfl ho rfl hpl2 rfl ?_)
            | with_reducible (first|refine zI fun y hy=>?_|refine zL ?_|refine zS ?_|refine zA fun _=>?_|refine zV ?_|refine zC ?_|refine zG ?_|refine zU ?_|refine zG0 ?_|refine zU0 ?_|refine zF ?_)
            | ((with_reducible refine acall_id ?_);refine ACall.bg2b hr3 rfl ?_)
            | ((with_reducible refine acall_id ?_);refine ACall.cnt ih rfl rfl ?_)
            | with_reducible (first|refine zX ?_|refine zD fun _=>?_|refine zD0 ?_|refine zN ?_|refine zF0 ?_|refine zX0 ?_|refine z1 ?_|refine z2 ?_|refine z3 ?_|refine z4 ?_|refine z5 ?_|refine z6 ?_|refine z7 ?_|refine z8 ?_|refine y1 ?_|refine y2 ?_|refine y3 ?_|refine y4 ?_|refine y5 ?_|refine y6 ?_|refine y7 ?_|refine y8 ?_|refine Rt.p (fun _=>?_) fun _=>?_)
            | ((with_reducible apply w_ixM);(focus exact rfl);(focus exact rfl);case' hk=>intro y hy)|((with_reducible (first | apply w_val | apply q_ends));(focus exact rfl)))
           all_goals first
            | (exfalso;omega)
            | exact q_loop (v+1) (by show v+1≤6;omega) (by show 6-(v+1)<6-v;omega) ⟨int_eq (by simp),by show AV.int .i64 _=AV.int .i64 _;exact int_eq hsuc.symm,trivial⟩ aS aK aK
         · rw[if_neg hvw] at hfv
           repeat' (first
            | with_reducible (first|refine Rd.p ?_|refine w_alt ?_ ?_|refine zE ?_|refine zE0 ?_)
            | (first|(refine w_boxN rfl hl ?_;intro g2)|refine w_ixP (f:=fun d:Dl=>[AV.int .i64 d.kind,.int .i64 d.bag,.int .i64 d.other,.int .i64 d.wood,.int .i64 d.count]) (l:=d::A) (pre:=[]) (y:=d) (post:=A) rfl rfl rfl ?_|refine w_ixP (f:=fun x:Int=>[AV.int .i64 x]) (l:=w::c) (pre:=[]) (y:=w) (post:=c) rfl rfl rfl ?_|refine w_ldN rfl rfl hl ?_|refine w_chkN rfl rfl hl rfl ?_|refine w_slT (f:=fun d:Dl=>[AV.int .i64 d.kind,.int .i64 d.bag,.int .i64 d.other,.int .i64 d.wood,.int .i64 d.count]) rfl ?_|refine w_sl1 rfl ?_|refine w_ldEl rfl ho rfl hpl2 ?_|refine w_chkEl rfl ho rfl hpl2 rfl ?_)
            | with_reducible (first|refine zI fun y hy=>?_|refine zL ?_|refine zS ?_|refine zA fun _=>?_|refine zV ?_|refine zC ?_|refine zG ?_|refine zU ?_|refine zG0 ?_|refine zU0 ?_|refine zF ?_)
            | with_reducible (first|refine zX ?_|refine zD fun _=>?_|refine zD0 ?_|refine zN ?_|refine zF0 ?_|refine zX0 ?_|refine z1 ?_|refine z2 ?_|refine z3 ?_|refine z4 ?_|refine z5 ?_|refine z6 ?_|refine z7 ?_|refine z8 ?_|refine y1 ?_|refine y2 ?_|refine y3 ?_|refine y4 ?_|refine y5 ?_|refine y6 ?_|refine y7 ?_|refine y8 ?_|refine Rt.p (fun _=>?_) fun _=>?_)
            | ((with_reducible apply w_ixM);(focus exact rfl);(focus exact rfl);case' hk=>intro y hy)|((with_reducible (first | apply w_val | apply q_ends));(focus exact rfl)))
           all_goals first
            | (exfalso;omega)
            | exact q_loop (v+1) (by show v+1≤6;omega) (by show 6-(v+1)<6-v;omega) ⟨int_eq (by simp),by show AV.int .i64 _=AV.int .i64 _;exact int_eq (by rw[hsuc,hfv];omega),trivial⟩ aS aK aK
       · rw[if_neg h5] at hfv
         have ih:=rcount_c n hn A _ _ _ (w::c) _ (.inr rfl) ht2 hr.2 hB2 (by omega) (by omega)
         rw[hfv] at hb3 hsuc
         repeat' (first
          | with_reducible (first|refine Rd.p ?_|refine w_alt ?_ ?_|refine zE ?_|refine zE0 ?_)
          | (first|(refine w_boxN rfl hl ?_;intro g2)|refine w_ixP (f:=fun d:Dl=>[AV.int .i64 d.kind,.int .i64 d.bag,.int .i64 d.other,.int .i64 d.wood,.int .i64 d.count]) (l:=d::A) (pre:=[]) (y:=d) (post:=A) rfl rfl rfl ?_|refine w_ixP (f:=fun x:Int=>[AV.int .i64 x]) (l:=w::c) (pre:=[]) (y:=w) (post:=c) rfl rfl rfl ?_|refine w_ldN rfl rfl hl ?_|refine w_chkN rfl rfl hl rfl ?_|refine w_slT (f:=fun d:Dl=>[AV.int .i64 d.kind,.int .i64 d.bag,.int .i64 d.other,.int .i64 d.wood,.int .i64 d.count]) rfl ?_|refine w_sl1 rfl ?_|refine w_ldEl rfl ho rfl hpl2 ?_|refine w_chkEl rfl ho rfl hpl2 rfl ?_)
          | with_reducible (first|refine zI fun y hy=>?_|refine zL ?_|refine zS ?_|refine zA fun _=>?_|refine zV ?_|refine zC ?_|refine zG ?_|refine zU ?_|refine zG0 ?_|refine zU0 ?_|refine zF ?_)
          | ((with_reducible refine acall_id ?_);refine ACall.bg2b hr3 rfl ?_)
          | ((with_reducible refine acall_id ?_);refine ACall.cnt ih rfl rfl ?_)
          | with_reducible (first|refine zX ?_|refine zD fun _=>?_|refine zD0 ?_|refine zN ?_|refine zF0 ?_|refine zX0 ?_|refine z1 ?_|refine z2 ?_|refine z3 ?_|refine z4 ?_|refine z5 ?_|refine z6 ?_|refine z7 ?_|refine z8 ?_|refine y1 ?_|refine y2 ?_|refine y3 ?_|refine y4 ?_|refine y5 ?_|refine y6 ?_|refine y7 ?_|refine y8 ?_|refine Rt.p (fun _=>?_) fun _=>?_)
          | ((with_reducible apply w_ixM);(focus exact rfl);(focus exact rfl);case' hk=>intro y hy)|((with_reducible (first | apply w_val | apply q_ends));(focus exact rfl)))
         all_goals first
          | (exfalso;omega)
          | exact q_loop (v+1) (by show v+1≤6;omega) (by show 6-(v+1)<6-v;omega) ⟨int_eq (by simp),by show AV.int .i64 _=AV.int .i64 _;exact int_eq hsuc.symm,trivial⟩ aS aK aK
theorem mid_get (q0:List Int) (p:Int) (r:List Int):(q0++p::r).getD q0.length 0=p:=by
 rw[List.getD_eq_getElem?_getD,List.getElem?_append_right (Nat.le_refl _),Nat.sub_self];rfl
def ir29:IFn:=
 ⟨30,[(2,none)],(.seq (.ops [oo 2 (.mov (.k (.int .u64 0)))])
 (.seq (.ops [oo 4 (.mov 0),oo 5 (.mov 0),oo 6 (.nck 5),oo 7 (.flA 0 6),oo 8 (.ld 1 false 7),oo 9 (.bin .add 8 (.k (.int .u64 11507291218515648293))),oo 10 (.nck 4),oo 11 (.flA 0 10),
 ⟨none,none,(.st 1 11 9)⟩])
 (.seq (.ops [oo 12 (.mov 0),oo 13 (.nck 12),oo 14 (.flA 0 13),oo 15 (.ld 1 false 14),oo 3 (.mov 15)])
 (.seq (.ops [oo 16 (.mov 3),oo 17 (.mov 3),oo 18 (.bin .shr 17 (.k (.int .u64 32))),oo 19 (.bin .xor 16 18),oo 20 (.bin .mul 19 (.k (.int .u64 15485907386658061715))),oo 3 (.mov 20)])
 (.seq (.ops [oo 21 (.mov 3),oo 22 (.mov 3),oo 23 (.bin .shr 22 (.k (.int .u64 29))),oo 24 (.bin .xor 21 23),oo 25 (.bin .mul 24 (.k (.int .u64 14029467366897019727))),oo 3 (.mov 25)])
 (.seq (.ops [oo 26 (.mov 3),oo 27 (.mov 3),oo 28 (.bin .shr 27 (.k (.int .u64 32))),oo 29 (.bin .xor 26 28),oo 2 (.mov 29)])
 .ret))))))⟩
def hint29 (P:Program):Hint:={}
def ir7:IFn:=
 ⟨30,[(2,none)],(.seq (.ops [oo 2 (.mov (.k .npt))])
 (.seq (.ops [oo 5 (.bld [(.int .u64 0)] [(0,1,(.k (.int .u64 2685821657736338717)))]),oo 6 (.box 1 5),oo 3 (.mov 6)])
 (.seq (.seq (.ops [oo 4 (.mov (kI 0))])
 (.blk 0 (.loop (.seq (.seq (.ops [oo 7 (.mov 4),oo 8 (.mov 0),oo 9 (.len false 8),oo 10 (.bin .lss 7 9)])
 (.cnd 10
 .skip
 (.exit 0)))
 (.seq (.blk 1 (.seq (.ops [oo 13 (.mov 3),oo 14 (.mov 3),oo 15 (.nck 14),oo 16 (.flA 0 15),oo 17 (.ld 1 false 16),oo 18 (.mov 0),oo 19 (.mov 4),oo 20 (.ixA 1 18 19),oo 21 (.ld 1 false 20),oo 22 (.cvI .u64 21),oo 23 (.bin .xor 17 22),oo 24 (.bin .mul 23 (.k (.int .u64 15485907386658061715))),oo 25 (.nck 13),oo 26 (.flA 0 25),
 ⟨none,none,(.st 1 26 24)⟩])
 (.ops [oo 27 (.mov 3),oo 28 (.callF 29 [27])])))
 (.ops [oo 11 (.mov 4),oo 12 (.bin .add 11 (kI 1)),oo 4 (.mov 12)]))))))
 (.seq (.ops [oo 29 (.mov 3),oo 2 (.mov 29)])
 .ret))))⟩
def hint7 (P:Program):Hint:={}
def ir22:IFn:=
 ⟨14,[(4,none)],(.seq (.ops [oo 4 (.mov (kI 0))])
 (.seq (.seq (.ops [oo 5 (.mov 1),oo 6 (.bin .lss 5 (kI 2))])
 (.cnd 6
 (.seq (.ops [oo 4 (.mov (kI 0))])
 .ret)
 .skip))
 (.seq (.ops [oo 7 (.mov 0),oo 8 (.callF 29 [7]),oo 9 (.bin .shr 8 (.k (.int .u64 1))),oo 10 (.mov 1),oo 11 (.cvI .u64 10),oo 12 (.bin .rem 9 11),oo 13 (.cvI .i64 12),oo 4 (.mov 13)])
 .ret)))⟩
def hint22 (P:Program):Hint:={}
def ir31:IFn:=
 ⟨15,[(6,none)],(.seq (.ops [oo 6 (.mov (kI 0))])
 (.seq (.ops [oo 7 (.mov 1),oo 8 (.mov 0),oo 9 (.mov 2),oo 10 (.mov 1),oo 11 (.bin .sub 9 10),oo 12 (.bin .add 11 (kI 1)),oo 13 (.callF 22 [8,12]),oo 14 (.bin .add 7 13),oo 6 (.mov 14)])
 .ret))⟩
def hint31 (P:Program):Hint:={}
def ir21:IFn:=
 ⟨9,[(4,none)],(.seq (.ops [oo 4 (.mov (kB false))])
 (.seq (.ops [oo 5 (.mov 0),oo 6 (.mov 1),oo 7 (.callF 22 [5,6]),oo 8 (.bin .eql 7 (kI 0)),oo 4 (.mov 8)])
 .ret))⟩
def hint21 (P:Program):Hint:={}
theorem turn_c (g:Nat) (w:Int):RawC Tryz.prog 29 [.ref 1000 g 0] (BoxS g w) (BoxR g fun av=>∃n,av= .int .u64 n∧0≤n∧n<18446744073709551616):=by
 refine RawC.walk (H:=hint29 Tryz.prog) ir29 Tryz.func29 rfl rfl rfl ?_
 unfold ir29
 repeat' (first
  | with_reducible refine Rd.p ?_
  | with_reducible (first|refine zL ?_|refine zS ?_|refine zV ?_|refine zC ?_)
  | refine aX ?_|with_reducible intro _
  | refine aP ?_ ?_)
 exact⟨_,⟨_,rfl,(wrap_u64 _).1,(wrap_u64 _).2⟩,rfl⟩
theorem up_mod {a n:Int} (ha:0≤a) (hn:2≤n) (hw:IntKind.u64.wrap n=n):0≤(a.fdiv (2^min (Int.toNat 1) IntKind.u64.bits)).tmod (IntKind.u64.wrap n)∧(a.fdiv (2^min (Int.toNat 1) IntKind.u64.bits)).tmod (IntKind.u64.wrap n)<n:=by
 rw[hw]
 have h0:0≤a.fdiv (2^min (Int.toNat 1) IntKind.u64.bits):=Int.fdiv_nonneg ha (by decide)
 exact⟨Int.tmod_nonneg _ h0,Int.tmod_lt_of_pos _ (by omega)⟩
theorem up_c (g:Nat) (w n:Int) (hn:n<2^62):RawC Tryz.prog 22 [.ref 1000 g 0,.int .i64 n] (BoxS g w) (BoxR g fun av=>∃k,av= .int .i64 k∧0≤k∧(k<n∨k=0)):=by
 by_cases h2:n<2
 · refine RawC.walk (H:=hint22 Tryz.prog) ir22 Tryz.func22 rfl rfl rfl ?_
   unfold ir22
   repeat' (first
    | with_reducible refine Rd.p ?_
    | with_reducible (first|refine zI fun y hy=>?_|refine zL ?_|refine zS ?_|refine zV ?_|refine zC ?_)
    | refine aX ?_|with_reducible intro _
    | with_reducible refine zJ ?_ fun y hy=>?_|refine aP ?_ ?_)
   exact⟨_,⟨_,rfl,by omega⟩,rfl⟩
 have hw:=wrap_u64_id n (by omega) (by omega)
 refine RawC.walk (H:=hint22 Tryz.prog) ir22 Tryz.func22 rfl rfl rfl ?_
 unfold ir22
 repeat' (first
  | with_reducible refine Rd.p ?_
  | with_reducible (first|refine zI fun y hy=>?_|refine zL ?_|refine zS ?_|refine zV ?_|refine zC ?_)
  | ((with_reducible apply w_ixM);(focus exact rfl);(focus exact rfl);(focus ((repeat' (with_reducible (first|exact trivial | apply And.intro)))<;>(first|(have:=up_mod ha (by omega:2≤n) hw;unfold inI;omega)|exact sd)));case' hk=>intro y hy)|((with_reducible apply w_slM);(focus exact rfl);(focus exact rfl);(focus exact rfl);(focus ((repeat' (with_reducible (first|exact trivial | apply And.intro)))<;>(first|(have:=up_mod ha (by omega:2≤n) hw;unfold inI;omega)|exact sd))))|((with_reducible apply w_val);(focus exact rfl);(focus ((repeat' (with_reducible (first|exact trivial | apply And.intro)))<;>(first|(have:=up_mod ha (by omega:2≤n) hw;unfold inI;omega)|exact sd))))|((with_reducible apply w_det);(focus exact fun _=>rfl);(focus ((repeat' (with_reducible (first|exact trivial | apply And.intro)))<;>(first|(have:=up_mod ha (by omega:2≤n) hw;unfold inI;omega)|exact sd)));case' hk=>intro _)|((with_reducible apply w_det0);(focus exact fun _=>rfl);(focus ((repeat' (with_reducible (first|exact trivial | apply And.intro)))<;>(first|(have:=up_mod ha (by omega:2≤n) hw;unfold inI;omega)|exact sd))))|((with_reducible apply q_ends);(focus exact rfl);(focus ((repeat' (with_reducible (first|exact trivial | apply And.intro)))<;>(first|(have:=up_mod ha (by omega:2≤n) hw;unfold inI;omega)|exact sd))))
  | with_reducible (first|refine zI fun y hy=>?_|refine zL ?_|refine zS ?_|refine zV ?_|refine zC ?_)
  | ((with_reducible refine aC ?_);first|(refine ACall.box (turn_c _ _) rfl rfl rfl ?_;rintro _ _ ⟨_,rfl,ha,_⟩))
  | refine aX ?_|with_reducible intro _
  | with_reducible refine zJ ?_ fun y hy=>?_|refine aP ?_ ?_)
 have:=up_mod ha (by omega:2≤n) hw
 exact⟨_,⟨_,rfl,by omega⟩,rfl⟩
abbrev ltV (n:Int) (av:AV):Prop:=∃k,av= .int .i64 k∧0≤k∧k<n
theorem upp_c (g:Nat) (w n:Int) (h0:0<n) (hn:n<2^62):RawC Tryz.prog 22 [.ref 1000 g 0,.int .i64 n] (BoxS g w) (BoxR g (ltV n)):=
 (up_c g w n hn).mono fun _ _ ⟨w',⟨k,h1,h2,h3⟩,h4⟩=>⟨w',⟨k,h1,h2,by omega⟩,h4⟩
theorem any_c (g:Nat) (w a b:Int) (h0: -1000000<a) (h1:a<1000000) (h2: -1000000<b) (h3:b<1000000):RawC Tryz.prog 31 [.ref 1000 g 0,.int .i64 a,.int .i64 b] (BoxS g w) (BoxR g fun av=>∃k,av= .int .i64 k∧a≤k∧(k≤b∨k=a)):=by
 refine RawC.walk (H:=hint31 Tryz.prog) ir31 Tryz.func31 rfl rfl rfl ?_
 unfold ir31
 repeat' (first
  | with_reducible refine Rd.p ?_
  | with_reducible (first|refine zL ?_|refine zS ?_|refine zV ?_|refine zC ?_)
  | ((with_reducible refine aC ?_);first|(refine ACall.box (up_c _ _ _ (by omega)) rfl rfl rfl ?_;rintro _ _ ⟨_,rfl,_,_⟩))
  | refine aX ?_|with_reducible intro _
  | refine aP ?_ ?_)
 exact⟨_,⟨_,rfl,by omega⟩,rfl⟩
theorem one_c (g:Nat) (w n:Int) (hn:n<2^62):RawC Tryz.prog 21 [.ref 1000 g 0,.int .i64 n] (BoxS g w) (BoxR g fun av=>∃t,av= .bool t):=by
 refine RawC.walk (H:=hint21 Tryz.prog) ir21 Tryz.func21 rfl rfl rfl ?_
 unfold ir21
 repeat' (first
  | with_reducible refine Rd.p ?_
  | with_reducible (first|refine zL ?_|refine zS ?_|refine zV ?_|refine zC ?_)
  | ((with_reducible refine aC ?_);first|(refine ACall.box (up_c _ _ _ (by omega)) rfl rfl rfl ?_;rintro _ _ ⟨_,rfl,_,_⟩))
  | refine aX ?_|with_reducible intro _
  | refine aP ?_ ?_)
 exact⟨_,⟨_,rfl⟩,rfl⟩
theorem boxOf_c (l:List Int) (hl:l.length<2^62):RawC Tryz.prog 7 [.slc 1 (iR l) .non] (sg []) (fun av σ'=>∃g w,av= .ref 6 g 0∧σ' 6=(g,.row [.int .u64 w])):=by
 have hL:(iR l).length=l.length:=by simp
 refine RawC.walk (H:=hint7 Tryz.prog) ir7 Tryz.func7 rfl rfl rfl ?_
 unfold ir7
 repeat' (first
  | with_reducible (first|refine Rd.p ?_|refine w_alt ?_ ?_|refine zE ?_|refine zE0 ?_)
  | with_reducible (first|refine zI fun y hy=>?_|refine zL ?_|refine zS ?_|refine zA fun _=>?_|refine zV ?_|refine zC ?_|refine zG ?_|refine zU ?_|refine zG0 ?_|refine zU0 ?_|refine zF ?_)
  | with_reducible (first|refine zX ?_|refine zD fun _=>?_|refine zD0 ?_|refine zN ?_|refine zF0 ?_|refine zX0 ?_|refine z1 ?_|refine z2 ?_|refine z3 ?_|refine z4 ?_|refine z5 ?_|refine z6 ?_|refine z7 ?_|refine z8 ?_|refine y1 ?_|refine y2 ?_|refine y3 ?_|refine y4 ?_|refine y5 ?_|refine y6 ?_|refine y7 ?_|refine y8 ?_|refine Rt.p (fun _=>?_) fun _=>?_)
  | ((with_reducible apply w_ixM);(focus exact rfl);(focus exact rfl);case' hk=>intro y hy)|((with_reducible (first | apply w_val | apply q_ends));(focus exact rfl)))
 refine w_loopK [0,3] [] (fun x:Nat×Int=>x.1≤l.length) (fun x=>l.length-x.1) (fun x=>[(4,.int .i64 x.1)]) (fun x=>[(6,(_,.row [.int .u64 x.2]))]) (0,_) (Nat.zero_le _) ⟨rfl,trivial⟩ ⟨rfl,trivial⟩ ?_
 rintro⟨k,w⟩ hk e σ
 dsimp only at hk ⊢
 repeat' (first
  | with_reducible (first|refine Rd.p ?_|refine w_alt ?_ ?_|refine zE ?_|refine zE0 ?_)
  | with_reducible (first|refine zI fun y hy=>?_|refine zL ?_|refine zS ?_|refine zA fun _=>?_|refine zV ?_|refine zC ?_|refine zG ?_|refine zU ?_|refine zG0 ?_|refine zU0 ?_|refine zF ?_)
  | ((with_reducible refine acall_id ?_);refine ACall.box (turn_c _ _) rfl rfl rfl ?_;rintro _ _ ⟨_,rfl,_,_⟩)
  | with_reducible (first|refine zX ?_|refine zD fun _=>?_|refine zD0 ?_|refine zN ?_|refine zF0 ?_|refine zX0 ?_|refine z1 ?_|refine z2 ?_|refine z3 ?_|refine z4 ?_|refine z5 ?_|refine z6 ?_|refine z7 ?_|refine z8 ?_|refine y1 ?_|refine y2 ?_|refine y3 ?_|refine y4 ?_|refine y5 ?_|refine y6 ?_|refine y7 ?_|refine y8 ?_|refine Rt.p (fun _=>?_) fun _=>?_)
  | ((with_reducible apply w_ixM);(focus exact rfl);(focus exact rfl);case' hk=>intro y hy)|((with_reducible (first | apply w_val | apply q_ends));(focus exact rfl)))
 · simp at*
   exact q_loop (k+1,_) (by dsimp only;omega) (by dsimp only;omega) ⟨rfl,trivial⟩ ⟨rfl,trivial⟩ ⟨rfl,rfl,trivial⟩ trivial
 · exact⟨_,_,rfl,rfl⟩
def ir66:IFn:=
 ⟨2,[(0,none)],(.seq (.ops [oo 0 (.mov (.k .nsl))])
 (.seq (.ops [oo 1 (.bsl 1 [[(.str ByteArray.empty)],[(.str ByteArray.empty)],[(.str ByteArray.empty)],[(.str ByteArray.empty)],[(.str ByteArray.empty)],[(.str ByteArray.empty)]] [(0,(.k (.str ⟨#[107,121,97,114,97]⟩))),(1,(.k (.str ⟨#[114,97,107,111,107,117]⟩))),(2,(.k (.str ⟨#[109,97,110,97,98,97,110]⟩))),(3,(.k (.str ⟨#[115,111,114,97]⟩))),(4,(.k (.str ⟨#[98]⟩))),(5,(.k (.str ⟨#[97,98,99,100,101,102,103,104]⟩)))]),oo 0 (.mov 1)])
 .ret))⟩
def hint66 (P:Program):Hint:={}
def ir30:IFn:=
 ⟨26,[(4,none)],(.seq (.ops [oo 4 (.mov (.k .nsl))])
 (.seq (.ops [oo 5 (.nil 2 5)])
 (.seq (.seq (.ops [oo 7 (.mov 0),oo 8 (.mov 1),oo 9 (.callF 31 [7,(kI 1),8]),oo 6 (.mov 9)])
 (.blk 0 (.loop (.seq (.seq (.ops [oo 10 (.mov 6),oo 11 (.bin .gtr 10 (kI 0))])
 (.cnd 11
 .skip
 (.exit 0)))
 (.seq (.blk 1 (.ops [oo 14 (.mov 5),oo 16 (.mov 5),oo 17 (.len false 16),oo 20 (.mov 0),oo 15 (.callF 66 []),oo 18 (.ixA 1 15 17),oo 19 (.ld 1 false 18),oo 21 (.callF 22 [20,(kI 10)]),
 ⟨none,none,(.chk 1 false 18 19)⟩,oo 22 (.bld [(.str ByteArray.empty),(.int .i64 0)] [(0,1,19),(1,1,21)]),oo 23 (.bsl 2 [[(.str ByteArray.empty),(.int .i64 0)]] [(0,22)]),oo 24 (.app 2 24 14 23 5),oo 5 (.mov 24)]))
 (.ops [oo 12 (.mov 6),oo 13 (.bin .sub 12 (kI 1)),oo 6 (.mov 13)]))))))
 (.seq (.ops [oo 25 (.mov 5),oo 4 (.mov 25)])
 .ret))))⟩
def hint30 (P:Program):Hint:={site:=[(24,5)],nils:=[(5,2)],frz:=[],mve:=[],wr:=[] }
def ir12:IFn:=
 ⟨12,[(2,some (2,true))],(.seq (.ops [oo 1 (.box 2 0),oo 2 (.new [.nsl,.nsl])])
 (.seq (.ops [oo 3 (.bsl 2 [] []),oo 4 (.flA 0 1),oo 5 (.ld 1 false 4),oo 7 (.bsl 5 [] []),oo 8 (.flA 1 1),oo 9 (.ld 1 false 8),oo 6 (.app 2 24 3 5 6),
 ⟨none,none,(.chk 1 false 8 9)⟩,oo 10 (.app 5 40 7 9 10),oo 11 (.bld [.nsl,.nsl] [(0,1,6),(1,1,10)]),
 ⟨none,none,(.st 2 2 11)⟩])
 .ret))⟩
def hint12 (P:Program):Hint:={}
def ir20:IFn:=
 ⟨59,[(4,none)],(.seq (.ops [oo 2 (.box 2 0),oo 3 (.box 2 1),oo 4 (.mov (kB false))])
 (.seq (.seq (.ops [oo 7 (.flA 0 2),oo 8 (.ld 1 false 7),oo 9 (.len false 8),oo 10 (.flA 0 3),oo 11 (.ld 1 false 10),oo 12 (.len false 11),oo 13 (.bin .neq 9 12),oo 14 (.mov 13),
 ⟨(some 15),(some (14,false)),(.flA 1 2)⟩,
 ⟨(some 16),(some (14,false)),(.ld 1 false 15)⟩,
 ⟨(some 17),(some (14,false)),(.len false 16)⟩,
 ⟨(some 18),(some (14,false)),(.flA 1 3)⟩,
 ⟨(some 19),(some (14,false)),(.ld 1 false 18)⟩,
 ⟨(some 20),(some (14,false)),(.len false 19)⟩,
 ⟨(some 21),(some (14,false)),(.bin .neq 17 20)⟩,oo 22 (.pick 14 (kB true) 21)])
 (.cnd 22
 (.seq (.ops [oo 4 (.mov (kB false))])
 .ret)
 .skip))
 (.seq (.seq (.ops [oo 5 (.mov (kI 0))])
 (.blk 0 (.loop (.seq (.seq (.ops [oo 23 (.mov 5),oo 24 (.flA 0 2),oo 25 (.ld 1 false 24),oo 26 (.len false 25),oo 27 (.bin .lss 23 26)])
 (.cnd 27
 .skip
 (.exit 0)))
 (.seq (.blk 1 (.seq (.ops [oo 30 (.flA 0 2),oo 31 (.ld 1 false 30),oo 32 (.mov 5),oo 33 (.ixA 2 31 32),oo 34 (.ld 2 true 33),oo 35 (.flA 0 3),oo 36 (.ld 1 false 35),oo 37 (.mov 5),oo 38 (.ixA 2 36 37),oo 39 (.ld 2 true 38),oo 40 (.eqn (.flat [.s,.i]) true 34 39)])
 (.cnd 40
 (.seq (.ops [oo 4 (.mov (kB false))])
 .ret)
 .skip)))
 (.ops [oo 28 (.mov 5),oo 29 (.bin .add 28 (kI 1)),oo 5 (.mov 29)]))))))
 (.seq (.seq (.ops [oo 6 (.mov (kI 0))])
 (.blk 2 (.loop (.seq (.seq (.ops [oo 41 (.mov 6),oo 42 (.flA 1 2),oo 43 (.ld 1 false 42),oo 44 (.len false 43),oo 45 (.bin .lss 41 44)])
 (.cnd 45
 .skip
 (.exit 2)))
 (.seq (.blk 3 (.seq (.ops [oo 48 (.flA 1 2),oo 49 (.ld 1 false 48),oo 50 (.mov 6),oo 51 (.ixA 5 49 50),oo 52 (.ld 5 true 51),oo 53 (.flA 1 3),oo 54 (.ld 1 false 53),oo 55 (.mov 6),oo 56 (.ixA 5 54 55),oo 57 (.ld 5 true 56),oo 58 (.eqn (.flat [.i,.i,.i,.i,.i]) true 52 57)])
 (.cnd 58
 (.seq (.ops [oo 4 (.mov (kB false))])
 .ret)
 .skip)))
 (.ops [oo 46 (.mov 6),oo 47 (.bin .add 46 (kI 1)),oo 6 (.mov 47)]))))))
 (.seq (.ops [oo 4 (.mov (kB true))])
 .ret)))))⟩
def hint20 (P:Program):Hint:={}
abbrev nmR (l:List ByteArray):List (List AV):=l.map fun s=>[.str s]
def woodNs:List ByteArray:=[⟨#[107,121,97,114,97]⟩,⟨#[114,97,107,111,107,117]⟩,⟨#[109,97,110,97,98,97,110]⟩,⟨#[115,111,114,97]⟩,⟨#[98]⟩,⟨#[97,98,99,100,101,102,103,104]⟩]
theorem woodNames_c:Fn0 Tryz.prog 66 [] (fun v=>v= .slc 1 (nmR woodNs) .non):=by
 refine RawC.walk (H:=hint66 Tryz.prog) ir66 Tryz.func66 rfl rfl rfl ?_
 unfold ir66
 repeat' (first
  | with_reducible refine Rd.p ?_
  | with_reducible (first|refine zL ?_|refine zS ?_|refine zV ?_|refine zC ?_)
  | refine aX ?_|with_reducible intro _
  | refine aP ?_ ?_)
 rfl
theorem woodNs_ok:woodNs.Nodup∧ ∀s∈woodNs,namedB s=true∧s.size≤8:=by decide
theorem wsErr_zero:∀{post pre:List Wd},(∀w∈post,namedB w.name=true∧inB w.fam 0 9=true)→((pre++post).map (·.name)).Nodup→wsErr pre post=0
 | [],_,_,_=>rfl
 | w::post,pre,h,hn=>by
   have h1:pre.any (fun x=>decide (x.name=w.name))=false:=by
    rw[List.any_eq_false]
    intro x hx
    simp only[decide_eq_true_eq]
    intro he
    rw[List.map_append,List.nodup_append] at hn
    exact hn.2.2 _ (List.mem_map.2 ⟨x,hx,rfl⟩) _ (List.mem_map.2 ⟨w,by simp,rfl⟩) he
   obtain⟨h2,h3⟩:=h w (by simp)
   rw[wsErr,if_pos h2,if_neg (by rw[h1];simp),if_pos h3]
   exact wsErr_zero (fun x hx=>h x (by simp[hx])) (by simpa using hn)
def madeW (ws:List Wd):Prop:=ws.map (·.name)=woodNs.take ws.length∧ ∀w∈ws,inB w.fam 0 9=true
theorem madeW_ok {ws:List Wd} (h:madeW ws):wsErr [] ws=0∧ ∀w∈ws,w.name.size≤8:=by
 have hm:∀w∈ws,w.name∈woodNs:=fun w hw=>List.mem_of_mem_take (h.1▸List.mem_map.2 ⟨w,hw,rfl⟩)
 refine⟨wsErr_zero (fun w hw=>⟨(woodNs_ok.2 _ (hm w hw)).1,h.2 w hw⟩) ?_,fun w hw=>(woodNs_ok.2 _ (hm w hw)).2⟩
 rw[List.nil_append,h.1]
 exact (List.take_sublist _ _).nodup woodNs_ok.1
theorem madeW_snoc {ws:List Wd} {w:Wd} (h:madeW ws) (hn:woodNs[ws.length]?=some w.name) (hf:inB w.fam 0 9=true):madeW (ws++[w]):=by
 refine⟨?_,fun x hx=>?_⟩
 · rw[List.map_append,h.1,len_snoc,List.take_add_one,hn];rfl
 · rcases List.mem_append.1 hx with hx | hx
   · exact h.2 x hx
   · simp at hx;subst hx;exact hf
theorem woodsOf_c (g:Nat) (w most:Int) (hm:1≤most∧most≤6):RawC Tryz.prog 30 [.ref 1000 g 0,.int .i64 most] (BoxS g w) (BoxR g fun av=>∃ws,av= .slc 2 (wR ws) .non∧madeW ws∧1≤ws.length∧(ws.length:Int)≤most):=by
 refine RawC.walk (H:=hint30 Tryz.prog) ir30 Tryz.func30 rfl rfl rfl ?_
 unfold ir30
 repeat' (first
  | with_reducible refine Rd.p ?_
  | with_reducible (first|refine zI fun y hy=>?_|refine zL ?_|refine zS ?_|refine zV ?_|refine zC ?_)
  | ((with_reducible refine aC ?_);first|(refine ACall.box (any_c _ _ _ _ (by omega) (by omega) (by omega) (by omega)) rfl rfl rfl ?_;rintro _ _ ⟨k,rfl,hk1,hk2⟩))
  | refine aX ?_|with_reducible intro _
  | with_reducible refine zJ ?_ fun y hy=>?_|refine aP ?_ ?_)
 rename_i g0 w0
 refine w_loopK [0] [] (fun x:List Wd×Nat×Int×Nat=>madeW x.1∧(x.1.length:Int)+x.2.2.2=k) (fun x=>x.2.2.2) (fun x=>[(6,.int .i64 (x.2.2.2:Int)),(5,.slc 2 (wR x.1) (.own 5 x.2.1))])
  (fun x=>[(5,(x.2.1,.row [])),(1000,(g,.row [.int .u64 x.2.2.1]))]) ([],g0,w0,k.toNat) ⟨⟨rfl,by simp⟩,by show ((0:Nat):Int)+(k.toNat:Nat)=k;omega⟩ ⟨int_eq (by show k=((k.toNat:Nat):Int);omega),rfl,trivial⟩ ⟨rfl,rfl,trivial⟩ ?_
 rintro⟨ws,g5,w,j⟩ ⟨hg,hl⟩ e σ
 dsimp only at hg hl ⊢
 have hnl:woodNs.length=6:=rfl
 cases j with
 | zero=>
   repeat' (first
    | with_reducible refine Rd.p ?_
    | with_reducible (first|refine zI fun y hy=>?_|refine zL ?_|refine zS ?_|refine zV ?_|refine zC ?_)
    | refine aX ?_|with_reducible intro _
    | with_reducible refine zJ ?_ fun y hy=>?_|refine aP ?_ ?_)
   all_goals first
    | (exfalso;omega)
    | exact⟨_,⟨ws,rfl,hg,by omega,by omega⟩,rfl⟩
 | succ j=>
   repeat' (first
    | with_reducible refine Rd.p ?_
    | with_reducible (first|refine zI fun y hy=>?_|refine zL ?_|refine zS ?_|refine zV ?_|refine zC ?_)
    | ((with_reducible refine aC ?_);first|(refine ACall.val woodNames_c rfl rfl ?_)|(refine ACall.box (upp_c _ _ _ (by omega) (by omega)) rfl rfl rfl ?_;rintro _ _ ⟨a,rfl,ha1,ha2⟩))
    | refine aX ?_|with_reducible intro _
    | with_reducible refine zJ ?_ fun y hy=>?_|refine aP ?_ ?_)
   all_goals try (exfalso;omega)
   rename_i w2 g6
   refine q_loop (ws++[⟨y,a⟩],g6,w2,j) ?_ ?_ ⟨int_eq (by simp),congrArg (fun z=>AV.slc 2 z (.own 5 g6)) (map_snoc (f:=fun w:Wd=>[AV.str w.name,AV.int .i64 w.fam]) (x:=⟨y,a⟩)).symm,trivial⟩ ⟨rfl,rfl,trivial⟩ aK aK
   · exact⟨madeW_snoc hg (by simpa using hy) (inB_t.2 (by dsimp only;omega)),by dsimp only;rw[len_snoc];omega⟩
   · exact Nat.lt_succ_self j
theorem ownGame_c (G:Gm) (hw:G.ws.length≤1000000) (hd:G.ds.length≤1000000):Fn0 Tryz.prog 12 [gmA G] (fun v=>v=gmA G):=by
 have h1:(wR G.ws).length=G.ws.length:=by simp
 have h2:(dlR G.ds).length=G.ds.length:=by simp
 refine RawC.walk (H:=hint12 Tryz.prog) ir12 Tryz.func12 rfl rfl rfl ?_
 unfold ir12
 repeat' (first
  | with_reducible refine Rd.p ?_
  | with_reducible (first|refine zL ?_|refine zS ?_|refine zV ?_|refine zC ?_)
  | refine aX ?_|with_reducible intro _
  | refine aP ?_ ?_)
 all_goals first
  | rfl
theorem eqGames_c (A B:Gm) (hw:A.ws.length<2^60) (hd:A.ds.length<2^60):Fn0 Tryz.prog 20 [gmA A,gmA B] (fun v=>v= .bool (decide (A.ws=B.ws∧A.ds=B.ds))):=by
 by_cases hlen:A.ws.length=B.ws.length∧A.ds.length=B.ds.length
 case neg=>
  refine RawC.walk (H:=hint20 Tryz.prog) ir20 Tryz.func20 rfl (by kernel_rfl) rfl ?_
  unfold ir20
  repeat' (first
   | with_reducible refine Rd.p ?_
   | with_reducible (first|refine zI fun y hy=>?_|refine zL ?_|refine zS ?_|refine zV ?_|refine zC ?_)
   | refine aX ?_|with_reducible intro _
   | with_reducible refine zJ ?_ fun y hy=>?_|refine aP ?_ ?_)
  all_goals first
   | (exfalso;omega)
   | (refine congrArg AV.bool ?_;symm;rw[decide_eq_false_iff_not];exact fun h=>hlen ⟨by rw[h.1],by rw[h.2]⟩)
 obtain⟨hl1,hl2⟩:=hlen
 refine RawC.walk (H:=hint20 Tryz.prog) ir20 Tryz.func20 rfl (by kernel_rfl) rfl ?_
 unfold ir20
 repeat' (first
  | with_reducible refine Rd.p ?_
  | with_reducible (first|refine zI fun y hy=>?_|refine zL ?_|refine zS ?_|refine zV ?_|refine zC ?_)
  | refine aX ?_|with_reducible intro _
  | with_reducible refine zJ ?_ fun y hy=>?_|refine aP ?_ ?_)
 all_goals try (exfalso;omega)
 refine w_loopK [2,3] [2,3] (fun x:List Wd×List Wd×List Wd=>A.ws=x.1++x.2.1∧B.ws=x.1++x.2.2) (fun x=>x.2.1.length) (fun x=>[(5,.int .i64 x.1.length)]) (fun _=>[]) ([],A.ws,B.ws) ⟨rfl,rfl⟩ ⟨rfl,trivial⟩ trivial ?_
 rintro⟨pre,pa,pb⟩ ⟨ha,hb⟩ e σ
 dsimp only at ha hb ⊢
 have hla:=congrArg List.length ha
 have hlb:=congrArg List.length hb
 rw[List.length_append] at hla hlb
 cases pa with
 | cons x pa=>
   cases pb with
   | nil=>exfalso;simp only[List.length_nil,List.length_cons] at hla hlb;omega
   | cons y pb=>
     simp only[List.length_cons] at hla hlb
     have hxy:(decide (x.name=y.name) && (decide (x.fam=y.fam) && true))=decide (x=y):=by
      obtain⟨n1,r1⟩:=x
      obtain⟨n2,r2⟩:=y
      rw[Bool.eq_iff_iff];simp
     repeat' (first
      | with_reducible refine Rd.p ?_
      | (first|refine w_ixP (f:=fun w:Wd=>[AV.str w.name,.int .i64 w.fam]) ha rfl rfl ?_|refine w_ixP (f:=fun w:Wd=>[AV.str w.name,.int .i64 w.fam]) hb rfl rfl ?_)
      | with_reducible (first|refine zI fun y hy=>?_|refine zL ?_|refine zS ?_|refine zV ?_|refine zC ?_)
      | refine aX ?_|with_reducible intro _
      | with_reducible refine zJ ?_ fun y hy=>?_|refine aP ?_ ?_)
     all_goals try (exfalso;omega)
     all_goals (rename_i h;rw[hxy] at h)
     · refine congrArg AV.bool ?_;symm
       rw[decide_eq_false_iff_not];intro e
       rw[ha,hb] at e
       have:=List.append_cancel_left e.1
       simp at this h
       exact h this.1
     · simp at h
       subst h
       exact q_loop (pre++[x],pa,pb) ⟨by rw[ha];simp,by rw[hb];simp⟩ (Nat.lt_succ_self _) ⟨by rw[len_snoc];rfl,trivial⟩ aS aK aK
 | nil=>
 cases pb with
 | cons y pb=>exfalso;simp only[List.length_nil,List.length_cons] at hla hlb;omega
 | nil=>
 rw[List.append_nil] at ha hb
 have hws:A.ws=B.ws:=by rw[ha,hb]
 simp only[List.length_nil] at hla
 repeat' (first
  | with_reducible refine Rd.p ?_
  | with_reducible (first|refine zI fun y hy=>?_|refine zL ?_|refine zS ?_|refine zV ?_|refine zC ?_)
  | refine aX ?_|with_reducible intro _
  | with_reducible refine zJ ?_ fun y hy=>?_|refine aP ?_ ?_)
 all_goals try (exfalso;omega)
 refine w_loopK [2,3] [2,3] (fun x:List Dl×List Dl×List Dl=>A.ds=x.1++x.2.1∧B.ds=x.1++x.2.2) (fun x=>x.2.1.length) (fun x=>[(6,.int .i64 x.1.length)]) (fun _=>[]) ([],A.ds,B.ds) ⟨rfl,rfl⟩ ⟨rfl,trivial⟩ trivial ?_
 rintro⟨pre,pa,pb⟩ ⟨ha,hb⟩ e σ
 dsimp only at ha hb ⊢
 have hla:=congrArg List.length ha
 have hlb:=congrArg List.length hb
 rw[List.length_append] at hla hlb
 cases pa with
 | cons x pa=>
   cases pb with
   | nil=>exfalso;simp only[List.length_nil,List.length_cons] at hla hlb;omega
   | cons y pb=>
     simp only[List.length_cons] at hla hlb
     have hxy:(decide (x.kind=y.kind) && (decide (x.bag=y.bag) && (decide (x.other=y.other) && (decide (x.wood=y.wood) && (decide (x.count=y.count) && true)))))=decide (x=y):=by
      obtain⟨n1,r1,a1,b1,c1⟩:=x
      obtain⟨n2,r2,a2,b2,c2⟩:=y
      rw[Bool.eq_iff_iff];simp
     repeat' (first
      | with_reducible refine Rd.p ?_
      | (first|refine w_ixP (f:=fun d:Dl=>[AV.int .i64 d.kind,.int .i64 d.bag,.int .i64 d.other,.int .i64 d.wood,.int .i64 d.count]) ha rfl rfl ?_|refine w_ixP (f:=fun d:Dl=>[AV.int .i64 d.kind,.int .i64 d.bag,.int .i64 d.other,.int .i64 d.wood,.int .i64 d.count]) hb rfl rfl ?_)
      | with_reducible (first|refine zI fun y hy=>?_|refine zL ?_|refine zS ?_|refine zV ?_|refine zC ?_)
      | refine aX ?_|with_reducible intro _
      | with_reducible refine zJ ?_ fun y hy=>?_|refine aP ?_ ?_)
     all_goals try (exfalso;omega)
     all_goals (rename_i h;rw[hxy] at h)
     · refine congrArg AV.bool ?_;symm
       rw[decide_eq_false_iff_not];intro e
       rw[ha,hb] at e
       have:=List.append_cancel_left e.2
       simp at this h
       exact h this.1
     · simp at h
       subst h
       exact q_loop (pre++[x],pa,pb) ⟨by rw[ha];simp,by rw[hb];simp⟩ (Nat.lt_succ_self _) ⟨by rw[len_snoc];rfl,trivial⟩ aS aK aK
 | nil=>
 cases pb with
 | cons y pb=>exfalso;simp only[List.length_nil,List.length_cons] at hla hlb;omega
 | nil=>
 rw[List.append_nil] at ha hb
 have hds:A.ds=B.ds:=by rw[ha,hb]
 simp only[List.length_nil] at hla
 repeat' (first
  | with_reducible refine Rd.p ?_
  | with_reducible (first|refine zI fun y hy=>?_|refine zL ?_|refine zS ?_|refine zV ?_|refine zC ?_)
  | refine aX ?_|with_reducible intro _
  | with_reducible refine zJ ?_ fun y hy=>?_|refine aP ?_ ?_)
 all_goals first
  | (exfalso;omega)
  | exact congrArg AV.bool (decide_eq_true ⟨hws,hds⟩).symm
def ir32:IFn:=
 ⟨15,[(6,none)],(.seq (.ops [oo 6 (.mov (kB false))])
 (.seq (.ops [oo 7 (.mov 0),oo 8 (.mov 1),oo 9 (.bin .geq 7 8),oo 10 (.mov 9),
 ⟨(some 11),(some (10,true)),(.mov 0)⟩,
 ⟨(some 12),(some (10,true)),(.mov 2)⟩,
 ⟨(some 13),(some (10,true)),(.bin .leq 11 12)⟩,oo 14 (.pick 10 13 (kB false)),oo 6 (.mov 14)])
 .ret))⟩
def hint32 (P:Program):Hint:={}
def ir96:IFn:=
 ⟨28,[(2,none)],(.seq (.ops [oo 2 (.mov (kB false))])
 (.seq (.seq (.ops [oo 3 (.mov (kI 0))])
 (.blk 0 (.loop (.seq (.seq (.ops [oo 4 (.mov 3),oo 5 (.mov 0),oo 6 (.len true 5),oo 7 (.bin .lss 4 6)])
 (.cnd 7
 .skip
 (.exit 0)))
 (.seq (.blk 1 (.seq (.ops [oo 10 (.mov 0),oo 11 (.mov 3),oo 12 (.ixS 10 11),oo 13 (.bin .lss 12 (.k (.int .u8 97))),oo 14 (.mov 13),
 ⟨(some 15),(some (14,false)),(.mov 0)⟩,
 ⟨(some 16),(some (14,false)),(.mov 3)⟩,
 ⟨(some 17),(some (14,false)),(.ixS 15 16)⟩,
 ⟨(some 18),(some (14,false)),(.bin .gtr 17 (.k (.int .u8 122)))⟩,oo 19 (.pick 14 (kB true) 18)])
 (.cnd 19
 (.seq (.ops [oo 2 (.mov (kB false))])
 .ret)
 .skip)))
 (.ops [oo 8 (.mov 3),oo 9 (.bin .add 8 (kI 1)),oo 3 (.mov 9)]))))))
 (.seq (.ops [oo 20 (.mov 0),oo 21 (.len true 20),oo 22 (.bin .geq 21 (kI 1)),oo 23 (.mov 22),
 ⟨(some 24),(some (23,true)),(.mov 0)⟩,
 ⟨(some 25),(some (23,true)),(.len true 24)⟩,
 ⟨(some 26),(some (23,true)),(.bin .leq 25 (kI 8))⟩,oo 27 (.pick 23 26 (kB false)),oo 2 (.mov 27)])
 .ret)))⟩
def hint96 (P:Program):Hint:={}
def ir62:IFn:=
 ⟨47,[(2,none)],(.seq (.ops [oo 2 (.mov (kI 0))])
 (.seq (.seq (.ops [oo 5 (.mov 0),oo 6 (.len false 5),oo 7 (.bin .eql 6 (kI 0))])
 (.cnd 7
 (.seq (.ops [oo 2 (.mov (kI 6))])
 .ret)
 .skip))
 (.seq (.seq (.ops [oo 8 (.mov 0),oo 9 (.len false 8),oo 10 (.bin .gtr 9 (kI 6))])
 (.cnd 10
 (.seq (.ops [oo 2 (.mov (kI 8))])
 .ret)
 .skip))
 (.seq (.seq (.ops [oo 3 (.mov (kI 0))])
 (.blk 0 (.loop (.seq (.seq (.ops [oo 11 (.mov 3),oo 12 (.mov 0),oo 13 (.len false 12),oo 14 (.bin .lss 11 13)])
 (.cnd 14
 .skip
 (.exit 0)))
 (.seq (.blk 1 (.seq (.seq (.ops [oo 17 (.mov 0),oo 18 (.mov 3),oo 19 (.ixA 2 17 18),oo 20 (.flA 0 19),oo 21 (.ld 1 false 20),oo 22 (.callF 96 [21]),oo 23 (.not 22)])
 (.cnd 23
 (.seq (.ops [oo 2 (.mov (kI 3))])
 .ret)
 .skip))
 (.seq (.seq (.ops [oo 4 (.mov (kI 0))])
 (.blk 2 (.loop (.seq (.seq (.ops [oo 24 (.mov 4),oo 25 (.mov 3),oo 26 (.bin .lss 24 25)])
 (.cnd 26
 .skip
 (.exit 2)))
 (.seq (.blk 3 (.seq (.ops [oo 29 (.mov 0),oo 30 (.mov 4),oo 31 (.ixA 2 29 30),oo 32 (.flA 0 31),oo 33 (.ld 1 false 32),oo 34 (.mov 0),oo 35 (.mov 3),oo 36 (.ixA 2 34 35),oo 37 (.flA 0 36),oo 38 (.ld 1 false 37),oo 39 (.bin .eql 33 38)])
 (.cnd 39
 (.seq (.ops [oo 2 (.mov (kI 9))])
 .ret)
 .skip)))
 (.ops [oo 27 (.mov 4),oo 28 (.bin .add 27 (kI 1)),oo 4 (.mov 28)]))))))
 (.seq (.ops [oo 40 (.mov 0),oo 41 (.mov 3),oo 42 (.ixA 2 40 41),oo 43 (.flA 1 42),oo 44 (.ld 1 false 43),oo 45 (.callF 32 [44,(kI 0),(kI 9)]),oo 46 (.not 45)])
 (.cnd 46
 (.seq (.ops [oo 2 (.mov (kI 2))])
 .ret)
 .skip)))))
 (.ops [oo 15 (.mov 3),oo 16 (.bin .add 15 (kI 1)),oo 3 (.mov 16)]))))))
 (.seq (.ops [oo 2 (.mov (kI 0))])
 .ret)))))⟩
def hint62 (P:Program):Hint:={}
end Go.Abs
