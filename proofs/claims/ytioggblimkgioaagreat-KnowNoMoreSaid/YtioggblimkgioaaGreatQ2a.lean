/- A part of the proofs: contracts of functions. -/
import Derived.Test.YtioggblimkgioaaGreatProg
import Derived.Test.YtioggblimkgioaaGreatSnd3
import Derived.Test.YtioggblimkgioaaGreatA0
import Derived.Test.YtioggblimkgioaaGreatQ1a
import Derived.Test.YtioggblimkgioaaGreatQ1b
import Derived.Test.YtioggblimkgioaaGreatQ1c
import Derived.Test.YtioggblimkgioaaGreatQ1d
import Derived.Test.YtioggblimkgioaaGreatQ1e
import Derived.Test.YtioggblimkgioaaGreatQ1f
import Derived.Test.YtioggblimkgioaaGreatQ1g
set_option linter.unusedVariables false
set_option linter.unusedSimpArgs false
set_option maxRecDepth 20000
set_option maxHeartbeats 4000000
namespace Go.Abs
open Go.Proofs
theorem wt_nn{M:Md}{k:Nat}(hM:MdOK M k){c:List Int}{n:Int}(hc:c.length=k)(hcw:∀x∈c,0≤x∧x<(M.g.ws.length:Int))(h0:0≤n∧n≤479001600):0≤wtF M c n∧wtF M c n≤47900160000000000:=by
 unfold wtF;split
 · obtain⟨k1,k2⟩:=fold_bd (f:=tkF M.no c) (l:=M.sm) (fun s hs=>tk_bd hM hc hcw (hM.sm s hs)) h0.1 h0.2;have hp:=pow10_le hM.sl;have:=Int.mul_le_mul_of_nonneg_left hp (show (0:Int)≤479001600 by decide);exact⟨k1,by omega⟩
 · exact⟨Int.le_refl _,by decide⟩
end Go.Abs
set_option linter.unusedVariables false
set_option linter.unusedSimpArgs false
set_option maxRecDepth 20000
set_option maxHeartbeats 4000000
namespace Go.Abs
open Go.Proofs
theorem guest_ok{M:Md}{c:List Int}{drawn cens:Int}(h:GuestOK M c 3 drawn cens):MdOK M c.length:=
 ⟨Nat.le_trans h.m.n2 (by decide),h.m.no,h.m.sl,smsErr_ok h.m.sm,Nat.le_trans h.m.fl (by decide),fasErr_ok h.m.fa⟩
end Go.Abs
set_option linter.unusedVariables false
set_option linter.unusedSimpArgs false
set_option maxRecDepth 20000
set_option maxHeartbeats 2000000
namespace Go.Abs
open Go.Proofs
def ir49:IFn:= ⟨85,[(4,none)],(sO [oo 2 (.box 5 0),oM 4 (kB false)] (.seq (sO [oM 5 (kI 0)] (.blk 0 (.loop (.seq (sO [oM 10 5,oF 11 3 2,oL 12 11,oN 13 12,oB 14 .lss 10 13] (.cnd 14 .skip (.exit 0))) (.seq (.blk 1 (sO [oF 17 3 2,oL 18 17,oM 19 5,oA 20 3 18 19,oo 21 (.ld 3 true 20),oo 6 (.new [z0,z0,z0]),oS 3 6 21] (sO [oF 22 2 2,oL 23 22,oF 24 0 6,oL 25 24,oA 26 1 23 25,oF 27 0 26,oL 28 27,oM 29 1,oF 30 1 6,oL 31 30,oA 32 1 29 31,oL 33 32,oA 34 1 28 33,oL 35 34,oF 36 2 6,oL 37 36,oA 38 1 35 37,oL 39 38,oB 40 .eql 39 (kI 0)] (.cnd 40 (sO [oM 4 (kB false)] .ret) .skip)))) (.ops [oM 15 5,oB 16 .add 15 (kI 1),oM 5 16])))))) (.seq (sO [oM 7 (kI 0)] (.blk 2 (.loop (.seq (sO [oM 41 7,oF 42 4 2,oL 43 42,oN 44 43,oB 45 .lss 41 44] (.cnd 45 .skip (.exit 2))) (.seq (.blk 3 (sO [oF 48 4 2,oL 49 48,oM 50 7,oA 51 3 49 50,oo 52 (.ld 3 true 51),oo 8 (.new [z0,z0,z0]),oS 3 8 52] (sO [oM 53 1,oF 54 1 8,oL 55 54,oA 56 1 53 55,oL 57 56,oF 58 2 8,oL 59 58,oB 60 .eql 57 59,oM 9 60] (.seq (sO [oF 61 0 8,oL 62 61,oB 63 .geq 62 (kI 3)] (.cnd 63 (.ops [oM 64 1,oF 65 1 8,oL 66 65,oA 67 1 64 66,oL 68 67,oM 69 1,oF 70 2 8,oL 71 70,oA 72 1 69 71,oL 73 72,oB 74 .eql 68 73,oM 9 74]) .skip)) (sO [oM 75 9,oF 76 0 8,oL 77 76,oB 78 .eql 77 (kI 1),oM 79 78,⟨(some 80),(some (79,false)),(.flA 0 8)⟩,⟨(some 81),(some (79,false)),(.ld 1 false 80)⟩,⟨(some 82),(some (79,false)),(.bin .eql 81 (kI 3))⟩,oo 83 (.pick 79 (kB true) 82),oo 84 (.eqn .bool true 75 83)] (.cnd 84 (sO [oM 4 (kB false)] .ret) .skip)))))) (.ops [oM 46 7,oB 47 .add 46 (kI 1),oM 7 47])))))) (sO [oM 4 (kB true)] .ret))))⟩
theorem sm_rd{M:Md}{C:Nat}{c:List Int}{s:Sm}(hM:MdOK M C)(hc:c.length=C)(hcw:∀x∈c,0≤x∧x<(M.g.ws.length:Int))(hso:SmOK M.no.length C M.g.ws.length s):
  ∃(p1 q1:List (List (List Int))) (N:List (List Int)) (p2 q2:List Int) (w:Int) (p3 q3:List (List Int)) (row p4 q4:List Int),M.no=p1++N::q1∧s.nose=(p1.length:Nat)∧c=p2++w::q2∧s.cen=(p2.length:Nat)∧N=p3++row::q3∧w=(p3.length:Nat)∧row=p4++tkF M.no c s::q4∧s.wood=(p4.length:Nat):=by
 obtain⟨s1,s2⟩:=hso.n;obtain⟨s3,s4⟩:=hso.c;obtain⟨s5,s6⟩:=hso.w;obtain⟨nA,nB⟩:=at_split (l:=M.no) (i:=s.nose.toNat) (d:=[]) (by omega);have hno:=hM.no _ (getD_mem (l:=M.no) (i:=s.nose.toNat) (d:=[]) (by omega));obtain⟨N,hN⟩:∃N,M.no.getD s.nose.toNat []=N:=⟨_,rfl⟩;obtain⟨cA,cB⟩:=at_split (l:=c) (i:=s.cen.toNat) (d:=0) (by omega);have hw:=hcw _ (getD_mem (l:=c) (i:=s.cen.toNat) (d:=0) (by omega));obtain⟨w,hwe⟩:∃w,c.getD s.cen.toNat 0=w:=⟨_,rfl⟩;have htk:tkF M.no c s=((M.no.getD s.nose.toNat []).getD (c.getD s.cen.toNat 0).toNat []).getD s.wood.toNat 0:=rfl;rw[hN] at nA hno htk;rw[hwe] at cA hw htk;have hNl:=hno.l;obtain⟨rA,rB⟩:=at_split (l:=N) (i:=w.toNat) (d:=[]) (by omega);have hrow:=hno.r _ (getD_mem (l:=N) (i:=w.toNat) (d:=[]) (by omega));obtain⟨row,hrw⟩:∃row,N.getD w.toNat []=row:=⟨_,rfl⟩;rw[hrw] at rA hrow htk;have hrl:=hrow.1;obtain⟨kA,kB⟩:=at_split (l:=row) (i:=s.wood.toNat) (d:=0) (by omega);rw[←htk] at kA;exact⟨_,_,N,_,_,w,_,_,row,_,_,nA,by rw[nB];omega,cA,by rw[cB];omega,rA,by rw[rB];omega,kA,by rw[kB];omega⟩
def fitB(M:Md)(c:List Int):Bool:=M.sm.all (fun s=>!decide (tkF M.no c s=0)) && M.fa.all (agF c)
theorem fits_c(M:Md)(c:List Int){C:Nat}(hM:MdOK M C)(hc:c.length=C)(hC:C<1000)(hcw:∀x∈c,0≤x∧x<(M.g.ws.length:Int))(hW:M.g.ws.length≤6):FV 49 [mdA M,.slc 1 (iR c) .non] (.bool (fitB M c)):=by
 have hfl:=hM.fl;have hsl:=hM.sl;have hfR:(faR M.fa).length=M.fa.length:=List.length_map _;have hsR:(smR M.sm).length=M.sm.length:=List.length_map _;have hcR:(iR c).length=c.length:=List.length_map _;obtain⟨R,hR⟩:∃R,fitB M c=R:=⟨_,rfl⟩;rw[hR];unfold fitB at hR;refine wk ir49 Tryz.func49 ?_;unfold ir49
 repeat' (first|refine aR ?_|with_reducible refine zI fun y hy=>?_|refine aX ?_|with_reducible intro _|with_reducible refine zJ ?_ fun y hy=>?_|refine aP ?_ ?_)
 refine w_loopK [1,2] [2] (fun x:List Sm×List Sm=>M.sm=x.1++x.2∧(x.2.all (fun s=>!decide (tkF M.no c s=0)) && M.fa.all (agF c))=R) (fun x=>x.2.length) (fun x=>[(5,.int .i64 (x.1.length:Int))]) (fun _=>[]) ([],M.sm) ⟨rfl,hR⟩ ⟨rfl,trivial⟩ trivial ?_;rintro⟨pr,po⟩ ⟨hs,hb⟩ e σ;dsimp only at hs hb ⊢;have hlen:=congrArg List.length hs;rw[List.length_append] at hlen;cases po with
 | cons s po=>
   simp only[List.length_cons] at hlen;obtain⟨p1,q1,N,p2,q2,w,p3,q3,row,p4,q4,e1,e2,e3,e4,e5,e6,e7,e8⟩:=sm_rd hM hc hcw (hM.sm s (by rw[hs];simp));rw[List.all_cons] at hb;generalize tkF M.no c s=tv at e7 hb;by_cases h0:tv=0
   · rw[decide_eq_true h0] at hb;simp only[Bool.not_true,Bool.false_and] at hb;subst hb
     repeat' (first|refine aR ?_|(first|refine w_ixP (f:=fun s:Sm=>[AV.int .i64 s.nose,.int .i64 s.cen,.int .i64 s.wood]) hs rfl rfl ?_|refine w_ixP (f:=fun n:List (List Int)=>[AV.slc 1 (llR n) .non]) e1 rfl (int_eq e2) ?_|refine w_ixP (f:=fI) e3 rfl (int_eq e4) ?_|refine w_ixP e5 rfl (int_eq e6) ?_|refine w_ixP (f:=fI) e7 rfl (int_eq e8) ?_)|with_reducible refine zI fun y hy=>?_|refine aX ?_|with_reducible intro _|with_reducible refine zJ ?_ fun y hy=>?_|refine aP ?_ ?_)
     all_goals exact aZ
   · rw[decide_eq_false h0] at hb;simp only[Bool.not_false,Bool.true_and] at hb
     repeat' (first|refine aR ?_|(first|refine w_ixP (f:=fun s:Sm=>[AV.int .i64 s.nose,.int .i64 s.cen,.int .i64 s.wood]) hs rfl rfl ?_|refine w_ixP (f:=fun n:List (List Int)=>[AV.slc 1 (llR n) .non]) e1 rfl (int_eq e2) ?_|refine w_ixP (f:=fI) e3 rfl (int_eq e4) ?_|refine w_ixP e5 rfl (int_eq e6) ?_|refine w_ixP (f:=fI) e7 rfl (int_eq e8) ?_)|with_reducible refine zI fun y hy=>?_|refine aX ?_|with_reducible intro _|with_reducible refine zJ ?_ fun y hy=>?_|refine aP ?_ ?_)
     all_goals first|(exfalso;omega)|exact q_loop (pr++[s],po) ⟨by show M.sm=_;rw[hs];simp,hb⟩ (Nat.lt_succ_self _) ⟨by rw[len_snoc];rfl,trivial⟩ aS aK aK
 | nil=>
   simp only[List.length_nil] at hlen;simp only[List.all_nil,Bool.true_and] at hb
   repeat' (first|refine aR ?_|with_reducible refine zI fun y hy=>?_|refine aX ?_|with_reducible intro _|with_reducible refine zJ ?_ fun y hy=>?_|refine aP ?_ ?_)
   all_goals try (exfalso;omega)
   refine w_loopK [1,2] [2] (fun x:List Fa×List Fa=>M.fa=x.1++x.2∧x.2.all (agF c)=R) (fun x=>x.2.length) (fun x=>[(7,.int .i64 (x.1.length:Int))]) (fun _=>[]) ([],M.fa) ⟨rfl,hb⟩ ⟨rfl,trivial⟩ trivial ?_;rintro⟨pre,post⟩ ⟨hl,ha⟩ e2 σ2;dsimp only at hl ha ⊢;have hlen:=congrArg List.length hl;rw[List.length_append] at hlen;cases post with
   | nil=>
     simp only[List.length_nil] at hlen;subst ha
     repeat' (first|refine aR ?_|with_reducible refine zI fun y hy=>?_|refine aX ?_|with_reducible intro _|with_reducible refine zJ ?_ fun y hy=>?_|refine aP ?_ ?_)
     all_goals first|(exfalso;omega)|rfl
   | cons f post=>
     simp only[List.length_cons] at hlen;have hf:=hM.fa f (by rw[hl];simp);have hk:=hf.k;have hfa:=hf.a;have hfb:=hf.b;unfold fcM at hfb;obtain⟨hA,hA2⟩:=at_split (l:=c) (i:=f.a.toNat) (d:=0) (by omega);have hai:AV.int .i64 f.a= .int .i64 ((c.take f.a.toNat).length:Int):=int_eq (by rw[hA2];omega);rw[List.all_cons] at ha;have hag:agF c f=if f.kind=1 then decide (c.getD f.a.toNat 0=f.b) else if f.kind=2 then decide (c.getD f.a.toNat 0≠f.b) else if f.kind=3 then decide (c.getD f.a.toNat 0=c.getD f.b.toNat 0) else decide (c.getD f.a.toNat 0≠c.getD f.b.toNat 0):=rfl
     generalize c.getD f.a.toNat 0=x at hA hag;by_cases h3:3≤f.kind
     · rw[if_pos h3] at hfb;rw[if_neg (by omega),if_neg (by omega)] at hag;obtain⟨hB,hB2⟩:=at_split (l:=c) (i:=f.b.toNat) (d:=0) (by omega);have hbi:AV.int .i64 f.b= .int .i64 ((c.take f.b.toNat).length:Int):=int_eq (by rw[hB2];omega);generalize c.getD f.b.toNat 0=y at hB hag;cases hq:agF c f with
       | true=>
         rw[hq,Bool.true_and] at ha;rw[hq] at hag;have hxy:(f.kind=3∧x=y)∨(f.kind=4∧x≠y):=by
          by_cases h:f.kind=3
          · rw[if_pos h] at hag;exact .inl ⟨h,of_decide_eq_true hag.symm⟩
          · rw[if_neg h] at hag;exact .inr ⟨by omega,of_decide_eq_true hag.symm⟩
         repeat' (first|refine aR ?_|(first|refine w_ixP (f:=fun f:Fa=>[AV.int .i64 f.kind,.int .i64 f.a,.int .i64 f.b]) hl rfl rfl ?_|refine w_ixP (f:=fI) hA rfl hai ?_|refine w_ixP (f:=fI) hB rfl hbi ?_)|with_reducible refine zI fun y hy=>?_|refine aX ?_|with_reducible intro _|with_reducible refine zJ ?_ fun y hy=>?_|refine aP ?_ ?_)
         all_goals first|(exfalso;omega)|(exfalso;rename_i hz;rcases hxy with⟨hk,hxy⟩ | ⟨hk,hxy⟩<;>first | omega|(simp[negB,hk,hxy] at hz;done))|exact q_loop (pre++[f],post) ⟨by show M.fa=_;rw[hl];simp,ha⟩ (Nat.lt_succ_self _) ⟨by rw[len_snoc];rfl,trivial⟩ aS aK aK
       | false=>
         rw[hq,Bool.false_and] at ha;rw[hq] at hag;subst ha;have hxy:(f.kind=3∧x≠y)∨(f.kind=4∧x=y):=by
          by_cases h:f.kind=3
          · rw[if_pos h] at hag;exact .inl ⟨h,of_decide_eq_false hag.symm⟩
          · rw[if_neg h] at hag;exact .inr ⟨by omega,Decidable.not_not.1 (of_decide_eq_false hag.symm)⟩
         repeat' (first|refine aR ?_|(first|refine w_ixP (f:=fun f:Fa=>[AV.int .i64 f.kind,.int .i64 f.a,.int .i64 f.b]) hl rfl rfl ?_|refine w_ixP (f:=fI) hA rfl hai ?_|refine w_ixP (f:=fI) hB rfl hbi ?_)|with_reducible refine zI fun y hy=>?_|refine aX ?_|with_reducible intro _|with_reducible refine zJ ?_ fun y hy=>?_|refine aP ?_ ?_)
         all_goals first|(exfalso;omega)|rfl|(exfalso;rename_i hz;rcases hxy with⟨hk,hxy⟩ | ⟨hk,hxy⟩<;>first | omega|(simp[negB,hk,hxy] at hz;done))
     · rw[if_neg h3] at hfb;cases hq:agF c f with
       | true=>
         rw[hq,Bool.true_and] at ha;rw[hq] at hag;have hxy:(f.kind=1∧x=f.b)∨(f.kind=2∧x≠f.b):=by
          by_cases h:f.kind=1
          · rw[if_pos h] at hag;exact .inl ⟨h,of_decide_eq_true hag.symm⟩
          · rw[if_neg h,if_pos (by omega)] at hag;exact .inr ⟨by omega,of_decide_eq_true hag.symm⟩
         repeat' (first|refine aR ?_|(first|refine w_ixP (f:=fun f:Fa=>[AV.int .i64 f.kind,.int .i64 f.a,.int .i64 f.b]) hl rfl rfl ?_|refine w_ixP (f:=fI) hA rfl hai ?_)|with_reducible refine zI fun y hy=>?_|refine aX ?_|with_reducible intro _|with_reducible refine zJ ?_ fun y hy=>?_|refine aP ?_ ?_)
         all_goals first|(exfalso;omega)|(exfalso;rename_i hz;rcases hxy with⟨hk,hxy⟩ | ⟨hk,hxy⟩<;>first | omega|(simp[negB,hk,hxy] at hz;done))|exact q_loop (pre++[f],post) ⟨by show M.fa=_;rw[hl];simp,ha⟩ (Nat.lt_succ_self _) ⟨by rw[len_snoc];rfl,trivial⟩ aS aK aK
       | false=>
         rw[hq,Bool.false_and] at ha;rw[hq] at hag;subst ha;have hxy:(f.kind=1∧x≠f.b)∨(f.kind=2∧x=f.b):=by
          by_cases h:f.kind=1
          · rw[if_pos h] at hag;exact .inl ⟨h,of_decide_eq_false hag.symm⟩
          · rw[if_neg h,if_pos (by omega)] at hag;exact .inr ⟨by omega,Decidable.not_not.1 (of_decide_eq_false hag.symm)⟩
         repeat' (first|refine aR ?_|(first|refine w_ixP (f:=fun f:Fa=>[AV.int .i64 f.kind,.int .i64 f.a,.int .i64 f.b]) hl rfl rfl ?_|refine w_ixP (f:=fI) hA rfl hai ?_)|with_reducible refine zI fun y hy=>?_|refine aX ?_|with_reducible intro _|with_reducible refine zJ ?_ fun y hy=>?_|refine aP ?_ ?_)
         all_goals first|(exfalso;omega)|rfl|(exfalso;rename_i hz;rcases hxy with⟨hk,hxy⟩ | ⟨hk,hxy⟩<;>first | omega|(simp[negB,hk,hxy] at hz;done))
theorem fit_pos{M:Md}{C:Nat}(hM:MdOK M C){c:List Int}{n:Int}(hc:c.length=C)(hcw:∀x∈c,0≤x∧x<(M.g.ws.length:Int))(h0:0<n):fitB M c=true↔0<wtF M c n:=by
 have hb:∀s∈M.sm,0≤tkF M.no c s∧tkF M.no c s≤10:=fun s hs=>tk_bd hM hc hcw (hM.sm s hs);unfold fitB wtF;rw[Bool.and_eq_true,List.all_eq_true]
 constructor
 · rintro⟨h1,h2⟩;rw[if_pos h2];exact fold_pos (fun s hs=>by have:=hb s hs;have:=h1 s hs;simp at this;omega) h0
 · intro h;split at h
   · rename_i h2;refine⟨fun s hs=>?_,h2⟩;cases hz:decide (tkF M.no c s=0) with
     | false=>rfl
     | true=>
       exfalso;have hz:=of_decide_eq_true hz;have key:∀(l:List Sm) (n:Int),s∈l→l.foldl (fun w s=>w*tkF M.no c s) n=0:=by
        intro l;induction l with
        | nil=>intro n hs;cases hs
        | cons a l ih=>
          intro n hs;rw[List.foldl_cons];rcases List.mem_cons.1 hs with rfl | hs
          · rw[hz,Int.mul_zero];have:∀l:List Sm,l.foldl (fun w s=>w*tkF M.no c s) 0=0:=by
             intro l;induction l with
             | nil=>rfl
             | cons a l ih=>rw[List.foldl_cons,Int.zero_mul];exact ih
            exact this l
          · exact ih _ hs
       rw[key _ _ hs] at h;omega
   · omega
end Go.Abs
set_option linter.unusedVariables false
set_option linter.unusedSimpArgs false
set_option maxRecDepth 20000
set_option maxHeartbeats 2000000
namespace Go.Abs
open Go.Proofs
def ir7:IFn:= ⟨249,[(2,none)],(sO [oM 2 (kB false)] (sO [oM 23 0,oC 24 15 [23],oC 25 16 [24,(kI 3),(kI 5),(kI 5)],oM 22 25,oE 26 0 22,oE 27 1 22,oo 3 (.new [.nsl,.nsl,.nsl,.nsl,.nsl]),oS 5 3 26,oM 4 27] (sO [oo 29 (.ld 5 true 3),oC 30 19 [29],oM 28 30,oE 31 0 28,oE 32 1 28,oE 33 2 28,oM 5 31,oM 6 32,oM 7 33] (sO [oF 35 0 3,oo 36 (.ld 2 true 35),oC 37 46 [36],oM 34 37,oE 38 0 34,oE 39 1 34,oE 40 2 34,oM 8 38,oM 9 39,oM 10 40] (sO [oo 42 (.ld 5 true 3),oC 43 47 [42],oM 41 43,oE 44 0 41,oE 45 1 41,oM 11 44,oM 12 45] (.seq (sO [oM 46 7,oB 47 .neq 46 (kI 0),oM 48 47,⟨(some 49),(some (48,false)),(.mov 10)⟩,⟨(some 50),(some (48,false)),(.bin .neq 49 (kI 0))⟩,oo 51 (.pick 48 (kB true) 50),oM 52 51,⟨(some 53),(some (52,false)),(.mov 12)⟩,⟨(some 54),(some (52,false)),(.bin .neq 53 (kI 0))⟩,oo 55 (.pick 52 (kB true) 54),oM 56 55,⟨(some 57),(some (56,false)),(.mov 6)⟩,⟨(some 58),(some (56,false)),(.len false 57)⟩,⟨(some 59),(some (56,false)),(.mov 5)⟩,⟨(some 60),(some (56,false)),(.len false 59)⟩,⟨(some 61),(some (56,false)),(.bin .neq 58 60)⟩,oo 62 (.pick 56 (kB true) 61),oM 63 62,⟨(some 64),(some (63,false)),(.mov 9)⟩,⟨(some 65),(some (63,false)),(.len false 64)⟩,⟨(some 66),(some (63,false)),(.mov 8)⟩,⟨(some 67),(some (63,false)),(.len false 66)⟩,⟨(some 68),(some (63,false)),(.bin .neq 65 67)⟩,oo 69 (.pick 63 (kB true) 68),oM 70 69,⟨(some 71),(some (70,false)),(.mov 11)⟩,⟨(some 72),(some (70,false)),(.mov 4)⟩,⟨(some 73),(some (70,false)),(.len false 72)⟩,⟨(some 74),(some (70,false)),(.flA 0 3)⟩,⟨(some 75),(some (70,false)),(.flA 0 74)⟩,⟨(some 76),(some (70,false)),(.ld 1 false 75)⟩,⟨(some 77),(some (70,false)),(.len false 76)⟩,⟨(some 78),(some (70,false)),(.callF 48 [71,73,77])⟩,⟨(some 79),(some (70,false)),(.not 78)⟩,oo 80 (.pick 70 (kB true) 79)] (.cnd 80 (sO [oM 2 (kB false)] .ret) .skip)) (sO [oM 13 (kI 0)] (.seq (sO [oM 14 (kI 0)] (.blk 0 (.loop (.seq (sO [oM 81 14,oM 82 8,oN 83 82,oB 84 .lss 81 83] (.cnd 84 .skip (.exit 0))) (.seq (.blk 1 (.seq (sO [oM 87 8,oM 88 14,oA 89 1 87 88,oL 90 89,oN 91 90,oM 92 4,oN 93 92,oB 94 .neq 91 93] (.cnd 94 (sO [oM 2 (kB false)] .ret) .skip)) (.seq (sO [oo 95 (.ld 5 true 3),oM 96 8,oM 97 14,oA 98 1 96 97,oL 99 98,oC 100 49 [95,99],oo 101 (.not 100)] (.cnd 101 (.exit 1) .skip)) (.seq (sO [oM 102 13,oM 103 5,oN 104 103,oB 105 .geq 102 104,oM 106 105,⟨(some 107),(some (106,false)),(.mov 5)⟩,⟨(some 108),(some (106,false)),(.mov 13)⟩,⟨(some 109),(some (106,false)),(.ixA 1 107 108)⟩,⟨(some 110),(some (106,false)),(.ld 1 false 109)⟩,⟨(some 111),(some (106,false)),(.mov 8)⟩,⟨(some 112),(some (106,false)),(.mov 14)⟩,⟨(some 113),(some (106,false)),(.ixA 1 111 112)⟩,⟨(some 114),(some (106,false)),(.ld 1 false 113)⟩,⟨(some 115),(some (106,false)),(.callF 21 [110,114])⟩,⟨(some 116),(some (106,false)),(.not 115)⟩,oo 117 (.pick 106 (kB true) 116)] (.cnd 117 (sO [oM 2 (kB false)] .ret) .skip)) (sO [oM 118 9,oM 119 14,oA 120 1 118 119,oL 121 120,oM 15 121] (.seq (sO [oM 16 (kI 0)] (.blk 2 (.loop (.seq (sO [oM 122 16,oF 123 3 3,oL 124 123,oN 125 124,oB 126 .lss 122 125] (.cnd 126 .skip (.exit 2))) (.seq (.blk 3 (sO [oF 129 3 3,oL 130 129,oM 131 16,oA 132 3 130 131,oo 133 (.ld 3 true 132),oo 17 (.new [z0,z0,z0]),oS 3 17 133] (.ops [oM 134 15,oF 135 2 3,oL 136 135,oF 137 0 17,oL 138 137,oA 139 1 136 138,oF 140 0 139,oL 141 140,oM 142 8,oM 143 14,oA 144 1 142 143,oL 145 144,oF 146 1 17,oL 147 146,oA 148 1 145 147,oL 149 148,oA 150 1 141 149,oL 151 150,oF 152 2 17,oL 153 152,oA 154 1 151 153,oL 155 154,oB 156 .mul 134 155,oM 15 156]))) (.ops [oM 127 16,oB 128 .add 127 (kI 1),oM 16 128])))))) (.seq (sO [oM 157 6,oM 158 13,oA 159 1 157 158,oL 160 159,oM 161 15,oB 162 .neq 160 161] (.cnd 162 (sO [oM 2 (kB false)] .ret) .skip)) (.ops [oM 163 13,oB 164 .add 163 (kI 1),oM 13 164])))))))) (.ops [oM 85 14,oB 86 .add 85 (kI 1),oM 14 86])))))) (.seq (sO [oM 18 (kI 0)] (.blk 4 (.loop (.seq (sO [oM 165 18,oM 166 4,oN 167 166,oB 168 .lss 165 167] (.cnd 168 .skip (.exit 4))) (.seq (.blk 5 (sO [oM 19 (kI 0)] (.blk 6 (.loop (.seq (sO [oM 171 19,oM 172 11,oM 173 18,oA 174 1 172 173,oL 175 174,oN 176 175,oB 177 .lss 171 176] (.cnd 177 .skip (.exit 6))) (.seq (.blk 7 (sO [oM 20 (kI 0)] (.seq (sO [oM 21 (kI 0)] (.blk 8 (.loop (.seq (sO [oM 180 21,oM 181 5,oN 182 181,oB 183 .lss 180 182] (.cnd 183 .skip (.exit 8))) (.seq (.blk 9 (sO [oM 186 5,oM 187 21,oA 188 1 186 187,oL 189 188,oM 190 18,oA 191 1 189 190,oL 192 191,oM 193 19,oB 194 .eql 192 193] (.cnd 194 (.ops [oM 195 20,oB 196 .add 195 (kI 1),oM 20 196]) .skip))) (.ops [oM 184 21,oB 185 .add 184 (kI 1),oM 21 185])))))) (sO [oM 197 11,oM 198 18,oA 199 1 197 198,oL 200 199,oM 201 19,oA 202 1 200 201,oL 203 202,oB 204 .eql 203 (kI 3),oM 205 20,oB 206 .gtr 205 (kI 0),oM 207 206,⟨(some 208),(some (207,true)),(.mov 20)⟩,⟨(some 209),(some (207,true)),(.mov 5)⟩,⟨(some 210),(some (207,true)),(.len false 209)⟩,⟨(some 211),(some (207,true)),(.bin .lss 208 210)⟩,oo 212 (.pick 207 211 (kB false)),oo 213 (.eqn .bool true 204 212),oM 214 213,⟨(some 215),(some (214,false)),(.mov 11)⟩,⟨(some 216),(some (214,false)),(.mov 18)⟩,⟨(some 217),(some (214,false)),(.ixA 1 215 216)⟩,⟨(some 218),(some (214,false)),(.ld 1 false 217)⟩,⟨(some 219),(some (214,false)),(.mov 19)⟩,⟨(some 220),(some (214,false)),(.ixA 1 218 219)⟩,⟨(some 221),(some (214,false)),(.ld 1 false 220)⟩,⟨(some 222),(some (214,false)),(.bin .eql 221 (kI 1))⟩,⟨(some 223),(some (214,false)),(.mov 20)⟩,⟨(some 224),(some (214,false)),(.mov 5)⟩,⟨(some 225),(some (214,false)),(.len false 224)⟩,⟨(some 226),(some (214,false)),(.bin .eql 223 225)⟩,⟨(some 227),(some (214,false)),(.eqn .bool true 222 226)⟩,oo 228 (.pick 214 (kB true) 227),oM 229 228,⟨(some 230),(some (229,false)),(.mov 11)⟩,⟨(some 231),(some (229,false)),(.mov 18)⟩,⟨(some 232),(some (229,false)),(.ixA 1 230 231)⟩,⟨(some 233),(some (229,false)),(.ld 1 false 232)⟩,⟨(some 234),(some (229,false)),(.mov 19)⟩,⟨(some 235),(some (229,false)),(.ixA 1 233 234)⟩,⟨(some 236),(some (229,false)),(.ld 1 false 235)⟩,⟨(some 237),(some (229,false)),(.bin .eql 236 (kI 2))⟩,⟨(some 238),(some (229,false)),(.mov 20)⟩,⟨(some 239),(some (229,false)),(.bin .eql 238 (kI 0))⟩,⟨(some 240),(some (229,false)),(.eqn .bool true 237 239)⟩,oo 241 (.pick 229 (kB true) 240)] (.cnd 241 (sO [oM 2 (kB false)] .ret) .skip))))) (.ops [oM 178 19,oB 179 .add 178 (kI 1),oM 19 179]))))))) (.ops [oM 169 18,oB 170 .add 169 (kI 1),oM 18 170])))))) (sO [oM 242 13,oM 243 5,oN 244 243,oB 245 .eql 242 244,oM 246 245,⟨(some 247),(some (246,true)),(.callF 22 [])⟩,oo 248 (.pick 246 247 (kB false)),oM 2 248] .ret))))))))))⟩
theorem lfF_app(M:Md)(A B:List (List Int×Int)):lfF M (A++B)=lfF M A++lfF M B:=by unfold lfF;rw[List.map_append,List.filter_append]
theorem knowNoMore_c(nums:List Int)(hn:nums.length<2^62):FV 7 [.slc 1 (iR nums) .non] (.bool true):=by
 refine wk ir7 Tryz.func7 ?_;unfold ir7
 repeat' (first|refine aR ?_|with_reducible refine zI fun y hy=>?_|((with_reducible refine aC ?_);first|(refine ACall.liftS (boxOf_s nums hn) [] (some 6) rfl rfl rfl trivial (fun _=>rfl) ?_;rintro⟨gb,w⟩ _ rfl)|(refine ACall.box (guest_c _ _ 5 5 (by decide) (by decide)) rfl rfl rfl ?_;rintro _ _ ⟨M,c,rfl,hg⟩))|refine aX ?_|with_reducible intro _|with_reducible refine zJ ?_ fun y hy=>?_|refine aP ?_ ?_)
 have hgm:=hg.g;have hw3:=hgm.n2;have hd24:=hgm.d;have hws:∀w∈M.g.ws,w.name.size≤1000:=fun w hw=>by have:=(madeW_ok hgm.w).2 w hw;omega
 have hE:=guest_err hg (by decide);obtain⟨hne,h5,hok⟩:=lf_ok hE;have hLf:=subV2 (kLeft_c M (by omega) (by omega) hws) (sub_crsA _ _);have hSu:=subV2 (kSure_c M (by omega) (by omega) hws) (sub_lnE _);have hG:=gm_ok hgm.e;have hw1:=hG.n1;have hw6:=hG.n6;obtain⟨gl1,gl2,gl3⟩:=guest_len hg;have hcen:=hG.cen;have hMd:=guest_ok hg;have hcr:=guest_crs hg (by decide);have hC:=subV2 (courses_f M.g (invW M.g.ws.length) (by omega) (by omega) hws gmOK) (sub_crsA _ _);rw[hcr] at hC;obtain⟨_,_,_,hCs,_⟩:=crsK_ok (G:=M.g) (by rw[hcr]);rw[show sureO M=(tabF (censG (stepsG M.g.ds)) M.g.ws.length (sureT (lfL M)),0) by unfold sureO;rw[if_pos hE]] at hSu;unfold lfL at hSu hne h5 hok;rw[guest_lfO hg (by decide)] at hLf hSu hne h5 hok;have hcpos:∀x∈crsG M.g,0<x.2:=fun x hx=>by obtain⟨_,h3,h4⟩:=(crsG_mem hG).1 hx;omega
 have hfit:∀x∈crsG M.g,FV 49 [mdA M,.slc 1 (iR x.1) .non] (.bool (fitB M x.1)):=fun x hx=>by obtain⟨q1,q2,_⟩:=hCs.c x hx;exact fits_c M x.1 hMd (by rw[q1,gl1]) (by omega) q2 hw6
 have hfp:∀x∈crsG M.g,(fitB M x.1=true↔0<wtF M x.1 x.2):=fun x hx=>by obtain⟨q1,q2,_⟩:=hCs.c x hx;exact fit_pos hMd (by rw[q1,gl1]) q2 (hcpos x hx)
 have hl5:=hCs.l;have hcc:=hCs.c;obtain⟨k,hk⟩:∃k,censG (stepsG M.g.ds)=k:=⟨_,rfl⟩;obtain⟨W,hW⟩:∃W,M.g.ws.length=W:=⟨_,rfl⟩;have hwR:(wR M.g.ws).length=M.g.ws.length:=List.length_map _;have hcR:(iR c).length=c.length:=List.length_map _;have hsq:=square_c (tabF k W (sureT ((lfF M (crsG M.g),(0:Int)).1.map (·.1)))) c.length M.g.ws.length (by rw[tabF_len,gl1,hk]) (by omega) (fun y hy=>by rw[hW];exact tabF_row hy);rw[hk] at hSu hok gl1 hcen hcc;rw[hW] at hSu hok hwR gl2 hw1 hw3 hcc;dsimp only at hLf hSu hne h5 hok hsq hC;generalize crsG M.g=C at hLf hSu hne h5 hok hsq hC hfit hfp hl5 hcc hcpos;have hCl1:(C.map (·.1)).length=C.length:=List.length_map _;have hCl2:(C.map (·.2)).length=C.length:=List.length_map _;obtain⟨L,hL⟩:∃L,lfF M C=L:=⟨_,rfl⟩;rw[hL] at hLf hSu hne h5 hok hsq;have hLl1:(L.map (·.1)).length=L.length:=List.length_map _;have hLl2:(L.map (·.2)).length=L.length:=List.length_map _;have hLp:0<L.length:=by
  rcases Nat.eq_zero_or_pos L.length with h | h
  · exact absurd (by rw[List.eq_nil_of_length_eq_zero h];rfl) hne
  · exact h
 have hf1:∀i w:Nat,sureT (L.map (·.1)) i w=vdN ((L.map (·.1)).filter fun c:List Int=>decide (c.getD i 0=(w:Int))).length (L.map (·.1)).length:=fun _ _=>rfl;have hsR:(smR M.sm).length=M.sm.length:=List.length_map _;have hsl:=hMd.sl;have haw:=kawake_c;generalize hfe:sureT (L.map (·.1))=f1 at hSu hsq hf1
 repeat' (first|refine aR ?_|with_reducible refine zI fun y hy=>?_|((with_reducible refine aC ?_);first|refine aV hLf ?_|refine aV hC ?_|refine aV hSu ?_|refine aV hsq ?_)|refine aX ?_|with_reducible intro _|with_reducible refine zJ ?_ fun y hy=>?_|refine aP ?_ ?_)
 all_goals try (exfalso;omega)
 refine w_loopK [3,4,5,6,8,9,11] [3] (fun x:List (List Int×Int)×List (List Int×Int)=>C=x.1++x.2) (fun x=>x.2.length) (fun x=>[(13,.int .i64 ((lfF M x.1).length:Int)),(14,.int .i64 (x.1.length:Int))]) (fun _=>[]) ([],C) rfl ⟨rfl,rfl,trivial⟩ trivial ?_;rintro⟨pre,post⟩ hl e σ;dsimp only at hl ⊢;have hlen:=congrArg List.length hl;rw[List.length_append] at hlen;have hLs:L=lfF M pre++lfF M post:=by rw[←hL,hl,lfF_app]
 have hLsl:=congrArg List.length hLs;rw[List.length_append] at hLsl;cases post with
 | cons x post=>
   simp only[List.length_cons] at hlen;have hxm:x∈C:=by rw[hl];simp
   obtain⟨q1,q2,q3⟩:=hcc x hxm;have hxl:(iR x.1).length=x.1.length:=List.length_map _;have hA:C.map (·.1)=pre.map (·.1)++x.1::post.map (·.1):=by rw[hl,List.map_append,List.map_cons]
   have hB:C.map (·.2)=pre.map (·.2)++x.2::post.map (·.2):=by rw[hl,List.map_append,List.map_cons]
   have hi1:AV.int .i64 (pre.length:Int)= .int .i64 ((pre.map (·.1)).length:Int):=by rw[List.length_map]
   have hi2:AV.int .i64 (pre.length:Int)= .int .i64 ((pre.map (·.2)).length:Int):=by rw[List.length_map]
   have hfx:=hfit x hxm;have hpx:=hfp x hxm;by_cases h0:0<wtF M x.1 x.2
   rotate_left
   · rw[lf_neg h0] at hLs;cases hfb:fitB M x.1 with
     | true=>exact absurd (hpx.1 hfb) h0
     | false=>
       rw[hfb] at hfx;have hpn:lfF M (pre++[x])=lfF M pre:=by rw[lfF_app,lf_neg h0];exact List.append_nil _
       repeat' (first|refine aR ?_|(first|refine w_ixP hA rfl hi1 ?_)|with_reducible refine zI fun y hy=>?_|((with_reducible refine aC ?_);first|refine aV hfx ?_)|refine aX ?_|with_reducible intro _|with_reducible refine zJ ?_ fun y hy=>?_|refine aP ?_ ?_)
       all_goals first|(exfalso;omega)|exact q_loop (pre++[x],post) (by show C=_;rw[hl];simp) (Nat.lt_succ_self _) ⟨by dsimp only;rw[hpn];rfl,by rw[len_snoc];rfl,trivial⟩ aS aK aK
   rw[hpx.2 h0] at hfx;rw[lf_pos h0] at hLs;have hpn:(lfF M (pre++[x])).length=(lfF M pre).length+1:=by rw[lfF_app,lf_pos h0,List.length_append];rfl
   rw[lf_pos h0,List.length_cons] at hLsl;have hLA:L.map (·.1)=(lfF M pre).map (·.1)++x.1::(lfF M post).map (·.1):=by rw[hLs,List.map_append,List.map_cons]
   have hLB:L.map (·.2)=(lfF M pre).map (·.2)++wtF M x.1 x.2::(lfF M post).map (·.2):=by rw[hLs,List.map_append,List.map_cons]
   have hj1:AV.int .i64 ((lfF M pre).length:Int)= .int .i64 (((lfF M pre).map (·.1)).length:Int):=by rw[List.length_map]
   have hj2:AV.int .i64 ((lfF M pre).length:Int)= .int .i64 (((lfF M pre).map (·.2)).length:Int):=by rw[List.length_map]
   have hEq:=eq_c x.1 x.1 (by omega);rw[decide_eq_true rfl] at hEq;have hall:M.fa.all (agF x.1)=true:=by have:=hpx.2 h0;unfold fitB at this;rw[Bool.and_eq_true] at this;exact this.2
   have hwt:wtF M x.1 x.2=M.sm.foldl (fun w s=>w*tkF M.no x.1 s) x.2:=by unfold wtF;rw[if_pos hall]
   have hwtb:=wt_nn hMd (c:=x.1) (n:=x.2) (by rw[q1,gl1]) (by rw[hW];exact q2) q3;obtain⟨wv,hwv⟩:∃wv,wtF M x.1 x.2=wv:=⟨_,rfl⟩;rw[hwv] at hLB hwt hwtb
   repeat' (first|refine aR ?_|(first|refine w_ixP hA rfl hi1 ?_|refine w_ixP hLA rfl hj1 ?_|refine w_ixP (f:=fI) hB rfl hi2 ?_)|with_reducible refine zI fun y hy=>?_|((with_reducible refine aC ?_);first|refine aV hfx ?_|refine aV hEq ?_)|refine aX ?_|with_reducible intro _|with_reducible refine zJ ?_ fun y hy=>?_|refine aP ?_ ?_)
   all_goals try (exfalso;omega)
   refine w_loopK [3,4,5,6,8,9,11,13,14] [3] (fun y:List Sm×List Sm=>M.sm=y.1++y.2) (fun y=>y.2.length) (fun y=>[(15,.int .i64 (y.1.foldl (fun w s=>w*tkF M.no x.1 s) x.2)),(16,.int .i64 (y.1.length:Int))]) (fun _=>[]) ([],M.sm) rfl ⟨rfl,rfl,trivial⟩ trivial ?_;rintro⟨pr,po⟩ hs e2 σ2;dsimp only at hs ⊢;have hlen2:=congrArg List.length hs;rw[List.length_append] at hlen2;cases po with
   | cons s po=>
     simp only[List.length_cons] at hlen2;obtain⟨p1,q1',N,p2,q2',w,p3,q3',row,p4,q4,e1,e2',e3,e4,e5,e6,e7,e8⟩:=sm_rd hMd (c:=x.1) (by rw[q1,gl1]) (by rw[hW];exact q2) (hMd.sm s (by rw[hs];simp));have htb:=tk_bd hMd (c:=x.1) (by rw[q1,gl1]) (by rw[hW];exact q2) (hMd.sm s (by rw[hs];simp));have hfb:=fold_bd (f:=tkF M.no x.1) (l:=pr) (n:=x.2) (B:=479001600) (fun s' hs'=>tk_bd hMd (c:=x.1) (by rw[q1,gl1]) (by rw[hW];exact q2) (hMd.sm s' (by rw[hs];simp[hs']))) q3.1 q3.2;have hp10:(10:Int)^pr.length≤100000000:=pow10_le (by omega);have hfb2:pr.foldl (fun w s=>w*tkF M.no x.1 s) x.2≤47900160000000000:=by have:=Int.mul_le_mul_of_nonneg_left hp10 (show (0:Int)≤479001600 by decide);have:=hfb.2;omega
     have hfb1:=hfb.1;have hfn:(pr++[s]).foldl (fun w s=>w*tkF M.no x.1 s) x.2=pr.foldl (fun w s=>w*tkF M.no x.1 s) x.2*tkF M.no x.1 s:=by rw[List.foldl_append];rfl
     have hm1:=Int.mul_nonneg hfb1 htb.1;have hm2:pr.foldl (fun w s=>w*tkF M.no x.1 s) x.2*tkF M.no x.1 s≤47900160000000000*10:=Int.mul_le_mul hfb2 htb.2 htb.1 (by decide);generalize tkF M.no x.1 s=tv at e7 hfn hm1 hm2;generalize pr.foldl (fun w s=>w*tkF M.no x.1 s) x.2=fv at hfn hm1 hm2
     repeat' (first|refine aR ?_|(first|refine w_ixP hA rfl hi1 ?_|refine w_ixP (f:=fun s:Sm=>[AV.int .i64 s.nose,.int .i64 s.cen,.int .i64 s.wood]) hs rfl rfl ?_|refine w_ixP (f:=fun n:List (List Int)=>[AV.slc 1 (llR n) .non]) e1 rfl (int_eq e2') ?_|refine w_ixP (f:=fI) e3 rfl (int_eq e4) ?_|refine w_ixP e5 rfl (int_eq e6) ?_|refine w_ixP (f:=fI) e7 rfl (int_eq e8) ?_)|with_reducible refine zI fun y hy=>?_|refine aX ?_|with_reducible intro _|with_reducible refine zJ ?_ fun y hy=>?_|refine aP ?_ ?_)
     all_goals first|(exfalso;omega)|exact q_loop (pr++[s],po) (by show M.sm=_;rw[hs];simp) (Nat.lt_succ_self _) ⟨by dsimp only;rw[hfn];rfl,by rw[len_snoc];rfl,trivial⟩ aS aK aK
   | nil=>
     simp only[List.length_nil] at hlen2;rw[List.append_nil] at hs;rw[←hs,←hwt]
     repeat' (first|refine aR ?_|(first|refine w_ixP (f:=fI) hLB rfl hj2 ?_)|with_reducible refine zI fun y hy=>?_|refine aX ?_|with_reducible intro _|with_reducible refine zJ ?_ fun y hy=>?_|refine aP ?_ ?_)
     all_goals first|(exfalso;omega)|exact q_loop (pre++[x],post) (by show C=_;rw[hl];simp) (Nat.lt_succ_self _) ⟨by dsimp only;rw[hpn];rfl,by rw[len_snoc];rfl,trivial⟩ aS aK aK
 | nil=>
   simp only[List.length_nil] at hlen;rw[List.append_nil] at hl;rw[←hl,hL]
   repeat' (first|refine aR ?_|with_reducible refine zI fun y hy=>?_|refine aX ?_|with_reducible intro _|with_reducible refine zJ ?_ fun y hy=>?_|refine aP ?_ ?_)
   all_goals try (exfalso;omega)
   refine w_loopK [4,5,11,13] [] (fun i:Nat=>i≤k) (fun i=>k-i) (fun i=>[(18,.int .i64 (i:Int))]) (fun _=>[]) 0 (Nat.zero_le _) ⟨rfl,trivial⟩ trivial ?_;intro i hi e2 σ2;by_cases hik:i<k
   rotate_left
   · repeat' (first
      | with_reducible (first|refine Rd.p ?_|refine w_alt ?_ ?_|refine zE ?_|refine zE0 ?_)
      | with_reducible (first|refine zI fun y hy=>?_|refine zL ?_|refine zS ?_|refine zA fun _=>?_|refine zV ?_|refine zC ?_|refine zG ?_|refine zU ?_|refine zG0 ?_|refine zU0 ?_|refine zF ?_)
      | ((with_reducible refine acall_id ?_);refine ACall.val haw rfl rfl ?_)
      | with_reducible (first|refine zX ?_|refine zD fun _=>?_|refine zD0 ?_|refine zN ?_|refine zF0 ?_|refine zX0 ?_|refine z1 ?_|refine z2 ?_|refine z3 ?_|refine z4 ?_|refine z5 ?_|refine z6 ?_|refine z7 ?_|refine z8 ?_|refine y1 ?_|refine y2 ?_|refine y3 ?_|refine y4 ?_|refine y5 ?_|refine y6 ?_|refine y7 ?_|refine y8 ?_|refine Rt.p (fun _=>?_) fun _=>?_)
      | ((with_reducible apply w_ixM);(focus exact rfl);(focus exact rfl);case' hk=>intro y hy)|((with_reducible (first | apply w_val | apply q_ends));(focus exact rfl)))
     all_goals exact aZ
   repeat' (first|refine aR ?_|with_reducible refine zI fun y hy=>?_|refine aX ?_|with_reducible intro _|with_reducible refine zJ ?_ fun y hy=>?_|refine aP ?_ ?_)
   all_goals try (exfalso;omega)
   refine w_loopK [4,5,11,13,18] [] (fun w:Nat=>w≤W) (fun w=>W-w) (fun w=>[(19,.int .i64 (w:Int))]) (fun _=>[]) 0 (Nat.zero_le _) ⟨rfl,trivial⟩ trivial ?_;intro w hw e3 σ3;by_cases hwW:w<W
   rotate_left
   · obtain⟨p1,q1,r1,hA1,hA2,hA3⟩:=tabF_rw (n:=W) (f:=f1) hik;have hI1:AV.int .i64 (i:Int)= .int .i64 ((p1.length:Nat):Int):=int_eq (by rw[hA2]);have hrl:(iR r1).length=r1.length:=List.length_map _
     repeat' (first|refine aR ?_|(first|refine w_ixP (f:=fL) hA1 rfl hI1 ?_)|with_reducible refine zI fun y hy=>?_|refine aX ?_|with_reducible intro _|with_reducible refine zJ ?_ fun y hy=>?_|refine aP ?_ ?_)
     all_goals first|(exfalso;omega)|exact q_loop (i+1) (by show i+1≤k;omega) (by show k-(i+1)<k-i;omega) aS aS aK aK
   obtain⟨p1,q1,r1,s1,t1,hA1,hA2,hA3,hA4,hA5⟩:=tabF_at (f:=f1) hik hwW;have hI1:AV.int .i64 (i:Int)= .int .i64 ((p1.length:Nat):Int):=int_eq (by rw[hA2]);have hI2:AV.int .i64 (w:Int)= .int .i64 ((s1.length:Nat):Int):=int_eq (by rw[hA5]);have hrl:(iR r1).length=r1.length:=List.length_map _;have hv:=hf1 i w;generalize f1 i w=v at hA4 hv;generalize hLLe:L.map (·.1)=LL at hv hok hLl1 h5
   repeat' (first|refine aR ?_|(first|refine w_ixP (f:=fL) hA1 rfl hI1 ?_)|with_reducible refine zI fun y hy=>?_|refine aX ?_|with_reducible intro _|with_reducible refine zJ ?_ fun y hy=>?_|refine aP ?_ ?_)
   all_goals try (exfalso;omega)
   refine w_loopK [4,5,11,13,18,19] [] (fun y:List (List Int)×List (List Int)=>LL=y.1++y.2) (fun y=>y.2.length) (fun y=>[(20,.int .i64 ((y.1.filter fun c:List Int=>decide (c.getD i 0=(w:Int))).length:Nat)),(21,.int .i64 (y.1.length:Int))]) (fun _=>[]) ([],LL) rfl ⟨rfl,rfl,trivial⟩ trivial ?_;rintro⟨pr,po⟩ hs e4 σ4;dsimp only at hs ⊢;have hlen2:=congrArg List.length hs;rw[List.length_append] at hlen2;have hfl:=List.length_filter_le (fun c:List Int=>decide (c.getD i 0=(w:Int))) pr;cases po with
   | cons y po=>
     simp only[List.length_cons] at hlen2;obtain⟨y1,y2⟩:=hok y (by rw[hs];simp);obtain⟨yA,yB⟩:=at_split (l:=y) (i:=i) (d:=0) (by omega);have yI:AV.int .i64 (i:Int)= .int .i64 (((y.take i).length:Nat):Int):=int_eq (by rw[yB]);have hfa:((pr++[y]).filter fun c:List Int=>decide (c.getD i 0=(w:Int))).length=(pr.filter fun c:List Int=>decide (c.getD i 0=(w:Int))).length+if y.getD i 0=(w:Int) then 1 else 0:=by
      rw[List.filter_append,List.length_append,List.filter_cons];by_cases hq:y.getD i 0=(w:Int)
      · rw[if_pos hq,decide_eq_true hq];rfl
      · rw[if_neg hq,decide_eq_false hq];rfl
     generalize y.getD i 0=yv at yA hfa;generalize (pr.filter fun c:List Int=>decide (c.getD i 0=(w:Int))).length=fn at hfa hfl;by_cases hq:yv=(w:Int)
     · rw[if_pos hq] at hfa
       repeat' (first|refine aR ?_|(first|refine w_ixP (f:=fL) hs rfl rfl ?_|refine w_ixP (f:=fI) yA rfl yI ?_)|with_reducible refine zI fun y hy=>?_|refine aX ?_|with_reducible intro _|with_reducible refine zJ ?_ fun y hy=>?_|refine aP ?_ ?_)
       all_goals first|(exfalso;omega)|exact q_loop (pr++[y],po) (by show LL=_;rw[hs];simp) (Nat.lt_succ_self _) ⟨by dsimp only;rw[hfa];rfl,by rw[len_snoc];rfl,trivial⟩ aS aK aK
     · rw[if_neg hq] at hfa
       repeat' (first|refine aR ?_|(first|refine w_ixP (f:=fL) hs rfl rfl ?_|refine w_ixP (f:=fI) yA rfl yI ?_)|with_reducible refine zI fun y hy=>?_|refine aX ?_|with_reducible intro _|with_reducible refine zJ ?_ fun y hy=>?_|refine aP ?_ ?_)
       all_goals first|(exfalso;omega)|exact q_loop (pr++[y],po) (by show LL=_;rw[hs];simp) (Nat.lt_succ_self _) ⟨by dsimp only;rw[hfa];rfl,by rw[len_snoc];rfl,trivial⟩ aS aK aK
   | nil=>
     simp only[List.length_nil] at hlen2;rw[List.append_nil] at hs;rw[←hs];rw[←hs] at hfl;generalize (LL.filter fun c:List Int=>decide (c.getD i 0=(w:Int))).length=fn at hv hfl;have hv3:(fn=LL.length∧v=1)∨(fn=0∧v=2∧fn≠LL.length)∨(fn≠LL.length∧fn≠0∧v=3):=by
      unfold vdN at hv;split at hv
      · exact .inl ⟨by assumption,hv⟩
      · split at hv
        · exact .inr (.inl ⟨by assumption,hv,by assumption⟩)
        · exact .inr (.inr ⟨by assumption,by assumption,hv⟩)
     have hfn0:fn≠0∨fn≠LL.length:=by omega
     rcases hv3 with⟨v1,rfl⟩ | ⟨v1,rfl,v2⟩ | ⟨v1,v2,rfl⟩
     all_goals
      repeat' (first|refine aR ?_|(first|refine w_ixP (f:=fL) hA1 rfl hI1 ?_|refine w_ixP (f:=fI) hA4 rfl hI2 ?_)|with_reducible refine zI fun y hy=>?_|refine aX ?_|with_reducible intro _|with_reducible refine zJ ?_ fun y hy=>?_|refine aP ?_ ?_)
     all_goals first|(exfalso;omega)|(exfalso;rename_i hz;simp[negB] at hz;done)|(exfalso;rename_i hz;simp[negB] at hz;omega)|exact q_loop (w+1) (by show w+1≤W;omega) (by show W-(w+1)<W-w;omega) aS aS aK aK
end Go.Abs
