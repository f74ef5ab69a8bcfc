/- A part of the proofs of the laws of this seat: contracts of the functions that they reach, each proved of the program's form in Lean. No condition beyond those that each contract names. -/
import Derived.Test.YtegfkfgkplnjgaaGreatProg
import Derived.Test.YtegfkfgkplnjgaaGreatSnd3
import Derived.Test.YtegfkfgkplnjgaaGreatA0
import Derived.Test.YtegfkfgkplnjgaaGreatQ1a
import Derived.Test.YtegfkfgkplnjgaaGreatQ1b
import Derived.Test.YtegfkfgkplnjgaaGreatQ1c
import Derived.Test.YtegfkfgkplnjgaaGreatQ1d
import Derived.Test.YtegfkfgkplnjgaaGreatQ1e
import Derived.Test.YtegfkfgkplnjgaaGreatQ1f
import Derived.Test.YtegfkfgkplnjgaaGreatQ1g
import Derived.Test.YtegfkfgkplnjgaaGreatQ1h
import Derived.Test.YtegfkfgkplnjgaaGreatQ1i
set_option linter.unusedVariables false
set_option linter.unusedSimpArgs false
set_option maxRecDepth 20000
set_option maxHeartbeats 4000000
namespace Go.Abs
open Go.Proofs
theorem rin_c (n a b:Int):Fn0 Tryz.prog 32 [.int .i64 n,.int .i64 a,.int .i64 b] (fun v=>v= .bool (inB n a b)):=by
 by_cases h1:a≤n
 · by_cases h2:n≤b
   · have:inB n a b=true:=inB_t.2 ⟨h1,h2⟩
     rw[this]
     refine RawC.walk (H:=hint32 Tryz.prog) ir32 Tryz.func32 rfl rfl rfl ?_
     unfold ir32
     repeat' (first
      | with_reducible refine Rd.p ?_
      | with_reducible (first|refine zL ?_|refine zS ?_|refine zV ?_|refine zC ?_)
      | refine aX ?_|with_reducible intro _
      | refine aP ?_ ?_)
     all_goals first
      | (exfalso;omega)
      | exact congrArg AV.bool (decide_eq_true h2)
   · have:inB n a b=false:=inB_f.2 (by omega)
     rw[this]
     refine RawC.walk (H:=hint32 Tryz.prog) ir32 Tryz.func32 rfl rfl rfl ?_
     unfold ir32
     repeat' (first
      | with_reducible refine Rd.p ?_
      | with_reducible (first|refine zL ?_|refine zS ?_|refine zV ?_|refine zC ?_)
      | refine aX ?_|with_reducible intro _
      | refine aP ?_ ?_)
     all_goals first
      | (exfalso;omega)
      | exact congrArg AV.bool (decide_eq_false h2)
 · have:inB n a b=false:=inB_f.2 (by omega)
   rw[this]
   refine RawC.walk (H:=hint32 Tryz.prog) ir32 Tryz.func32 rfl rfl rfl ?_
   unfold ir32
   repeat' (first
    | with_reducible refine Rd.p ?_
    | with_reducible (first|refine zL ?_|refine zS ?_|refine zV ?_|refine zC ?_)
    | refine aX ?_|with_reducible intro _
    | refine aP ?_ ?_)
   all_goals first
    | rfl
    | (exfalso;omega)
theorem rnamed_c (s:ByteArray) (hs:s.size≤1000):Fn0 Tryz.prog 96 [.str s] (fun v=>v= .bool (namedB s)):=by
 refine RawC.walk (H:=hint96 Tryz.prog) ir96 Tryz.func96 rfl rfl rfl ?_
 unfold ir96
 repeat' (first
  | with_reducible refine Rd.p ?_
  | with_reducible (first|refine zI fun y hy=>?_|refine zL ?_|refine zS ?_|refine zV ?_|refine zC ?_)
  | refine aX ?_|with_reducible intro _
  | with_reducible refine zJ ?_ fun y hy=>?_|refine aP ?_ ?_)
 have hsz:s.data.toList.length=s.size:=by simp
 refine w_loopK [0] [] (fun x:List UInt8×List UInt8=>s.data.toList=x.1++x.2∧x.1.all letB=true) (fun x=>x.2.length) (fun x=>[(3,.int .i64 x.1.length)]) (fun _=>[]) ([],s.data.toList) ⟨rfl,rfl⟩ ⟨rfl,trivial⟩ trivial ?_
 rintro⟨pre,post⟩ ⟨hl,hb⟩ e σ
 dsimp only at hl hb ⊢
 have hlen:=congrArg List.length hl
 cases post with
 | nil=>
   simp only[List.append_nil,List.length_append,List.length_nil] at hlen
   repeat' (first
    | with_reducible refine Rd.p ?_
    | with_reducible (first|refine zI fun y hy=>?_|refine zL ?_|refine zS ?_|refine zV ?_|refine zC ?_)
    | refine aX ?_|with_reducible intro _
    | with_reducible refine zJ ?_ fun y hy=>?_|refine aP ?_ ?_)
   · rename_i h1
     refine congrArg AV.bool ?_
     show decide ((s.size:Int)≤8)=_
     unfold namedB;rw[hl,List.append_nil,hb,Bool.and_true,Bool.eq_iff_iff,inB_t,decide_eq_true_eq];omega
   · rename_i h1
     refine congrArg AV.bool ?_
     unfold namedB;rw[hl,List.append_nil,hb,Bool.and_true];exact (inB_f.2 (by omega)).symm
 | cons c post=>
   simp only[List.length_append,List.length_cons] at hlen
   have hn:letB c=decide (97≤(c.toNat:Int)∧(c.toNat:Int)≤122):=rfl
   have hbad:letB c=false→namedB s=false:=fun h=>by unfold namedB;rw[hl];simp[h]
   have hg:s.data.toList.getD ((pre.length:Int)).toNat 0=c:=by rw[hl];simp
   repeat' (first
    | with_reducible refine Rd.p ?_
    | with_reducible (first|refine zI fun y hy=>?_|refine zL ?_|refine zS ?_|refine zV ?_|refine zC ?_)
    | refine aX ?_|with_reducible intro _
    | with_reducible refine zJ ?_ fun y hy=>?_|refine aP ?_ ?_)
   · rename_i h1
     rw[hg] at h1
     exact congrArg AV.bool (hbad (by rw[hn];simp;omega)).symm
   · rename_i h2 h1
     rw[hg] at h1 h2
     exact congrArg AV.bool (hbad (by rw[hn];simp;omega)).symm
   · rename_i h2 h1
     rw[hg] at h1 h2
     exact q_loop (pre++[c],post) ⟨by show s.data.toList=_;rw[hl];simp,by show (pre++[c]).all letB=true;rw[List.all_append,hb];simp[hn];omega⟩ (by simp) ⟨by rw[len_snoc];rfl,trivial⟩ aS aK aK
theorem checkWoods_c (ws:List Wd) (hw:ws.length<1000) (hs:∀w∈ws,w.name.size≤1000):Fn0 Tryz.prog 62 [.slc 2 (wR ws) .non] (fun v=>v= .int .i64 (if ws=[] then 6 else if 6<ws.length then 8 else wsErr [] ws)):=by
 obtain⟨R,hR⟩:∃R,(if ws=[] then 6 else if 6<ws.length then 8 else wsErr [] ws)=R:=⟨_,rfl⟩
 rw[hR]
 by_cases h0:ws=[]
 · rw[if_pos h0] at hR
   subst h0 hR
   have hz:([]:List Wd).length=0:=rfl
   refine RawC.walk (H:=hint62 Tryz.prog) ir62 Tryz.func62 rfl rfl rfl ?_
   unfold ir62
   repeat' (first
    | with_reducible refine Rd.p ?_
    | with_reducible (first|refine zI fun y hy=>?_|refine zL ?_|refine zS ?_|refine zV ?_|refine zC ?_)
    | refine aX ?_|with_reducible intro _
    | with_reducible refine zJ ?_ fun y hy=>?_|refine aP ?_ ?_)
   all_goals first
    | (exfalso;omega)
    | rfl
 rw[if_neg h0] at hR
 have hpos:0<ws.length:=List.length_pos_iff.2 h0
 by_cases h6:6<ws.length
 · rw[if_pos h6] at hR
   subst hR
   refine RawC.walk (H:=hint62 Tryz.prog) ir62 Tryz.func62 rfl rfl rfl ?_
   unfold ir62
   repeat' (first
    | with_reducible refine Rd.p ?_
    | with_reducible (first|refine zI fun y hy=>?_|refine zL ?_|refine zS ?_|refine zV ?_|refine zC ?_)
    | refine aX ?_|with_reducible intro _
    | with_reducible refine zJ ?_ fun y hy=>?_|refine aP ?_ ?_)
   all_goals first
    | (exfalso;omega)
    | rfl
 rw[if_neg h6] at hR
 refine RawC.walk (H:=hint62 Tryz.prog) ir62 Tryz.func62 rfl rfl rfl ?_
 unfold ir62
 repeat' (first
  | with_reducible refine Rd.p ?_
  | with_reducible (first|refine zI fun y hy=>?_|refine zL ?_|refine zS ?_|refine zV ?_|refine zC ?_)
  | refine aX ?_|with_reducible intro _
  | with_reducible refine zJ ?_ fun y hy=>?_|refine aP ?_ ?_)
 all_goals try (exfalso;omega)
 refine w_loopK [0] [] (fun x:List Wd×List Wd=>ws=x.1++x.2∧wsErr x.1 x.2=R) (fun x=>x.2.length) (fun x=>[(3,.int .i64 x.1.length)]) (fun _=>[]) ([],ws) ⟨rfl,hR⟩ ⟨rfl,trivial⟩ trivial ?_
 rintro⟨pre,post⟩ ⟨hl,hb⟩ e σ
 dsimp only at hl hb ⊢
 have hlen:=congrArg List.length hl
 rw[List.length_append] at hlen
 cases post with
 | nil=>
   simp only[List.length_nil] at hlen
   rw[wsErr] at hb
   subst hb
   repeat' (first
    | with_reducible refine Rd.p ?_
    | with_reducible (first|refine zI fun y hy=>?_|refine zL ?_|refine zS ?_|refine zV ?_|refine zC ?_)
    | refine aX ?_|with_reducible intro _
    | with_reducible refine zJ ?_ fun y hy=>?_|refine aP ?_ ?_)
   all_goals first
    | (exfalso;omega)
    | rfl
 | cons w post=>
   simp only[List.length_cons] at hlen
   have hnm:=rnamed_c w.name (hs w (by rw[hl];simp))
   have hrn:=rin_c w.fam 0 9
   rw[wsErr] at hb
   by_cases h1:namedB w.name=true
   · rw[if_pos h1] at hb
     rw[h1] at hnm
     repeat' (first
      | with_reducible refine Rd.p ?_
      | (refine w_ixP (f:=fun w:Wd=>[AV.str w.name,.int .i64 w.fam]) hl rfl rfl ?_)
      | with_reducible (first|refine zI fun y hy=>?_|refine zL ?_|refine zS ?_|refine zV ?_|refine zC ?_)
      | ((with_reducible refine aC ?_);first|(refine ACall.val hnm rfl rfl ?_))
      | refine aX ?_|with_reducible intro _
      | with_reducible refine zJ ?_ fun y hy=>?_|refine aP ?_ ?_)
     all_goals try (exfalso;omega)
     refine w_loopK [0,3] [] (fun x:List Wd×List Wd=>pre=x.1++x.2∧x.1.any (fun x=>decide (x.name=w.name))=false) (fun x=>x.2.length) (fun x=>[(4,.int .i64 x.1.length)]) (fun _=>[]) ([],pre) ⟨rfl,rfl⟩ ⟨rfl,trivial⟩ trivial ?_
     rintro⟨p1,p2⟩ ⟨hp,ha⟩ e2 σ2
     dsimp only at hp ha ⊢
     have hpl:=congrArg List.length hp
     rw[List.length_append] at hpl
     cases p2 with
     | nil=>
       rw[List.append_nil] at hp
       simp only[List.length_nil] at hpl
       rw[hp,ha,if_neg Bool.false_ne_true,←hp] at hb
       by_cases h2:inB w.fam 0 9=true
       · rw[if_pos h2] at hb
         rw[h2] at hrn
         repeat' (first
          | with_reducible refine Rd.p ?_
          | (refine w_ixP (f:=fun w:Wd=>[AV.str w.name,.int .i64 w.fam]) hl rfl rfl ?_)
          | with_reducible (first|refine zI fun y hy=>?_|refine zL ?_|refine zS ?_|refine zV ?_|refine zC ?_)
          | ((with_reducible refine aC ?_);first|(refine ACall.val hrn rfl rfl ?_))
          | refine aX ?_|with_reducible intro _
          | with_reducible refine zJ ?_ fun y hy=>?_|refine aP ?_ ?_)
         all_goals first
          | (exfalso;omega)
          | exact q_loop (pre++[w],post) ⟨by show ws=_;rw[hl];simp,hb⟩ (Nat.lt_succ_self _) ⟨by rw[len_snoc];rfl,trivial⟩ aS aK aK
       · rw[if_neg h2] at hb
         subst hb
         rw[show inB w.fam 0 9=false by simpa using h2] at hrn
         repeat' (first
          | with_reducible refine Rd.p ?_
          | (refine w_ixP (f:=fun w:Wd=>[AV.str w.name,.int .i64 w.fam]) hl rfl rfl ?_)
          | with_reducible (first|refine zI fun y hy=>?_|refine zL ?_|refine zS ?_|refine zV ?_|refine zC ?_)
          | ((with_reducible refine aC ?_);first|(refine ACall.val hrn rfl rfl ?_))
          | refine aX ?_|with_reducible intro _
          | with_reducible refine zJ ?_ fun y hy=>?_|refine aP ?_ ?_)
         all_goals first
          | (exfalso;omega)
          | rfl
     | cons y p2=>
       simp only[List.length_cons] at hpl
       have hl2:ws=p1++y::(p2++w::post):=by rw[hl,hp];simp
       by_cases hy:y.name=w.name
       · have hany:pre.any (fun x=>decide (x.name=w.name))=true:=by rw[hp];simp[hy]
         rw[if_pos hany] at hb
         subst hb
         repeat' (first
          | with_reducible refine Rd.p ?_
          | (first|refine w_ixP (f:=fun w:Wd=>[AV.str w.name,.int .i64 w.fam]) hl rfl rfl ?_|refine w_ixP (f:=fun w:Wd=>[AV.str w.name,.int .i64 w.fam]) hl2 rfl rfl ?_)
          | with_reducible (first|refine zI fun y hy=>?_|refine zL ?_|refine zS ?_|refine zV ?_|refine zC ?_)
          | refine aX ?_|with_reducible intro _
          | with_reducible refine zJ ?_ fun y hy=>?_|refine aP ?_ ?_)
         all_goals first
          | (exfalso;omega)
          | (rename_i hne;exact absurd hy hne)
          | rfl
       · repeat' (first
          | with_reducible refine Rd.p ?_
          | (first|refine w_ixP (f:=fun w:Wd=>[AV.str w.name,.int .i64 w.fam]) hl rfl rfl ?_|refine w_ixP (f:=fun w:Wd=>[AV.str w.name,.int .i64 w.fam]) hl2 rfl rfl ?_)
          | with_reducible (first|refine zI fun y hy=>?_|refine zL ?_|refine zS ?_|refine zV ?_|refine zC ?_)
          | refine aX ?_|with_reducible intro _
          | with_reducible refine zJ ?_ fun y hy=>?_|refine aP ?_ ?_)
         all_goals first
          | (exfalso;omega)
          | (rename_i hne;exact absurd hne hy)
          | exact q_loop (p1++[y],p2) ⟨by show pre=_;rw[hp];simp,by show (p1++[y]).any _=false;rw[List.any_append,ha];simp[hy]⟩ (Nat.lt_succ_self _) ⟨by rw[len_snoc];rfl,trivial⟩ aS aK aK
   · rw[if_neg h1] at hb
     subst hb
     rw[show namedB w.name=false by simpa using h1] at hnm
     repeat' (first
      | with_reducible refine Rd.p ?_
      | (refine w_ixP (f:=fun w:Wd=>[AV.str w.name,.int .i64 w.fam]) hl rfl rfl ?_)
      | with_reducible (first|refine zI fun y hy=>?_|refine zL ?_|refine zS ?_|refine zV ?_|refine zC ?_)
      | ((with_reducible refine aC ?_);first|(refine ACall.val hnm rfl rfl ?_))
      | refine aX ?_|with_reducible intro _
      | with_reducible refine zJ ?_ fun y hy=>?_|refine aP ?_ ?_)
     all_goals first
      | (exfalso;omega)
      | rfl
def ir63:IFn:=
 ⟨50,[(2,none)],(.seq (.ops [oo 1 (.box 5 0),oo 2 (.mov (kB false))])
 (.seq (.ops [oo 3 (.mov (kB true)),oo 4 (.mov (kB false)),oo 5 (.mov (kB false)),oo 6 (.mov (kB false))])
 (.seq (.seq (.ops [oo 7 (.flA 0 1),oo 8 (.ld 1 false 7)])
 (.blk 0 (.seq (.seq (.ops [oo 10 (.bin .eql 8 (kI 1)),oo 9 (.mov 10)])
 (.cnd 9
 .skip
 (.ops [oo 11 (.bin .eql 8 (kI 6)),oo 9 (.mov 11)])))
 (.cnd 9
 (.ops [oo 3 (.mov (kB false)),oo 5 (.mov (kB true))])
 (.seq (.ops [oo 13 (.bin .eql 8 (kI 2)),oo 12 (.mov 13)])
 (.cnd 12
 (.ops [oo 5 (.mov (kB true)),oo 6 (.mov (kB true))])
 (.seq (.ops [oo 15 (.bin .eql 8 (kI 3)),oo 14 (.mov 15)])
 (.cnd 14
 (.ops [oo 4 (.mov (kB true))])
 (.ops [oo 6 (.mov (kB true))])))))))))
 (.seq (.ops [oo 16 (.mov 3),oo 17 (.not 16),oo 18 (.mov 17),
 ⟨(some 19),(some (18,true)),(.flA 1 1)⟩,
 ⟨(some 20),(some (18,true)),(.ld 1 false 19)⟩,
 ⟨(some 21),(some (18,true)),(.bin .neq 20 (kI 0))⟩,oo 22 (.pick 18 21 (kB false)),oo 23 (.mov 22),
 ⟨(some 24),(some (23,false)),(.mov 4)⟩,
 ⟨(some 25),(some (23,false)),(.not 24)⟩,
 ⟨(some 26),(some (23,false)),(.mov 25)⟩,
 ⟨(some 27),(some (26,true)),(.flA 2 1)⟩,
 ⟨(some 28),(some (26,true)),(.ld 1 false 27)⟩,
 ⟨(some 29),(some (26,true)),(.bin .neq 28 (kI 0))⟩,
 ⟨(some 30),(some (23,false)),(.pick 26 29 (kB false))⟩,oo 31 (.pick 23 (kB true) 30),oo 32 (.mov 31),
 ⟨(some 33),(some (32,false)),(.mov 5)⟩,
 ⟨(some 34),(some (32,false)),(.not 33)⟩,
 ⟨(some 35),(some (32,false)),(.mov 34)⟩,
 ⟨(some 36),(some (35,true)),(.flA 3 1)⟩,
 ⟨(some 37),(some (35,true)),(.ld 1 false 36)⟩,
 ⟨(some 38),(some (35,true)),(.bin .neq 37 (kI 0))⟩,
 ⟨(some 39),(some (32,false)),(.pick 35 38 (kB false))⟩,oo 40 (.pick 32 (kB true) 39),oo 41 (.mov 40),
 ⟨(some 42),(some (41,false)),(.mov 6)⟩,
 ⟨(some 43),(some (41,false)),(.not 42)⟩,
 ⟨(some 44),(some (41,false)),(.mov 43)⟩,
 ⟨(some 45),(some (44,true)),(.flA 4 1)⟩,
 ⟨(some 46),(some (44,true)),(.ld 1 false 45)⟩,
 ⟨(some 47),(some (44,true)),(.bin .neq 46 (kI 0))⟩,
 ⟨(some 48),(some (41,false)),(.pick 44 47 (kB false))⟩,oo 49 (.pick 41 (kB true) 48),oo 2 (.mov 49)])
 .ret))))⟩
def hint63 (P:Program):Hint:={}
theorem needless_c (d:Dl) (hk:inB d.kind 1 6=true):Fn0 Tryz.prog 63 [dlA d] (fun v=>v= .bool (!formD d)):=by
 obtain⟨k1,k2⟩:=inB_ex hk
 obtain⟨kind,bag,other,wood,count⟩:=d
 dsimp only at k1 k2
 have hc:kind=1∨kind=2∨kind=3∨kind=4∨kind=5∨kind=6:=by omega
 clear hk k1 k2
 rcases hc with rfl|rfl|rfl|rfl|rfl|rfl
 all_goals
  refine RawC.walk (H:=hint63 Tryz.prog) ir63 Tryz.func63 rfl rfl rfl ?_
  unfold ir63
  repeat' (first
   | with_reducible refine Rd.p ?_
   | with_reducible (first|refine zL ?_|refine zS ?_|refine zV ?_|refine zC ?_)
   | refine aX ?_|with_reducible intro _
   | refine aP ?_ ?_)
 all_goals first
  | (exfalso;simp at*;done)
  | (refine congrArg AV.bool ?_;simp_all [formD];done)
  | (refine congrArg AV.bool ?_;rw[Bool.eq_iff_iff];simp_all [formD];done)
  | (refine congrArg AV.bool ?_;rw[Bool.eq_iff_iff];simp_all [formD];omega)
def trV (s:Nat) (tr:List Int) (h:Nat):AV:=match tr with
 | []=> .nsl
 | _::_=> .slc 1 (iR tr) (.own s h)
def trS (tr:List Int) (h:Nat):Nat×Res:=match tr with
 | []=>(0,.dead)
 | _::_=>(h,.row [])
def rtRow (t:Tb) (x:AV):List AV:=t.bags.map (AV.int .i64)++[.int .i64 t.mixed,.int .i64 t.cens,x]
def tbS (s g:Nat) (t:Tb) (tr:List Int) (h:Nat):List (Nat×(Nat×Res)):=[(1000,(g,.row (rtRow t (trV s tr h)))),(s,trS tr h)]
theorem rt_get {t:Tb} {x:AV} (hb:t.bags.length=4) (k:Nat):(rtRow t x)[k]?=if k<4 then (t.bags[k]?).map (AV.int .i64) else[AV.int .i64 t.mixed,.int .i64 t.cens,x][k-4]?:=by
 unfold rtRow
 have hl:(t.bags.map (AV.int .i64)).length=4:=by rw[List.length_map,hb]
 by_cases h:k<4
 · rw[if_pos h,List.getElem?_append_left (by omega),List.getElem?_map]
 · rw[if_neg h,List.getElem?_append_right (by omega),hl]
theorem rt_len {t:Tb} {x:AV} (hb:t.bags.length=4):(rtRow t x).length=7:=by unfold rtRow;simp[hb]
theorem rt_bag {t:Tb} {x:AV} (hb:t.bags.length=4) {k:Nat} (hk:k<4):(rtRow t x)[k]?=some (.int .i64 (t.bags.getD k 0)):=by
 rw[rt_get hb,if_pos hk,List.getD_eq_getElem?_getD,List.getElem?_eq_getElem (by omega)];rfl
theorem rt_setB {t:Tb} {x:AV} (hb:t.bags.length=4) {k:Nat} (hk:k<4) (v:Int):(rtRow t x).set k (.int .i64 v)=rtRow {t with bags:=t.bags.set k v } x:=by
 unfold rtRow
 rw[List.set_append_left _ _ (by rw[List.length_map];omega),←List.map_set]
theorem rt_setM {t:Tb} {x:AV} (hb:t.bags.length=4) (v:Int):(rtRow t x).set 4 (.int .i64 v)=rtRow {t with mixed:=v } x:=by
 unfold rtRow
 rw[List.set_append_right _ _ (by rw[List.length_map];omega),List.length_map,hb];rfl
theorem rt_setC {t:Tb} {x:AV} (hb:t.bags.length=4) (v:Int):(rtRow t x).set 5 (.int .i64 v)=rtRow {t with cens:=v } x:=by
 unfold rtRow
 rw[List.set_append_right _ _ (by rw[List.length_map];omega),List.length_map,hb];rfl
theorem rt_setT {t:Tb} {x:AV} (hb:t.bags.length=4) (y:AV):(rtRow t x).set 6 y=rtRow t y:=by
 unfold rtRow
 rw[List.set_append_right _ _ (by rw[List.length_map];omega),List.length_map,hb];rfl
section
variable {P:Program} {K:(Nat→AV)→Sig→Prop} {e:Nat→AV} {σ:Sig} {x v:IOpd} {r:List IStep} {t:Tb} {g i d off w:Nat} {y:AV} {b:Int}
theorem w_rtB (hx:x.ev e= .ref i g off) (ho:off=w) (hσ:σ i=(g,.row (rtRow t y))) (hb:t.bags.length=4) (hw:w<4) (hv:t.bags.getD w 0=b) (hk:stepsW P r K (upd e d (.int .i64 b)) σ):stepsW P (⟨some d,none,.ld 1 false x⟩::r) K e σ:=
 w_ldAt hx hσ (by rw[ho,←hv];exact rt_bag hb hw) rfl hk
theorem w_rtM (hx:x.ev e= .ref i g off) (ho:off=4) (hσ:σ i=(g,.row (rtRow t y))) (hb:t.bags.length=4) (hk:stepsW P r K (upd e d (.int .i64 t.mixed)) σ):stepsW P (⟨some d,none,.ld 1 false x⟩::r) K e σ:=
 w_ldAt hx hσ (by rw[ho,rt_get hb];rfl) rfl hk
theorem w_rtC (hx:x.ev e= .ref i g off) (ho:off=5) (hσ:σ i=(g,.row (rtRow t y))) (hb:t.bags.length=4) (hk:stepsW P r K (upd e d (.int .i64 t.cens)) σ):stepsW P (⟨some d,none,.ld 1 false x⟩::r) K e σ:=
 w_ldAt hx hσ (by rw[ho,rt_get hb];rfl) rfl hk
theorem w_rtT (hx:x.ev e= .ref i g off) (ho:off=6) (hσ:σ i=(g,.row (rtRow t y))) (hb:t.bags.length=4) (hv:forceA y=some y) (hk:stepsW P r K (upd e d y) σ):stepsW P (⟨some d,none,.ld 1 false x⟩::r) K e σ:=
 w_ldAt hx hσ (by rw[ho,rt_get hb];rfl) hv hk
theorem w_rtSB (hx:x.ev e= .ref i g off) (ho:off=w) (hv:v.ev e= .int .i64 b) (hσ:σ i=(g,.row (rtRow t y))) (hb:t.bags.length=4) (hw:w<4) (hk:stepsW P r K e (upd σ i (g,.row (rtRow {t with bags:=t.bags.set w b } y)))):stepsW P (⟨none,none,.st 1 x v⟩::r) K e σ:=by
 refine w_stAt (a:= .int .i64 b) hx hσ (by rw[hv];rfl) (by rw[rt_len hb];omega) ?_
 rw[ho,rt_setB hb hw];exact hk
theorem w_rtSM (hx:x.ev e= .ref i g off) (ho:off=4) (hv:v.ev e= .int .i64 b) (hσ:σ i=(g,.row (rtRow t y))) (hb:t.bags.length=4) (hk:stepsW P r K e (upd σ i (g,.row (rtRow {t with mixed:=b } y)))):stepsW P (⟨none,none,.st 1 x v⟩::r) K e σ:=by
 refine w_stAt (a:= .int .i64 b) hx hσ (by rw[hv];rfl) (by rw[rt_len hb];omega) ?_
 rw[ho,rt_setM hb];exact hk
theorem w_rtSC (hx:x.ev e= .ref i g off) (ho:off=5) (hv:v.ev e= .int .i64 b) (hσ:σ i=(g,.row (rtRow t y))) (hb:t.bags.length=4) (hk:stepsW P r K e (upd σ i (g,.row (rtRow {t with cens:=b } y)))):stepsW P (⟨none,none,.st 1 x v⟩::r) K e σ:=by
 refine w_stAt (a:= .int .i64 b) hx hσ (by rw[hv];rfl) (by rw[rt_len hb];omega) ?_
 rw[ho,rt_setC hb];exact hk
theorem w_rtST {z:AV} (hx:x.ev e= .ref i g off) (ho:off=6) (hv:cellsO 1 (v.ev e)=some (1=1,[z])) (hσ:σ i=(g,.row (rtRow t y))) (hb:t.bags.length=4) (hk:stepsW P r K e (upd σ i (g,.row (rtRow t z)))):stepsW P (⟨none,none,.st 1 x v⟩::r) K e σ:=by
 refine w_stAt (a:=z) hx hσ hv (by rw[rt_len hb];omega) ?_
 rw[ho,rt_setT hb];exact hk
end
theorem renL_rt (ρ:List (Nat×Nat)) (t:Tb) (x:AV):renL ρ (rtRow t x)=rtRow t (ren ρ x):=by
 unfold rtRow
 rw[renL_app2,renL_nI];rfl
theorem ren_trV {ρ:List (Nat×Nat)} {s q:Nat} (h:lk ρ s=some q) (tr:List Int) (g:Nat):ren ρ (trV s tr g)=trV q tr g:=by
 cases tr with
 | nil=>rfl
 | cons x r=>
   show AV.slc 1 (iR (x::r)) (renT ρ (.own s g))=_
   simp only[renT,h];rfl
theorem upd_comm {σ:Sig} {p q:Nat} {x y:Nat×Res} (h:p≠q):upd (upd σ p x) q y=upd (upd σ q y) p x:=by
 funext j
 simp only[upd_eq]
 by_cases h1:j=q
 · subst h1;rw[if_pos rfl,if_neg (fun e=>h e.symm),if_pos rfl]
 · rw[if_neg h1,if_neg h1]
theorem ACall.tab {P:Program} {f:Nat} {args0 args:List AV} {s0 p q g h0 d:Nat} {t:Tb} {tr:List Int} {α:Type} {V:α→AV→Prop} {T:α→Tb} {R:α→List Int} {H:α→Nat} {σ:Sig} {Q:AV→Sig→Prop}
  (h:RawC P f args0 (sg (tbS s0 g t tr h0)) (SR V (fun x=>tbS s0 g (T x) (R x) (H x)))) (hs0:Nat.beq 1000 s0=false) (hq:Nat.ble YS q=true) (hpq:Nat.beq p q=false)
  (hr1:renOK [(s0,q),(1000,p)]=true) (hr2:renOK [(1000,p),(s0,q)]=true) (ha1:args0=renL (flipL [(1000,p)]) args) (ha2:args0=renL (flipL [(1000,p),(s0,q)]) args)
  (hp:σ p=(g,.row (rtRow t (trV q tr h0)))) (hσq:σ q=trS tr h0)
  (hQ:∀x av,V x av→ren [(s0,q),(1000,p)] av=av→ren [(1000,p),(s0,q)] av=av→Q av (upd (upd σ q (trS (R x) (H x))) p (g,.row (rtRow (T x) (trV q (R x) (H x)))))) (hV:∀x av,V x av→ ∃n,av= .int .i64 n):ACall P f args σ d Q:=by
 have hne:p≠q:=fun e=>by rw[e] at hpq;simp at hpq
 have hs1:s0≠1000:=fun e=>by rw[e] at hs0;simp at hs0
 have hqp:Nat.beq q p=false:=by
  cases h:Nat.beq q p with
  | false=>rfl
  | true=>exact absurd (nbeq.1 h).symm hne
 have hs2:Nat.beq s0 1000=false:=by
  cases h:Nat.beq s0 1000 with
  | false=>rfl
  | true=>exact absurd (nbeq.1 h) hs1
 cases tr with
 | nil=>
   have e0:sg (tbS s0 g t [] h0)=sg [(1000,(g,.row (rtRow t .nsl)))]:=by
    funext j
    show (match Nat.beq 1000 j with | true=>_ | false=>(match Nat.beq s0 j with | true=>((0,Res.dead):Nat×Res) | false=>(0,.dead)))=(match Nat.beq 1000 j with | true=>_ | false=>_)
    split
    · rfl
    · split<;>rfl
   rw[e0] at h
   refine ACall.liftN h [(1000,p)] [(s0,q)] (by simp[outsB,hq]) hr1 ha1 ?_ ⟨⟨_,by rw[hp]⟩,trivial⟩ fun av σ0' hR=>?_
   · show _=[(1000,((σ p).1,renR _ (σ p).2))]
     rw[hp]
     simp only[renR,renL_rt];rfl
   · obtain⟨x,hv,hsl⟩:=hR
     obtain⟨k1,k2,-⟩:=hsl
     obtain⟨n,rfl⟩:=hV x av hv
     have l1:lk [(s0,q),(1000,p)] s0=some q:=by simp[lk]
     show Q (.int .i64 n) (upd (upd σ p ((σ0' 1000).1,renR [(s0,q),(1000,p)] (σ0' 1000).2)) q ((σ0' s0).1,renR [(s0,q),(1000,p)] (σ0' s0).2))
     have e1:((trS (R x) (H x)).1,renR [(s0,q),(1000,p)] (trS (R x) (H x)).2)=trS (R x) (H x):=by
      cases R x<;>rfl
     rw[k1,k2,e1]
     simp only[renR,renL_rt,ren_trV l1]
     rw[upd_comm hne]
     exact hQ x _ hv rfl rfl
 | cons c cs=>
   refine ACall.liftN h [(1000,p),(s0,q)] [] rfl hr2 ha2 ?_ ⟨⟨_,by rw[hp]⟩,⟨[],by rw[hσq];rfl⟩,trivial⟩ fun av σ0' hR=>?_
   · show _=[(1000,((σ p).1,renR (flipL [(1000,p),(s0,q)]) (σ p).2)),(s0,((σ q).1,renR (flipL [(1000,p),(s0,q)]) (σ q).2))]
     have l2:lk (flipL [(1000,p),(s0,q)]) q=some s0:=by simp[flipL,lk,hpq]
     rw[hp,hσq]
     simp only[renR,renL_rt,ren_trV l2,tbS];rfl
   · obtain⟨x,hv,hsl⟩:=hR
     obtain⟨k1,k2,-⟩:=hsl
     obtain⟨n,rfl⟩:=hV x av hv
     have l1:lk [(1000,p),(s0,q)] s0=some q:=by simp[lk,hs0]
     show Q (.int .i64 n) (upd (upd σ q ((σ0' s0).1,renR [(1000,p),(s0,q)] (σ0' s0).2)) p ((σ0' 1000).1,renR [(1000,p),(s0,q)] (σ0' 1000).2))
     have e1:((trS (R x) (H x)).1,renR [(1000,p),(s0,q)] (trS (R x) (H x)).2)=trS (R x) (H x):=by
      cases R x<;>rfl
     rw[k1,k2,e1]
     simp only[renR,renL_rt,ren_trV l1]
     exact hQ x _ hv rfl rfl
def ir98:IFn:=
 ⟨53,[(6,none)],(.seq (.ops [oo 4 (.box 2 1),oo 5 (.box 5 2),oo 6 (.mov (kI 0))])
 (.seq (.seq (.ops [oo 7 (.flA 3 5),oo 8 (.ld 1 false 7),oo 9 (.flA 0 4),oo 10 (.ld 1 false 9),oo 11 (.len false 10),oo 12 (.bin .sub 11 (kI 1)),oo 13 (.callF 32 [8,(kI 0),12]),oo 14 (.not 13)])
 (.cnd 14
 (.seq (.ops [oo 6 (.mov (kI 7))])
 .ret)
 .skip))
 (.seq (.seq (.ops [oo 15 (.flA 4 5),oo 16 (.ld 1 false 15),oo 17 (.callF 32 [16,(kI 1),(kI 12)]),oo 18 (.not 17)])
 (.cnd 18
 (.seq (.ops [oo 6 (.mov (kI 2))])
 .ret)
 .skip))
 (.seq (.seq (.ops [oo 19 (.mov 0),oo 20 (.nck 19),oo 21 (.flA 4 20),oo 22 (.ld 1 false 21),oo 23 (.flA 4 5),oo 24 (.ld 1 false 23),oo 25 (.bin .add 22 24),oo 26 (.bin .gtr 25 (kI 12))])
 (.cnd 26
 (.seq (.ops [oo 6 (.mov (kI 8))])
 .ret)
 .skip))
 (.seq (.ops [oo 27 (.mov 0),oo 28 (.mov 0),oo 29 (.flA 1 5),oo 30 (.ld 1 false 29),oo 31 (.mov 0),oo 32 (.nck 31),oo 33 (.flA 4 32),oo 34 (.ld 1 false 33),oo 35 (.flA 4 5),oo 36 (.ld 1 false 35),oo 37 (.bin .add 34 36),oo 38 (.mov 0),oo 39 (.flA 1 5),oo 40 (.ld 1 false 39),oo 41 (.nck 38),oo 42 (.flA 0 41),oo 43 (.ixAr 4 1 42 40),oo 44 (.ld 1 false 43),oo 45 (.flA 4 5),oo 46 (.ld 1 false 45),oo 47 (.bin .add 44 46),oo 48 (.nck 27),oo 49 (.flA 4 48),oo 50 (.nck 28),oo 51 (.flA 0 50),
 ⟨none,none,(.st 1 49 37)⟩,
 ⟨none,none,(.chk 1 false 29 30)⟩,
 ⟨none,none,(.chk 1 false 45 46)⟩,oo 52 (.ixAr 4 1 51 30),
 ⟨none,none,(.st 1 52 47)⟩])
 (.seq (.ops [oo 6 (.mov (kI 0))])
 .ret))))))⟩
def hint98 (P:Program):Hint:={}
theorem rmix_c (G:Gm) (d:Dl) (g h:Nat) (t:Tb) (tr:List Int) (hn:1≤G.ws.length∧G.ws.length≤6) (ht:tbOK t) (hbg:inB d.bag 0 3=true):
  RawC Tryz.prog 98 [.ref 1000 g 0,gmA G,dlA d] (sg (tbS 1001 g t tr h)) (SR (fun (y:Tb) v=>v= .int .i64 (mixE G.ws.length d t)∧(mixE G.ws.length d t=0→y={t with mixed:=t.mixed+d.count,bags:=setI t.bags d.bag (atI t.bags d.bag+d.count) })) (fun y=>tbS 1001 g y tr h)):=by
 have hb:=ht.b
 have h1:=rin_c d.wood 0 (G.ws.length-1)
 have h2:=rin_c d.count 1 12
 have hbi:=inB_t.1 hbg
 have hb4:d.bag.toNat<4:=by omega
 have hat:=ht.at hb4
 have hm:=ht.m
 have hat2:0≤t.bags.getD d.bag.toNat 0∧t.bags.getD d.bag.toNat 0≤12:=hat
 obtain⟨E,hE⟩:∃E,mixE G.ws.length d t=E:=⟨_,rfl⟩
 rw[hE]
 unfold mixE at hE
 rw[if_pos hbg] at hE
 by_cases e1:inB d.wood 0 (G.ws.length-1)=true
 rotate_left
 · rw[if_neg e1] at hE
   subst hE
   rw[show inB d.wood 0 (G.ws.length-1)=false by simpa using e1] at h1
   refine RawC.walk (H:=hint98 Tryz.prog) ir98 Tryz.func98 rfl rfl rfl ?_
   unfold ir98
   repeat' (first
    | with_reducible refine Rd.p ?_
    | with_reducible (first|refine zL ?_|refine zS ?_|refine zV ?_|refine zC ?_)
    | ((with_reducible refine aC ?_);first|(refine ACall.val h1 rfl rfl ?_))
    | refine aX ?_|with_reducible intro _
    | refine aP ?_ ?_)
   all_goals first
    | (exfalso;omega)
    | exact⟨t,⟨rfl,fun h=>absurd h (by decide)⟩,rfl,rfl,trivial⟩
 rw[if_pos e1] at hE
 rw[e1] at h1
 by_cases e2:inB d.count 1 12=true
 rotate_left
 · rw[if_neg e2] at hE
   subst hE
   rw[show inB d.count 1 12=false by simpa using e2] at h2
   refine RawC.walk (H:=hint98 Tryz.prog) ir98 Tryz.func98 rfl rfl rfl ?_
   unfold ir98
   repeat' (first
    | with_reducible refine Rd.p ?_
    | with_reducible (first|refine zL ?_|refine zS ?_|refine zV ?_|refine zC ?_)
    | ((with_reducible refine aC ?_);first|(refine ACall.val h1 rfl rfl ?_)|(refine ACall.val h2 rfl rfl ?_))
    | refine aX ?_|with_reducible intro _
    | refine aP ?_ ?_)
   all_goals first
    | (exfalso;omega)
    | exact⟨t,⟨rfl,fun h=>absurd h (by decide)⟩,rfl,rfl,trivial⟩
 rw[if_pos e2] at hE
 rw[e2] at h2
 have hc:=inB_t.1 e2
 by_cases e3:12<t.mixed+d.count
 · rw[if_pos e3] at hE
   subst hE
   refine RawC.walk (H:=hint98 Tryz.prog) ir98 Tryz.func98 rfl rfl rfl ?_
   unfold ir98
   repeat' (first
    | with_reducible refine Rd.p ?_
    | (first|refine w_rtM rfl rfl rfl hb ?_)
    | with_reducible (first|refine zL ?_|refine zS ?_|refine zV ?_|refine zC ?_)
    | ((with_reducible refine aC ?_);first|(refine ACall.val h1 rfl rfl ?_)|(refine ACall.val h2 rfl rfl ?_))
    | refine aX ?_|with_reducible intro _
    | refine aP ?_ ?_)
   all_goals first
    | (exfalso;omega)
    | exact⟨t,⟨rfl,fun h=>absurd h (by decide)⟩,rfl,rfl,trivial⟩
 · rw[if_neg e3] at hE
   subst hE
   refine RawC.walk (H:=hint98 Tryz.prog) ir98 Tryz.func98 rfl rfl rfl ?_
   unfold ir98
   repeat' (first
    | with_reducible refine Rd.p ?_
    | (first|refine w_rtM rfl rfl rfl hb ?_|refine w_rtB (w:=d.bag.toNat) rfl (by omega) rfl hb hb4 rfl ?_|refine w_rtSM rfl rfl rfl rfl hb ?_|refine w_rtSB (w:=d.bag.toNat) rfl (by omega) rfl rfl hb hb4 ?_)
    | with_reducible (first|refine zL ?_|refine zS ?_|refine zV ?_|refine zC ?_)
    | ((with_reducible refine aC ?_);first|(refine ACall.val h1 rfl rfl ?_)|(refine ACall.val h2 rfl rfl ?_))
    | refine aX ?_|with_reducible intro _
    | refine aP ?_ ?_)
   all_goals first
    | (exfalso;omega)
    | exact⟨_,⟨rfl,fun _=>rfl⟩,rfl,rfl,trivial⟩
def ir97:IFn:=
 ⟨46,[(6,none)],(.seq (.ops [oo 4 (.box 2 1),oo 5 (.box 5 2),oo 6 (.mov (kI 0))])
 (.seq (.seq (.ops [oo 8 (.flA 3 5),oo 9 (.ld 1 false 8),oo 10 (.flA 0 4),oo 11 (.ld 1 false 10),oo 12 (.len false 11),oo 13 (.bin .sub 12 (kI 1)),oo 14 (.callF 32 [9,(kI 0),13]),oo 15 (.not 14)])
 (.cnd 15
 (.seq (.ops [oo 6 (.mov (kI 7))])
 .ret)
 .skip))
 (.seq (.seq (.ops [oo 7 (.mov (kI 0))])
 (.blk 0 (.loop (.seq (.seq (.ops [oo 16 (.mov 7),oo 17 (.mov 0),oo 18 (.nck 17),oo 19 (.flA 6 18),oo 20 (.ld 1 false 19),oo 21 (.len false 20),oo 22 (.bin .lss 16 21)])
 (.cnd 22
 .skip
 (.exit 0)))
 (.seq (.blk 1 (.seq (.ops [oo 25 (.mov 0),oo 26 (.nck 25),oo 27 (.flA 6 26),oo 28 (.ld 1 false 27),oo 29 (.mov 7),oo 30 (.ixA 1 28 29),oo 31 (.ld 1 false 30),oo 32 (.flA 3 5),oo 33 (.ld 1 false 32),oo 34 (.bin .eql 31 33)])
 (.cnd 34
 (.seq (.ops [oo 6 (.mov (kI 9))])
 .ret)
 .skip)))
 (.ops [oo 23 (.mov 7),oo 24 (.bin .add 23 (kI 1)),oo 7 (.mov 24)]))))))
 (.seq (.ops [oo 35 (.mov 0),oo 36 (.mov 0),oo 37 (.nck 36),oo 38 (.flA 6 37),oo 39 (.ld 1 false 38),oo 40 (.flA 3 5),oo 41 (.ld 1 false 40),oo 42 (.bsl 1 [[(.int .i64 0)]] [(0,41)]),oo 43 (.app 1 8 39 42 1001),oo 44 (.nck 35),oo 45 (.flA 6 44),
 ⟨none,none,(.st 1 45 43)⟩])
 (.seq (.ops [oo 6 (.mov (kI 0))])
 .ret)))))⟩
def hint97 (P:Program):Hint:={site:=[(43,1001)],nils:=[],frz:=[],mve:=[],wr:=[] }
def trO (tr:List Int) (b:List Bool):Prop:=∀w:Nat,w<6→(b.getD w false=true↔(w:Int)∈tr)
theorem rtrial_c (G:Gm) (d:Dl) (g h:Nat) (t:Tb) (tr:List Int) (hn:1≤G.ws.length∧G.ws.length≤6) (ht:tbOK t) (hr:trO tr t.tried) (hl:tr.length≤1000):
  RawC Tryz.prog 97 [.ref 1000 g 0,gmA G,dlA d] (sg (tbS 1001 g t tr h)) (SR (fun (x:Tb×List Int×Nat) v=>v= .int .i64 (trialE G.ws.length d t)∧(trialE G.ws.length d t=0→x.1={t with tried:=t.tried.set d.wood.toNat true }∧trO x.2.1 (t.tried.set d.wood.toNat true)∧x.2.1.length=tr.length+1)) (fun x=>tbS 1001 g x.1 x.2.1 x.2.2)):=by
 have hb:=ht.b
 have hrn:=rin_c d.wood 0 (G.ws.length-1)
 obtain⟨E,hE⟩:∃E,trialE G.ws.length d t=E:=⟨_,rfl⟩
 rw[hE]
 unfold trialE at hE
 by_cases h1:inB d.wood 0 (G.ws.length-1)=true
 rotate_left
 · rw[if_neg h1] at hE
   subst hE
   rw[show inB d.wood 0 (G.ws.length-1)=false by simpa using h1] at hrn
   cases tr with
   | nil=>
     refine RawC.walk (H:=hint97 Tryz.prog) ir97 Tryz.func97 rfl rfl rfl ?_
     unfold ir97
     repeat' (first
      | with_reducible refine Rd.p ?_
      | with_reducible (first|refine zI fun y hy=>?_|refine zL ?_|refine zS ?_|refine zV ?_|refine zC ?_)
      | ((with_reducible refine aC ?_);first|(refine ACall.val hrn rfl rfl ?_))
      | refine aX ?_|with_reducible intro _
      | with_reducible refine zJ ?_ fun y hy=>?_|refine aP ?_ ?_)
     all_goals first
      | (exfalso;omega)
      | exact⟨(t,[],h),⟨rfl,fun h=>absurd h (by decide)⟩,rfl,rfl,trivial⟩
   | cons c0 cs=>
     refine RawC.walk (H:=hint97 Tryz.prog) ir97 Tryz.func97 rfl rfl rfl ?_
     unfold ir97
     repeat' (first
      | with_reducible refine Rd.p ?_
      | with_reducible (first|refine zI fun y hy=>?_|refine zL ?_|refine zS ?_|refine zV ?_|refine zC ?_)
      | ((with_reducible refine aC ?_);first|(refine ACall.val hrn rfl rfl ?_))
      | refine aX ?_|with_reducible intro _
      | with_reducible refine zJ ?_ fun y hy=>?_|refine aP ?_ ?_)
     all_goals first
      | (exfalso;omega)
      | exact⟨(t,c0::cs,h),⟨rfl,fun h=>absurd h (by decide)⟩,rfl,rfl,trivial⟩
 rw[if_pos h1] at hE
 rw[h1] at hrn
 have hw:=inB_t.1 h1
 have hw6:d.wood.toNat<6:=by omega
 have hrw:=hr d.wood.toNat hw6
 rw[show ((d.wood.toNat:Nat):Int)=d.wood by omega] at hrw
 have hadd:¬d.wood∈tr→trO (tr++[d.wood]) (t.tried.set d.wood.toNat true):=fun hnot w hw'=>by
  have hlen:=ht.r
  rw[List.getD_eq_getElem?_getD,List.getElem?_set]
  by_cases e:d.wood.toNat=w
  · rw[if_pos e,if_pos (by omega)]
    have:(w:Int)=d.wood:=by omega
    rw[this];simp
  · rw[if_neg e,←List.getD_eq_getElem?_getD,hr w hw']
    have:¬(w:Int)=d.wood:=by omega
    simp[this]
 cases tr with
 | nil=>
   rw[if_neg (fun h=>by have:=hrw.1 h;cases this)] at hE
   subst hE
   refine RawC.walk (H:=hint97 Tryz.prog) ir97 Tryz.func97 rfl rfl rfl ?_
   unfold ir97
   repeat' (first
    | with_reducible refine Rd.p ?_
    | with_reducible (first|refine zI fun y hy=>?_|refine zL ?_|refine zS ?_|refine zV ?_|refine zC ?_)
    | ((with_reducible refine aC ?_);first|(refine ACall.val hrn rfl rfl ?_))
    | refine aX ?_|with_reducible intro _
    | with_reducible refine zJ ?_ fun y hy=>?_|refine aP ?_ ?_)
   all_goals try (exfalso;omega)
   refine w_loopK [0,5] [5,1000] (fun _:Unit=>True) (fun _=>0) (fun _=>[(7,.int .i64 0)]) (fun _=>[]) () trivial ⟨rfl,trivial⟩ trivial ?_
   rintro⟨⟩ _ e σ
   repeat' (first
    | with_reducible refine Rd.p ?_
    | (first|refine w_rtT rfl rfl rfl hb rfl ?_|refine w_rtST rfl rfl rfl rfl hb ?_)
    | with_reducible (first|refine zI fun y hy=>?_|refine zL ?_|refine zS ?_|refine zV ?_|refine zC ?_)
    | refine aX ?_|with_reducible intro _
    | with_reducible refine zJ ?_ fun y hy=>?_|refine aP ?_ ?_)
   all_goals try (exfalso;omega)
   rename_i g2
   exact⟨({t with tried:=t.tried.set d.wood.toNat true },[d.wood],g2),⟨rfl,fun _=>⟨rfl,hadd (by simp),rfl⟩⟩,rfl,rfl,trivial⟩
 | cons c0 cs=>
   have hcl:(iR (c0::cs)).length=(c0::cs).length:=List.length_map _
   have hcl2:(c0::cs).length=cs.length+1:=rfl
   by_cases hm:d.wood∈c0::cs
   · rw[if_pos (hrw.2 hm)] at hE
     subst hE
     refine RawC.walk (H:=hint97 Tryz.prog) ir97 Tryz.func97 rfl rfl rfl ?_
     unfold ir97
     repeat' (first
      | with_reducible refine Rd.p ?_
      | with_reducible (first|refine zI fun y hy=>?_|refine zL ?_|refine zS ?_|refine zV ?_|refine zC ?_)
      | ((with_reducible refine aC ?_);first|(refine ACall.val hrn rfl rfl ?_))
      | refine aX ?_|with_reducible intro _
      | with_reducible refine zJ ?_ fun y hy=>?_|refine aP ?_ ?_)
     all_goals try (exfalso;omega)
     refine w_loopK [0,5] [5,1000,1001] (fun x:List Int×List Int=>c0::cs=x.1++x.2∧ ¬d.wood∈x.1) (fun x=>x.2.length) (fun x=>[(7,.int .i64 (x.1.length:Int))]) (fun _=>[]) ([],c0::cs) ⟨rfl,by simp⟩ ⟨rfl,trivial⟩ trivial ?_
     rintro⟨pre,post⟩ ⟨hp,hq⟩ e σ
     dsimp only at hp hq ⊢
     have hlen:=congrArg List.length hp
     rw[List.length_append] at hlen
     cases post with
     | nil=>exfalso;rw[hp,List.append_nil] at hm;exact hq hm
     | cons y post=>
       simp only[List.length_cons] at hlen
       by_cases hy:y=d.wood
       · repeat' (first
          | with_reducible refine Rd.p ?_
          | (first|refine w_rtT rfl rfl rfl hb rfl ?_|refine w_ixP hp rfl rfl ?_)
          | with_reducible (first|refine zI fun y hy=>?_|refine zL ?_|refine zS ?_|refine zV ?_|refine zC ?_)
          | refine aX ?_|with_reducible intro _
          | with_reducible refine zJ ?_ fun y hy=>?_|refine aP ?_ ?_)
         all_goals first
          | (exfalso;omega)
          | exact⟨(t,c0::cs,h),⟨rfl,fun h=>absurd h (by decide)⟩,rfl,rfl,trivial⟩
       · repeat' (first
          | with_reducible refine Rd.p ?_
          | (first|refine w_rtT rfl rfl rfl hb rfl ?_|refine w_ixP hp rfl rfl ?_)
          | with_reducible (first|refine zI fun y hy=>?_|refine zL ?_|refine zS ?_|refine zV ?_|refine zC ?_)
          | refine aX ?_|with_reducible intro _
          | with_reducible refine zJ ?_ fun y hy=>?_|refine aP ?_ ?_)
         all_goals first
          | (exfalso;omega)
          | exact q_loop (pre++[y],post) ⟨by show c0::cs=_;rw[hp];simp,by show ¬d.wood∈pre++[y];simp[hq];exact fun e=>hy e.symm⟩ (Nat.lt_succ_self _) ⟨by rw[len_snoc];rfl,trivial⟩ aS aK aK
   · rw[if_neg (fun h=>hm (hrw.1 h))] at hE
     subst hE
     refine RawC.walk (H:=hint97 Tryz.prog) ir97 Tryz.func97 rfl rfl rfl ?_
     unfold ir97
     repeat' (first
      | with_reducible refine Rd.p ?_
      | with_reducible (first|refine zI fun y hy=>?_|refine zL ?_|refine zS ?_|refine zV ?_|refine zC ?_)
      | ((with_reducible refine aC ?_);first|(refine ACall.val hrn rfl rfl ?_))
      | refine aX ?_|with_reducible intro _
      | with_reducible refine zJ ?_ fun y hy=>?_|refine aP ?_ ?_)
     all_goals try (exfalso;omega)
     refine w_loopK [0,5] [5,1000,1001] (fun x:List Int×List Int=>c0::cs=x.1++x.2) (fun x=>x.2.length) (fun x=>[(7,.int .i64 (x.1.length:Int))]) (fun _=>[]) ([],c0::cs) rfl ⟨rfl,trivial⟩ trivial ?_
     rintro⟨pre,post⟩ hp e σ
     dsimp only at hp ⊢
     have hlen:=congrArg List.length hp
     rw[List.length_append] at hlen
     cases post with
     | nil=>
       simp only[List.length_nil] at hlen
       repeat' (first
        | with_reducible refine Rd.p ?_
        | (first|refine w_rtT rfl rfl rfl hb rfl ?_|refine w_rtST rfl rfl rfl rfl hb ?_)
        | with_reducible (first|refine zI fun y hy=>?_|refine zL ?_|refine zS ?_|refine zV ?_|refine zC ?_)
        | refine aX ?_|with_reducible intro _
        | with_reducible refine zJ ?_ fun y hy=>?_|refine aP ?_ ?_)
       all_goals try (exfalso;omega)
       rename_i g2
       exact⟨({t with tried:=t.tried.set d.wood.toNat true },c0::cs++[d.wood],g2),⟨rfl,fun _=>⟨rfl,hadd hm,len_snoc⟩⟩,rfl,rfl,trivial⟩
     | cons y post=>
       simp only[List.length_cons] at hlen
       have hy:¬y=d.wood:=fun e=>hm (by rw[hp,←e];simp)
       repeat' (first
        | with_reducible refine Rd.p ?_
        | (first|refine w_rtT rfl rfl rfl hb rfl ?_|refine w_ixP hp rfl rfl ?_)
        | with_reducible (first|refine zI fun y hy=>?_|refine zL ?_|refine zS ?_|refine zV ?_|refine zC ?_)
        | refine aX ?_|with_reducible intro _
        | with_reducible refine zJ ?_ fun y hy=>?_|refine aP ?_ ?_)
       all_goals first
        | (exfalso;omega)
        | exact q_loop (pre++[y],post) (by show c0::cs=_;rw[hp];simp) (Nat.lt_succ_self _) ⟨by rw[len_snoc];rfl,trivial⟩ aS aK aK
def ir64:IFn:=
 ⟨138,[(6,none)],(.seq (.ops [oo 4 (.box 2 1),oo 5 (.box 5 2),oo 6 (.mov (kI 0))])
 (.seq (.seq (.ops [oo 7 (.flA 0 5),oo 8 (.ld 1 false 7)])
 (.blk 0 (.seq (.ops [oo 10 (.bin .eql 8 (kI 1)),oo 9 (.mov 10)])
 (.cnd 9
 (.seq (.ops [oo 11 (.mov 0),oo 12 (.ld 2 true 4),oo 13 (.ld 5 true 5),oo 14 (.callF 97 [11,12,13]),oo 6 (.mov 14)])
 .ret)
 (.seq (.ops [oo 16 (.bin .eql 8 (kI 6)),oo 15 (.mov 16)])
 (.cnd 15
 (.seq (.seq (.ops [oo 17 (.flA 3 5),oo 18 (.ld 1 false 17),oo 19 (.flA 0 4),oo 20 (.ld 1 false 19),oo 21 (.len false 20),oo 22 (.bin .sub 21 (kI 1)),oo 23 (.callF 32 [18,(kI 0),22]),oo 24 (.not 23)])
 (.cnd 24
 (.seq (.ops [oo 6 (.mov (kI 7))])
 .ret)
 .skip))
 (.seq (.seq (.ops [oo 25 (.mov 0),oo 26 (.nck 25),oo 27 (.flA 5 26),oo 28 (.ld 1 false 27),oo 29 (.bin .eql 28 (kI 9))])
 (.cnd 29
 (.seq (.ops [oo 6 (.mov (kI 8))])
 .ret)
 .skip))
 (.seq (.ops [oo 30 (.mov 0),oo 31 (.nck 30),oo 32 (.flA 5 31),oo 33 (.ld 1 false 32),oo 34 (.bin .add 33 (kI 1)),oo 35 (.nck 30),oo 36 (.flA 5 35),
 ⟨none,none,(.st 1 36 34)⟩])
 (.seq (.ops [oo 6 (.mov (kI 0))])
 .ret))))
 .skip))))))
 (.seq (.seq (.ops [oo 37 (.flA 1 5),oo 38 (.ld 1 false 37),oo 39 (.callF 32 [38,(kI 0),(kI 3)]),oo 40 (.not 39)])
 (.cnd 40
 (.seq (.ops [oo 6 (.mov (kI 2))])
 .ret)
 .skip))
 (.seq (.seq (.ops [oo 41 (.flA 0 5),oo 42 (.ld 1 false 41)])
 (.blk 1 (.seq (.ops [oo 44 (.bin .eql 42 (kI 2)),oo 43 (.mov 44)])
 (.cnd 43
 (.seq (.ops [oo 45 (.mov 0),oo 46 (.ld 2 true 4),oo 47 (.ld 5 true 5),oo 48 (.callF 98 [45,46,47]),oo 6 (.mov 48)])
 .ret)
 (.seq (.ops [oo 50 (.bin .eql 42 (kI 3)),oo 49 (.mov 50)])
 (.cnd 49
 (.seq (.seq (.ops [oo 51 (.flA 2 5),oo 52 (.ld 1 false 51),oo 53 (.callF 32 [52,(kI 0),(kI 3)]),oo 54 (.not 53)])
 (.cnd 54
 (.seq (.ops [oo 6 (.mov (kI 2))])
 .ret)
 .skip))
 (.seq (.seq (.ops [oo 55 (.flA 2 5),oo 56 (.ld 1 false 55),oo 57 (.flA 1 5),oo 58 (.ld 1 false 57),oo 59 (.bin .eql 56 58)])
 (.cnd 59
 (.seq (.ops [oo 6 (.mov (kI 12))])
 .ret)
 .skip))
 (.seq (.ops [oo 60 (.mov 0),oo 61 (.flA 2 5),oo 62 (.ld 1 false 61),oo 63 (.mov 0),oo 64 (.flA 1 5),oo 65 (.ld 1 false 64),oo 66 (.mov 0),oo 67 (.flA 2 5),oo 68 (.ld 1 false 67),oo 69 (.nck 66),oo 70 (.flA 0 69),oo 71 (.ixAr 4 1 70 68),oo 72 (.ld 1 false 71),oo 73 (.mov 0),oo 74 (.flA 1 5),oo 75 (.ld 1 false 74),oo 76 (.nck 73),oo 77 (.flA 0 76),oo 78 (.ixAr 4 1 77 75),oo 79 (.ld 1 false 78),oo 80 (.bin .add 72 79),oo 81 (.nck 60),oo 82 (.flA 0 81),oo 83 (.ixAr 4 1 82 62),oo 84 (.nck 63),oo 85 (.flA 0 84),
 ⟨none,none,(.st 1 83 80)⟩,
 ⟨none,none,(.chk 1 false 64 65)⟩,oo 86 (.ixAr 4 1 85 65),
 ⟨none,none,(.st 1 86 (kI 0))⟩])
 (.seq (.ops [oo 6 (.mov (kI 0))])
 .ret))))
 .skip))))))
 (.seq (.seq (.ops [oo 87 (.flA 4 5),oo 88 (.ld 1 false 87),oo 89 (.callF 32 [88,(kI 1),(kI 12)]),oo 90 (.not 89)])
 (.cnd 90
 (.seq (.ops [oo 6 (.mov (kI 2))])
 .ret)
 .skip))
 (.seq (.seq (.ops [oo 91 (.flA 4 5),oo 92 (.ld 1 false 91),oo 93 (.mov 0),oo 94 (.flA 1 5),oo 95 (.ld 1 false 94),oo 96 (.nck 93),oo 97 (.flA 0 96),oo 98 (.ixAr 4 1 97 95),oo 99 (.ld 1 false 98),oo 100 (.bin .gtr 92 99)])
 (.cnd 100
 (.seq (.ops [oo 6 (.mov (kI 6))])
 .ret)
 .skip))
 (.seq (.seq (.ops [oo 101 (.flA 0 5),oo 102 (.ld 1 false 101),oo 103 (.bin .eql 102 (kI 5))])
 (.cnd 103
 (.seq (.seq (.ops [oo 104 (.mov 0),oo 105 (.nck 104),oo 106 (.flA 5 105),oo 107 (.ld 1 false 106),oo 108 (.flA 4 5),oo 109 (.ld 1 false 108),oo 110 (.bin .add 107 109),oo 111 (.bin .gtr 110 (kI 9))])
 (.cnd 111
 (.seq (.ops [oo 6 (.mov (kI 8))])
 .ret)
 .skip))
 (.ops [oo 112 (.mov 0),oo 113 (.mov 0),oo 114 (.nck 113),oo 115 (.flA 5 114),oo 116 (.ld 1 false 115),oo 117 (.flA 4 5),oo 118 (.ld 1 false 117),oo 119 (.bin .add 116 118),oo 120 (.nck 112),oo 121 (.flA 5 120),
 ⟨none,none,(.st 1 121 119)⟩]))
 .skip))
 (.seq (.ops [oo 122 (.mov 0),oo 123 (.flA 1 5),oo 124 (.ld 1 false 123),oo 125 (.mov 0),oo 126 (.flA 1 5),oo 127 (.ld 1 false 126),oo 128 (.nck 125),oo 129 (.flA 0 128),oo 130 (.ixAr 4 1 129 127),oo 131 (.ld 1 false 130),oo 132 (.flA 4 5),oo 133 (.ld 1 false 132),oo 134 (.bin .sub 131 133),oo 135 (.nck 122),oo 136 (.flA 0 135),oo 137 (.ixAr 4 1 136 124),
 ⟨none,none,(.st 1 137 134)⟩])
 (.seq (.ops [oo 6 (.mov (kI 0))])
 .ret)))))))))⟩
def hint64 (P:Program):Hint:={}
theorem rdealA_c (G:Gm) (d:Dl) (g h:Nat) (t:Tb) (tr:List Int) (hn:1≤G.ws.length∧G.ws.length≤6) (ht:tbOK t) (hr:trO tr t.tried) (hl:tr.length≤1000) (hk:inB d.kind 1 6=true) (h45:inB d.bag 0 3=true→ ¬(d.kind=4∨d.kind=5)):
  RawC Tryz.prog 64 [.ref 1000 g 0,gmA G,dlA d] (sg (tbS 2001 g t tr h)) (SR (fun (x:Tb×List Int×Nat) v=>v= .int .i64 (dealE G.ws.length d t)∧(dealE G.ws.length d t=0→x.1=dealT d t∧trO x.2.1 (dealT d t).tried∧x.2.1.length≤tr.length+1)) (fun x=>tbS 2001 g x.1 x.2.1 x.2.2)):=by
 have hb:=ht.b
 obtain⟨k1,k2⟩:=inB_t.1 hk
 obtain⟨E,hE⟩:∃E,dealE G.ws.length d t=E:=⟨_,rfl⟩
 obtain⟨D,hD⟩:∃D,dealT d t=D:=⟨_,rfl⟩
 rw[hE,hD]
 unfold dealE at hE
 unfold dealT at hD
 have hw:=rin_c d.wood 0 (G.ws.length-1)
 have hbg:=rin_c d.bag 0 3
 have hot:=rin_c d.other 0 3
 have hct:=rin_c d.count 1 12
 have hm:=ht.m
 have hc9:=ht.c
 by_cases e1:d.kind=1
 · rw[if_pos e1] at hE hD
   have hT:=rtrial_c G d g h t tr hn ht hr hl
   rw[hE] at hT
   refine RawC.walk (H:=hint64 Tryz.prog) ir64 Tryz.func64 rfl rfl rfl ?_
   unfold ir64
   repeat' (first
    | with_reducible refine Rd.p ?_
    | with_reducible (first|refine zL ?_|refine zS ?_|refine zV ?_|refine zC ?_)
    | ((with_reducible refine aC ?_);first|((refine ACall.tab (α:=Tb×List Int×Nat) (p:=1000) (q:=2001) (T:=fun x=>x.1) (R:=fun x=>x.2.1) (H:=fun x=>x.2.2) hT rfl rfl rfl rfl rfl rfl rfl rfl rfl ?_ (by rintro x av ⟨hx,-⟩;exact⟨_,hx⟩);rintro⟨t2,tr2,h2⟩ _ ⟨rfl,hx⟩ _ _)))
    | refine aX ?_|with_reducible intro _
    | refine aP ?_ ?_)
   all_goals first
    | (exfalso;omega)
    | exact⟨(t2,tr2,h2),⟨rfl,fun h0=>by obtain⟨q1,q2,q3⟩:=hx h0;rw[←hD];exact⟨q1,q2,by dsimp only at q3 ⊢;omega⟩⟩,rfl,rfl,trivial⟩
 rw[if_neg e1] at hE hD
 by_cases e6:d.kind=6
 · rw[if_neg (by omega),if_neg (by omega),if_neg (by omega),if_neg (by omega)] at hE hD
   unfold placeE at hE
   by_cases q1:inB d.wood 0 (G.ws.length-1)=true
   · rw[if_pos q1] at hE
     rw[q1] at hw
     by_cases q2:9<t.cens+1
     · rw[if_pos q2] at hE
       subst hE
       refine RawC.walk (H:=hint64 Tryz.prog) ir64 Tryz.func64 rfl rfl rfl ?_
       unfold ir64
       repeat' (first
        | with_reducible refine Rd.p ?_
        | (first|refine w_rtC rfl rfl rfl hb ?_)
        | with_reducible (first|refine zL ?_|refine zS ?_|refine zV ?_|refine zC ?_)
        | ((with_reducible refine aC ?_);first|(refine ACall.val hw rfl rfl ?_))
        | refine aX ?_|with_reducible intro _
        | refine aP ?_ ?_)
       all_goals first
        | (exfalso;omega)
        | exact⟨(t,tr,h),⟨rfl,fun h=>absurd h (by decide)⟩,rfl,rfl,trivial⟩
     · rw[if_neg q2] at hE
       subst hE
       refine RawC.walk (H:=hint64 Tryz.prog) ir64 Tryz.func64 rfl rfl rfl ?_
       unfold ir64
       repeat' (first
        | with_reducible refine Rd.p ?_
        | (first|refine w_rtC rfl rfl rfl hb ?_|refine w_rtSC rfl rfl rfl rfl hb ?_)
        | with_reducible (first|refine zL ?_|refine zS ?_|refine zV ?_|refine zC ?_)
        | ((with_reducible refine aC ?_);first|(refine ACall.val hw rfl rfl ?_))
        | refine aX ?_|with_reducible intro _
        | refine aP ?_ ?_)
       all_goals first
        | (exfalso;omega)
        | exact⟨({t with cens:=t.cens+1 },tr,h),⟨rfl,fun _=>⟨hD,by rw[←hD];exact hr,Nat.le_succ _⟩⟩,rfl,rfl,trivial⟩
   · rw[if_neg q1] at hE
     subst hE
     rw[show inB d.wood 0 (G.ws.length-1)=false by simpa using q1] at hw
     refine RawC.walk (H:=hint64 Tryz.prog) ir64 Tryz.func64 rfl rfl rfl ?_
     unfold ir64
     repeat' (first
      | with_reducible refine Rd.p ?_
      | with_reducible (first|refine zL ?_|refine zS ?_|refine zV ?_|refine zC ?_)
      | ((with_reducible refine aC ?_);first|(refine ACall.val hw rfl rfl ?_))
      | refine aX ?_|with_reducible intro _
      | refine aP ?_ ?_)
     all_goals first
      | (exfalso;omega)
      | exact⟨(t,tr,h),⟨rfl,fun h=>absurd h (by decide)⟩,rfl,rfl,trivial⟩
 by_cases q1:inB d.bag 0 3=true
 rotate_left
 · have hq1:inB d.bag 0 3=false:=by simpa using q1
   have ha:asideE d t=2:=by unfold asideE;rw[if_neg (fun h=>q1 h.1)]
   have hE2:E=2:=by
    rw[←hE]
    by_cases e2:d.kind=2
    · rw[if_pos e2];unfold mixE;rw[if_neg q1]
    rw[if_neg e2]
    by_cases e3:d.kind=3
    · rw[if_pos e3];unfold pourE;rw[if_neg (fun h=>q1 h.1)]
    rw[if_neg e3]
    by_cases e4:d.kind=4
    · rw[if_pos e4];exact ha
    rw[if_neg e4,if_pos (by omega)]
    unfold passE
    rw[ha];rfl
   subst hE2
   rw[hq1] at hbg
   refine RawC.walk (H:=hint64 Tryz.prog) ir64 Tryz.func64 rfl rfl rfl ?_
   unfold ir64
   repeat' (first
    | with_reducible refine Rd.p ?_
    | with_reducible (first|refine zL ?_|refine zS ?_|refine zV ?_|refine zC ?_)
    | ((with_reducible refine aC ?_);first|(refine ACall.val hbg rfl rfl ?_))
    | refine aX ?_|with_reducible intro _
    | refine aP ?_ ?_)
   all_goals first
    | (exfalso;omega)
    | exact⟨(t,tr,h),⟨rfl,fun h=>absurd h (by decide)⟩,rfl,rfl,trivial⟩
 rw[q1] at hbg
 have hbi:=inB_t.1 q1
 have hb4:d.bag.toNat<4:=by omega
 have hat:=ht.at hb4
 have hat2:0≤t.bags.getD d.bag.toNat 0∧t.bags.getD d.bag.toNat 0≤12:=hat
 by_cases e2:d.kind=2
 · rw[if_pos e2] at hE hD
   have hT:=rmix_c G d g h t tr hn ht q1
   rw[hE] at hT
   refine RawC.walk (H:=hint64 Tryz.prog) ir64 Tryz.func64 rfl rfl rfl ?_
   unfold ir64
   repeat' (first
    | with_reducible refine Rd.p ?_
    | with_reducible (first|refine zL ?_|refine zS ?_|refine zV ?_|refine zC ?_)
    | ((with_reducible refine aC ?_);first|(refine ACall.val hbg rfl rfl ?_)|((refine ACall.tab (α:=Tb) (p:=1000) (q:=2001) (T:=fun x=>x) (R:=fun x=>tr) (H:=fun x=>h) hT rfl rfl rfl rfl rfl rfl rfl rfl rfl ?_ (by rintro x av ⟨hx,-⟩;exact⟨_,hx⟩);rintro t2 _ ⟨rfl,hx⟩ _ _)))
    | refine aX ?_|with_reducible intro _
    | refine aP ?_ ?_)
   all_goals first
    | (exfalso;omega)
    | exact⟨(t2,tr,h),⟨rfl,fun h0=>by rw[←hD];exact⟨hx h0,hr,Nat.le_succ _⟩⟩,rfl,rfl,trivial⟩
 rw[if_neg e2] at hE hD
 by_cases e3:d.kind=3
 · rw[if_pos e3] at hE hD
   unfold pourE at hE
   by_cases q2:inB d.other 0 3=true
   rotate_left
   · rw[if_neg (fun h=>q2 h.2)] at hE
     subst hE
     rw[show inB d.other 0 3=false by simpa using q2] at hot
     refine RawC.walk (H:=hint64 Tryz.prog) ir64 Tryz.func64 rfl rfl rfl ?_
     unfold ir64
     repeat' (first
      | with_reducible refine Rd.p ?_
      | with_reducible (first|refine zL ?_|refine zS ?_|refine zV ?_|refine zC ?_)
      | ((with_reducible refine aC ?_);first|(refine ACall.val hbg rfl rfl ?_)|(refine ACall.val hot rfl rfl ?_))
      | refine aX ?_|with_reducible intro _
      | refine aP ?_ ?_)
     all_goals first
      | (exfalso;omega)
      | exact⟨(t,tr,h),⟨rfl,fun h=>absurd h (by decide)⟩,rfl,rfl,trivial⟩
   rw[if_pos ⟨q1,q2⟩] at hE
   rw[q2] at hot
   have hoi:=inB_t.1 q2
   have ho4:d.other.toNat<4:=by omega
   have hao:0≤t.bags.getD d.other.toNat 0∧t.bags.getD d.other.toNat 0≤12:=ht.at ho4
   by_cases q3:d.bag=d.other
   · rw[if_pos q3] at hE
     subst hE
     refine RawC.walk (H:=hint64 Tryz.prog) ir64 Tryz.func64 rfl rfl rfl ?_
     unfold ir64
     repeat' (first
      | with_reducible refine Rd.p ?_
      | with_reducible (first|refine zL ?_|refine zS ?_|refine zV ?_|refine zC ?_)
      | ((with_reducible refine aC ?_);first|(refine ACall.val hbg rfl rfl ?_)|(refine ACall.val hot rfl rfl ?_))
      | refine aX ?_|with_reducible intro _
      | refine aP ?_ ?_)
     all_goals first
      | (exfalso;omega)
      | exact⟨(t,tr,h),⟨rfl,fun h=>absurd h (by decide)⟩,rfl,rfl,trivial⟩
   · rw[if_neg q3] at hE
     subst hE
     have hb2:({t with bags:=t.bags.set d.other.toNat (t.bags.getD d.other.toNat 0+t.bags.getD d.bag.toNat 0) }:Tb).bags.length=4:=by show (List.set _ _ _).length=4;rw[List.length_set];exact hb
     refine RawC.walk (H:=hint64 Tryz.prog) ir64 Tryz.func64 rfl rfl rfl ?_
     unfold ir64
     repeat' (first
      | with_reducible refine Rd.p ?_
      | (first|refine w_rtB (w:=d.bag.toNat) rfl (by omega) rfl hb hb4 rfl ?_|refine w_rtB (w:=d.other.toNat) rfl (by omega) rfl hb ho4 rfl ?_|refine w_rtSB (w:=d.other.toNat) rfl (by omega) rfl rfl hb ho4 ?_|refine w_rtSB (w:=d.bag.toNat) rfl (by omega) rfl rfl hb2 hb4 ?_)
      | with_reducible (first|refine zL ?_|refine zS ?_|refine zV ?_|refine zC ?_)
      | ((with_reducible refine aC ?_);first|(refine ACall.val hbg rfl rfl ?_)|(refine ACall.val hot rfl rfl ?_))
      | refine aX ?_|with_reducible intro _
      | refine aP ?_ ?_)
     all_goals first
      | (exfalso;omega)
      | exact⟨(_,tr,h),⟨rfl,fun _=>⟨hD,by rw[←hD];exact hr,Nat.le_succ _⟩⟩,rfl,rfl,trivial⟩
 rw[if_neg e3] at hE hD
 exact absurd (show d.kind=4∨d.kind=5 by omega) (h45 q1)
theorem rdealB_c (G:Gm) (d:Dl) (g h:Nat) (t:Tb) (tr:List Int) (hn:1≤G.ws.length∧G.ws.length≤6) (ht:tbOK t) (hr:trO tr t.tried) (hl:tr.length≤1000) (hk:inB d.kind 1 6=true) (h45:d.kind=4∨d.kind=5) (q1:inB d.bag 0 3=true):
  RawC Tryz.prog 64 [.ref 1000 g 0,gmA G,dlA d] (sg (tbS 2001 g t tr h)) (SR (fun (x:Tb×List Int×Nat) v=>v= .int .i64 (dealE G.ws.length d t)∧(dealE G.ws.length d t=0→x.1=dealT d t∧trO x.2.1 (dealT d t).tried∧x.2.1.length≤tr.length+1)) (fun x=>tbS 2001 g x.1 x.2.1 x.2.2)):=by
 have hb:=ht.b
 obtain⟨k1,k2⟩:=inB_t.1 hk
 obtain⟨E,hE⟩:∃E,dealE G.ws.length d t=E:=⟨_,rfl⟩
 obtain⟨D,hD⟩:∃D,dealT d t=D:=⟨_,rfl⟩
 rw[hE,hD]
 unfold dealE at hE
 unfold dealT at hD
 have hw:=rin_c d.wood 0 (G.ws.length-1)
 have hbg:=rin_c d.bag 0 3
 have hot:=rin_c d.other 0 3
 have hct:=rin_c d.count 1 12
 have hm:=ht.m
 have hc9:=ht.c
 have e1:¬d.kind=1:=by omega
 have e2:¬d.kind=2:=by omega
 have e3:¬d.kind=3:=by omega
 rw[if_neg e1,if_neg e2,if_neg e3] at hE hD
 rw[q1] at hbg
 have hbi:=inB_t.1 q1
 have hb4:d.bag.toNat<4:=by omega
 have hat:=ht.at hb4
 have hat2:0≤t.bags.getD d.bag.toNat 0∧t.bags.getD d.bag.toNat 0≤12:=hat
 by_cases q2:inB d.count 1 12=true
 rotate_left
 · have ha:asideE d t=2:=by unfold asideE;rw[if_neg (fun h=>q2 h.2)]
   have hE2:E=2:=by
    rw[←hE]
    by_cases e4:d.kind=4
    · rw[if_pos e4];exact ha
    rw[if_neg e4,if_pos (by omega)]
    unfold passE
    rw[ha];rfl
   subst hE2
   rw[show inB d.count 1 12=false by simpa using q2] at hct
   refine RawC.walk (H:=hint64 Tryz.prog) ir64 Tryz.func64 rfl rfl rfl ?_
   unfold ir64
   repeat' (first
    | with_reducible refine Rd.p ?_
    | with_reducible (first|refine zL ?_|refine zS ?_|refine zV ?_|refine zC ?_)
    | ((with_reducible refine aC ?_);first|(refine ACall.val hbg rfl rfl ?_)|(refine ACall.val hct rfl rfl ?_))
    | refine aX ?_|with_reducible intro _
    | refine aP ?_ ?_)
   all_goals first
    | (exfalso;omega)
    | exact⟨(t,tr,h),⟨rfl,fun h=>absurd h (by decide)⟩,rfl,rfl,trivial⟩
 rw[q2] at hct
 have hci:=inB_t.1 q2
 by_cases q3:atI t.bags d.bag<d.count
 · have ha:asideE d t=6:=by unfold asideE;rw[if_pos ⟨q1,q2⟩,if_pos q3]
   have hE2:E=6:=by
    rw[←hE]
    by_cases e4:d.kind=4
    · rw[if_pos e4];exact ha
    rw[if_neg e4,if_pos (by omega)]
    unfold passE
    rw[ha];rfl
   subst hE2
   have q3':t.bags.getD d.bag.toNat 0<d.count:=q3
   refine RawC.walk (H:=hint64 Tryz.prog) ir64 Tryz.func64 rfl rfl rfl ?_
   unfold ir64
   repeat' (first
    | with_reducible refine Rd.p ?_
    | (first|refine w_rtB (w:=d.bag.toNat) rfl (by omega) rfl hb hb4 rfl ?_)
    | with_reducible (first|refine zL ?_|refine zS ?_|refine zV ?_|refine zC ?_)
    | ((with_reducible refine aC ?_);first|(refine ACall.val hbg rfl rfl ?_)|(refine ACall.val hct rfl rfl ?_))
    | refine aX ?_|with_reducible intro _
    | refine aP ?_ ?_)
   all_goals first
    | (exfalso;omega)
    | exact⟨(t,tr,h),⟨rfl,fun h=>absurd h (by decide)⟩,rfl,rfl,trivial⟩
 have ha:asideE d t=0:=by unfold asideE;rw[if_pos ⟨q1,q2⟩,if_neg q3]
 have q3':¬t.bags.getD d.bag.toNat 0<d.count:=q3
 by_cases e4:d.kind=4
 · rw[if_pos e4] at hE hD
   rw[ha] at hE
   subst hE
   refine RawC.walk (H:=hint64 Tryz.prog) ir64 Tryz.func64 rfl rfl rfl ?_
   unfold ir64
   repeat' (first
    | with_reducible refine Rd.p ?_
    | (first|refine w_rtB (w:=d.bag.toNat) rfl (by omega) rfl hb hb4 rfl ?_|refine w_rtSB (w:=d.bag.toNat) rfl (by omega) rfl rfl hb hb4 ?_)
    | with_reducible (first|refine zL ?_|refine zS ?_|refine zV ?_|refine zC ?_)
    | ((with_reducible refine aC ?_);first|(refine ACall.val hbg rfl rfl ?_)|(refine ACall.val hct rfl rfl ?_))
    | refine aX ?_|with_reducible intro _
    | refine aP ?_ ?_)
   all_goals first
    | (exfalso;omega)
    | exact⟨(_,tr,h),⟨rfl,fun _=>⟨hD,by rw[←hD];exact hr,Nat.le_succ _⟩⟩,rfl,rfl,trivial⟩
 have e5:d.kind=5:=by omega
 rw[if_neg e4,if_pos e5] at hE hD
 unfold passE at hE
 rw[if_pos ha] at hE
 by_cases q4:9<t.cens+d.count
 · rw[if_pos q4] at hE
   subst hE
   refine RawC.walk (H:=hint64 Tryz.prog) ir64 Tryz.func64 rfl rfl rfl ?_
   unfold ir64
   repeat' (first
    | with_reducible refine Rd.p ?_
    | (first|refine w_rtB (w:=d.bag.toNat) rfl (by omega) rfl hb hb4 rfl ?_|refine w_rtC rfl rfl rfl hb ?_)
    | with_reducible (first|refine zL ?_|refine zS ?_|refine zV ?_|refine zC ?_)
    | ((with_reducible refine aC ?_);first|(refine ACall.val hbg rfl rfl ?_)|(refine ACall.val hct rfl rfl ?_))
    | refine aX ?_|with_reducible intro _
    | refine aP ?_ ?_)
   all_goals first
    | (exfalso;omega)
    | exact⟨(t,tr,h),⟨rfl,fun h=>absurd h (by decide)⟩,rfl,rfl,trivial⟩
 · rw[if_neg q4] at hE
   subst hE
   have hat3:0≤({t with cens:=t.cens+d.count }:Tb).bags.getD d.bag.toNat 0∧({t with cens:=t.cens+d.count }:Tb).bags.getD d.bag.toNat 0≤12:=hat2
   refine RawC.walk (H:=hint64 Tryz.prog) ir64 Tryz.func64 rfl rfl rfl ?_
   unfold ir64
   repeat' (first
    | with_reducible refine Rd.p ?_
    | (first|refine w_rtB (w:=d.bag.toNat) rfl (by omega) rfl hb hb4 rfl ?_|refine w_rtC rfl rfl rfl hb ?_|refine w_rtSC rfl rfl rfl rfl hb ?_|refine w_rtB (t:={t with cens:=t.cens+d.count }) (b:=t.bags.getD d.bag.toNat 0) (w:=d.bag.toNat) rfl (by omega) rfl hb hb4 rfl ?_|refine w_rtSB (t:={t with cens:=t.cens+d.count }) (w:=d.bag.toNat) rfl (by omega) rfl rfl hb hb4 ?_)
    | with_reducible (first|refine zL ?_|refine zS ?_|refine zV ?_|refine zC ?_)
    | ((with_reducible refine aC ?_);first|(refine ACall.val hbg rfl rfl ?_)|(refine ACall.val hct rfl rfl ?_))
    | refine aX ?_|with_reducible intro _
    | refine aP ?_ ?_)
   all_goals first
    | (exfalso;omega)
    | exact⟨(_,tr,h),⟨rfl,fun _=>⟨hD,by rw[←hD];exact hr,Nat.le_succ _⟩⟩,rfl,rfl,trivial⟩
theorem rdeal_c (G:Gm) (d:Dl) (g h:Nat) (t:Tb) (tr:List Int) (hn:1≤G.ws.length∧G.ws.length≤6) (ht:tbOK t) (hr:trO tr t.tried) (hl:tr.length≤1000) (hk:inB d.kind 1 6=true):
  RawC Tryz.prog 64 [.ref 1000 g 0,gmA G,dlA d] (sg (tbS 2001 g t tr h)) (SR (fun (x:Tb×List Int×Nat) v=>v= .int .i64 (dealE G.ws.length d t)∧(dealE G.ws.length d t=0→x.1=dealT d t∧trO x.2.1 (dealT d t).tried∧x.2.1.length≤tr.length+1)) (fun x=>tbS 2001 g x.1 x.2.1 x.2.2)):=by
 by_cases h:d.kind=4∨d.kind=5
 · by_cases q1:inB d.bag 0 3=true
   · exact rdealB_c G d g _ t tr hn ht hr hl hk h q1
   · exact rdealA_c G d g _ t tr hn ht hr hl hk fun q=>absurd q q1
 · exact rdealA_c G d g _ t tr hn ht hr hl hk fun _=>h
def ir26:IFn:=
 ⟨50,[(2,none)],(.seq (.ops [oo 1 (.box 2 0),oo 2 (.mov (kI 0))])
 (.seq (.seq (.ops [oo 8 (.flA 0 1),oo 9 (.ld 1 false 8),oo 10 (.callF 62 [9]),oo 3 (.mov 10)])
 (.seq (.ops [oo 11 (.mov 3),oo 12 (.bin .neq 11 (kI 0))])
 (.cnd 12
 (.seq (.ops [oo 13 (.mov 3),oo 2 (.mov 13)])
 .ret)
 .skip)))
 (.seq (.seq (.ops [oo 14 (.flA 1 1),oo 15 (.ld 1 false 14),oo 16 (.len false 15),oo 17 (.bin .gtr 16 (kI 24))])
 (.cnd 17
 (.seq (.ops [oo 2 (.mov (kI 8))])
 .ret)
 .skip))
 (.seq (.ops [oo 18 (.bld [(.int .i64 0),(.int .i64 0),(.int .i64 0),(.int .i64 0),(.int .i64 0),(.int .i64 0),.nsl] []),oo 19 (.box 7 18),oo 4 (.mov 19)])
 (.seq (.seq (.ops [oo 5 (.mov (kI 0))])
 (.blk 0 (.loop (.seq (.seq (.ops [oo 20 (.mov 5),oo 21 (.flA 1 1),oo 22 (.ld 1 false 21),oo 23 (.len false 22),oo 24 (.bin .lss 20 23)])
 (.cnd 24
 .skip
 (.exit 0)))
 (.seq (.blk 1 (.seq (.ops [oo 27 (.flA 1 1),oo 28 (.ld 1 false 27),oo 29 (.mov 5),oo 30 (.ixA 5 28 29),oo 31 (.ld 5 true 30),oo 6 (.new [(.int .i64 0),(.int .i64 0),(.int .i64 0),(.int .i64 0),(.int .i64 0)]),
 ⟨none,none,(.st 5 6 31)⟩])
 (.seq (.seq (.ops [oo 32 (.flA 0 6),oo 33 (.ld 1 false 32),oo 34 (.callF 32 [33,(kI 1),(kI 6)]),oo 35 (.not 34)])
 (.cnd 35
 (.seq (.ops [oo 2 (.mov (kI 4))])
 .ret)
 .skip))
 (.seq (.seq (.ops [oo 36 (.ld 5 true 6),oo 37 (.callF 63 [36])])
 (.cnd 37
 (.seq (.ops [oo 2 (.mov (kI 3))])
 .ret)
 .skip))
 (.seq (.ops [oo 38 (.mov 4),oo 39 (.ld 2 true 1),oo 40 (.ld 5 true 6),oo 41 (.callF 64 [38,39,40]),oo 7 (.mov 41)])
 (.seq (.ops [oo 42 (.mov 7),oo 43 (.bin .neq 42 (kI 0))])
 (.cnd 43
 (.seq (.ops [oo 44 (.mov 7),oo 2 (.mov 44)])
 .ret)
 .skip)))))))
 (.ops [oo 25 (.mov 5),oo 26 (.bin .add 25 (kI 1)),oo 5 (.mov 26)]))))))
 (.seq (.seq (.ops [oo 45 (.mov 4),oo 46 (.nck 45),oo 47 (.flA 5 46),oo 48 (.ld 1 false 47),oo 49 (.bin .eql 48 (kI 0))])
 (.cnd 49
 (.seq (.ops [oo 2 (.mov (kI 6))])
 .ret)
 .skip))
 (.seq (.ops [oo 2 (.mov (kI 0))])
 .ret)))))))⟩
end Go.Abs
