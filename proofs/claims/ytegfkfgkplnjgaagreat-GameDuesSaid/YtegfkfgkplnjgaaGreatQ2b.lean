/- Contracts of the functions that this law reaches, each proved of the program's form in Lean. No condition beyond those that each contract names. -/
import Derived.Test.YtegfkfgkplnjgaaGreatProg
import Derived.Test.YtegfkfgkplnjgaaGreatSnd3
import Derived.Test.YtegfkfgkplnjgaaGreatA0
import Derived.Test.YtegfkfgkplnjgaaGreatQ1a
import Derived.Test.YtegfkfgkplnjgaaGreatQ1b
import Derived.Test.YtegfkfgkplnjgaaGreatQ1c
import Derived.Test.YtegfkfgkplnjgaaGreatQ1d
import Derived.Test.YtegfkfgkplnjgaaGreatQ1e
import Derived.Test.YtegfkfgkplnjgaaGreatQ1f
import Derived.Test.YtegfkfgkplnjgaaGreatQ1g
import Derived.Test.YtegfkfgkplnjgaaGreatQ1h
import Derived.Test.YtegfkfgkplnjgaaGreatQ1i
import Derived.Test.YtegfkfgkplnjgaaGreatQ1j
import Derived.Test.YtegfkfgkplnjgaaGreatQ1k
import Derived.Test.YtegfkfgkplnjgaaGreatQ1l
import Derived.Test.YtegfkfgkplnjgaaGreatQ2a
set_option linter.unusedVariables false
set_option linter.unusedSimpArgs false
set_option maxRecDepth 20000
set_option maxHeartbeats 4000000
namespace Go.Abs
open Go.Proofs
def ir15:IFn:=
 ⟨32,[(6,none),(7,none)],(.seq (.ops [oo 3 (.box 2 0),oo 4 (.box 2 1),oo 6 (.mov (.k .nsl)),oo 7 (.mov (kI 0))])
 (.seq (.seq (.ops [oo 11 (.ld 2 true 3),oo 12 (.callF 26 [11]),oo 8 (.mov 12)])
 (.seq (.ops [oo 13 (.mov 8),oo 14 (.bin .neq 13 (kI 0))])
 (.cnd 14
 (.seq (.ops [oo 15 (.mov 8),oo 6 (.mov (.k .nsl)),oo 7 (.mov 15)])
 .ret)
 .skip)))
 (.seq (.seq (.ops [oo 16 (.ld 2 true 3),oo 17 (.ld 2 true 4),oo 18 (.callF 42 [16,17]),oo 9 (.mov 18)])
 (.seq (.ops [oo 19 (.mov 9),oo 20 (.bin .neq 19 (kI 0))])
 (.cnd 20
 (.seq (.ops [oo 21 (.mov 9),oo 6 (.mov (.k .nsl)),oo 7 (.mov 21)])
 .ret)
 .skip)))
 (.seq (.seq (.ops [oo 22 (.ld 2 true 3),oo 23 (.mov 2),oo 24 (.callF 43 [22,23]),oo 10 (.mov 24)])
 (.seq (.ops [oo 25 (.mov 10),oo 26 (.bin .neq 25 (kI 0))])
 (.cnd 26
 (.seq (.ops [oo 27 (.mov 10),oo 6 (.mov (.k .nsl)),oo 7 (.mov 27)])
 .ret)
 .skip)))
 (.seq (.ops [oo 28 (.ld 2 true 3),oo 29 (.ld 2 true 4),oo 30 (.mov 2),oo 31 (.callF 44 [28,29,30]),oo 6 (.mov 31),oo 7 (.mov (kI 0))])
 .ret)))))⟩
def hint15 (P:Program):Hint:={}
theorem iR_sn7 (c:List Int) (w:Int) (g:Nat):AV.slc 1 (iR c++[[.int .i64 w]]) (.own 7 g)=AV.slc 1 (iR (c++[w])) (.own 7 g):=
 congrArg (fun z=>AV.slc 1 z (.own 7 g)) (map_snoc (f:=fun x:Int=>[AV.int .i64 x]) (x:=w)).symm
theorem rdue_c (G:Gm) (a:Aq) (c:List Int) (hn:G.ws.length≤6) (hd:G.ds.length≤24) (h1:1≤c.length) (h9:c.length≤9) (hc:∀x∈c,0≤x∧x<(G.ws.length:Int)) (hk:1≤a.kind∧a.kind≤6):Fn0 Tryz.prog 44 [gmA G,aqA a,.slc 1 (iR c) .non] (fun v=>v= .slc 1 (iR (dueF G a c)) .non):=by
 have hcl:(iR c).length=c.length:=List.length_map _
 have hwl:(wR G.ws).length=G.ws.length:=List.length_map _
 obtain⟨B,hB⟩:∃B,dueF G a c=B:=⟨_,rfl⟩
 rw[hB]
 unfold dueF at hB
 have hne:c≠[]:=fun h=>by subst h;simp at h1
 by_cases e1:a.kind=1
 · rw[if_pos e1] at hB
   subst hB
   have hs:=rsame_c c (by omega)
   refine RawC.walk (H:=hint44 Tryz.prog) ir44 Tryz.func44 rfl rfl rfl ?_
   unfold ir44
   repeat' (first
    | with_reducible refine Rd.p ?_
    | with_reducible (first|refine zI fun y hy=>?_|refine zL ?_|refine zS ?_|refine zV ?_|refine zC ?_)
    | ((with_reducible refine aC ?_);first|(refine ACall.val hs rfl rfl ?_))
    | refine aX ?_|with_reducible intro _
    | with_reducible refine zJ ?_ fun y hy=>?_|refine aP ?_ ?_)
   all_goals first
    | (exfalso;omega)
    | rfl
 rw[if_neg e1] at hB
 by_cases e2:a.kind=2
 · rw[if_pos e2] at hB
   refine RawC.walk (H:=hint44 Tryz.prog) ir44 Tryz.func44 rfl rfl rfl ?_
   unfold ir44
   repeat' (first
    | with_reducible refine Rd.p ?_
    | with_reducible (first|refine zI fun y hy=>?_|refine zL ?_|refine zS ?_|refine zV ?_|refine zC ?_)
    | refine aX ?_|with_reducible intro _
    | with_reducible refine zJ ?_ fun y hy=>?_|refine aP ?_ ?_)
   all_goals try (exfalso;omega)
   rename_i g6 g7
   refine w_loopK [2,3,4] [3,4,6] (fun x:List Int×List Int×List Int×Nat=>c=x.1++x.2.1∧x.2.2.1++whF (fun x=>!triedB G.ds x) x.1.length x.2.1=B∧x.2.2.1.length≤x.1.length) (fun x=>x.2.1.length) (fun x=>[(9,.int .i64 x.1.length),(7,.slc 1 (iR x.2.2.1) (.own 7 x.2.2.2))]) (fun x=>[(7,(x.2.2.2,.row []))]) ([],c,[],g7) ⟨rfl,hB,Nat.le_refl _⟩ ⟨rfl,rfl,trivial⟩ ⟨rfl,trivial⟩ ?_
   rintro⟨pre,post,out,g⟩ ⟨hl,hb,ho⟩ e σ
   dsimp only at hl hb ho ⊢
   have hlen:=congrArg List.length hl
   rw[List.length_append] at hlen
   have hol:(iR out).length=out.length:=List.length_map _
   cases post with
   | nil=>
     simp only[List.length_nil] at hlen
     rw[show whF (fun x=>!triedB G.ds x) pre.length []=[] from rfl,List.append_nil] at hb
     rw[←hb]
     repeat' (first
      | with_reducible refine Rd.p ?_
      | with_reducible (first|refine zI fun y hy=>?_|refine zL ?_|refine zS ?_|refine zV ?_|refine zC ?_)
      | refine aX ?_|with_reducible intro _
      | with_reducible refine zJ ?_ fun y hy=>?_|refine aP ?_ ?_)
     all_goals first
      | (exfalso;omega)
      | rfl
   | cons x post=>
     simp only[List.length_cons] at hlen
     rw[whF] at hb
     have ht:=rtried_c G x (by omega)
     cases hx:triedB G.ds x with
     | false=>
       rw[hx] at ht hb
       rw[if_pos (show (!false)=true from rfl)] at hb
       repeat' (first
        | with_reducible refine Rd.p ?_
        | (first|refine w_ixP (f:=fun x:Int=>[AV.int .i64 x]) hl rfl rfl ?_)
        | with_reducible (first|refine zI fun y hy=>?_|refine zL ?_|refine zS ?_|refine zV ?_|refine zC ?_)
        | ((with_reducible refine aC ?_);first|(refine ACall.val ht rfl rfl ?_))
        | refine aX ?_|with_reducible intro _
        | with_reducible refine zJ ?_ fun y hy=>?_|refine aP ?_ ?_)
       all_goals try (exfalso;omega)
       all_goals
        rename_i g5
        exact q_loop (pre++[x],post,out++[(pre.length:Int)],g5) ⟨by show c=_;rw[hl];simp,by dsimp only;rw[←hb,len_snoc,List.append_assoc];rfl,by dsimp only;rw[len_snoc,len_snoc];omega⟩ (Nat.lt_succ_self _) ⟨by rw[len_snoc];rfl,by first|rfl|exact iR_sn7 _ _ _,trivial⟩ aS aK aK
     | true=>
       rw[hx] at ht hb
       rw[if_neg (show ¬(!true)=true from Bool.false_ne_true)] at hb
       repeat' (first
        | with_reducible refine Rd.p ?_
        | (first|refine w_ixP (f:=fun x:Int=>[AV.int .i64 x]) hl rfl rfl ?_)
        | with_reducible (first|refine zI fun y hy=>?_|refine zL ?_|refine zS ?_|refine zV ?_|refine zC ?_)
        | ((with_reducible refine aC ?_);first|(refine ACall.val ht rfl rfl ?_))
        | refine aX ?_|with_reducible intro _
        | with_reducible refine zJ ?_ fun y hy=>?_|refine aP ?_ ?_)
       all_goals first
        | (exfalso;omega)
        | exact q_loop (pre++[x],post,out,g) ⟨by show c=_;rw[hl];simp,by dsimp only;rw[←hb,len_snoc],by dsimp only;rw[len_snoc];omega⟩ (Nat.lt_succ_self _) ⟨by rw[len_snoc];rfl,rfl,trivial⟩ aS aK aK
 rw[if_neg e2] at hB
 by_cases e4:a.kind=4
 · rw[if_pos e4] at hB
   refine RawC.walk (H:=hint44 Tryz.prog) ir44 Tryz.func44 rfl rfl rfl ?_
   unfold ir44
   repeat' (first
    | with_reducible refine Rd.p ?_
    | with_reducible (first|refine zI fun y hy=>?_|refine zL ?_|refine zS ?_|refine zV ?_|refine zC ?_)
    | refine aX ?_|with_reducible intro _
    | with_reducible refine zJ ?_ fun y hy=>?_|refine aP ?_ ?_)
   all_goals try (exfalso;omega)
   rename_i g6 g7
   refine w_loopK [2,3,4] [3,4,6] (fun x:List Int×List Int×List Int×Nat=>c=x.1++x.2.1∧x.2.2.1++whF (fun x=>decide (x=a.wood)) x.1.length x.2.1=B∧x.2.2.1.length≤x.1.length) (fun x=>x.2.1.length) (fun x=>[(9,.int .i64 x.1.length),(7,.slc 1 (iR x.2.2.1) (.own 7 x.2.2.2))]) (fun x=>[(7,(x.2.2.2,.row []))]) ([],c,[],g7) ⟨rfl,hB,Nat.le_refl _⟩ ⟨rfl,rfl,trivial⟩ ⟨rfl,trivial⟩ ?_
   rintro⟨pre,post,out,g⟩ ⟨hl,hb,ho⟩ e σ
   dsimp only at hl hb ho ⊢
   have hlen:=congrArg List.length hl
   rw[List.length_append] at hlen
   have hol:(iR out).length=out.length:=List.length_map _
   cases post with
   | nil=>
     simp only[List.length_nil] at hlen
     rw[show whF (fun x=>decide (x=a.wood)) pre.length []=[] from rfl,List.append_nil] at hb
     rw[←hb]
     repeat' (first
      | with_reducible refine Rd.p ?_
      | with_reducible (first|refine zI fun y hy=>?_|refine zL ?_|refine zS ?_|refine zV ?_|refine zC ?_)
      | refine aX ?_|with_reducible intro _
      | with_reducible refine zJ ?_ fun y hy=>?_|refine aP ?_ ?_)
     all_goals first
      | (exfalso;omega)
      | rfl
   | cons x post=>
     simp only[List.length_cons] at hlen
     rw[whF] at hb
     by_cases hx:x=a.wood
     · rw[if_pos (decide_eq_true hx)] at hb
       repeat' (first
        | with_reducible refine Rd.p ?_
        | (first|refine w_ixP (f:=fun x:Int=>[AV.int .i64 x]) hl rfl rfl ?_)
        | with_reducible (first|refine zI fun y hy=>?_|refine zL ?_|refine zS ?_|refine zV ?_|refine zC ?_)
        | refine aX ?_|with_reducible intro _
        | with_reducible refine zJ ?_ fun y hy=>?_|refine aP ?_ ?_)
       all_goals try (exfalso;omega)
       all_goals
        rename_i g5
        exact q_loop (pre++[x],post,out++[(pre.length:Int)],g5) ⟨by show c=_;rw[hl];simp,by dsimp only;rw[←hb,len_snoc,List.append_assoc];rfl,by dsimp only;rw[len_snoc,len_snoc];omega⟩ (Nat.lt_succ_self _) ⟨by rw[len_snoc];rfl,by first|rfl|exact iR_sn7 _ _ _,trivial⟩ aS aK aK
     · rw[if_neg (by simpa using hx)] at hb
       repeat' (first
        | with_reducible refine Rd.p ?_
        | (first|refine w_ixP (f:=fun x:Int=>[AV.int .i64 x]) hl rfl rfl ?_)
        | with_reducible (first|refine zI fun y hy=>?_|refine zL ?_|refine zS ?_|refine zV ?_|refine zC ?_)
        | refine aX ?_|with_reducible intro _
        | with_reducible refine zJ ?_ fun y hy=>?_|refine aP ?_ ?_)
       all_goals first
        | (exfalso;omega)
        | exact q_loop (pre++[x],post,out,g) ⟨by show c=_;rw[hl];simp,by dsimp only;rw[←hb,len_snoc],by dsimp only;rw[len_snoc];omega⟩ (Nat.lt_succ_self _) ⟨by rw[len_snoc];rfl,rfl,trivial⟩ aS aK aK
 rw[if_neg e4] at hB
 by_cases e5:a.kind=5
 · rw[if_pos e5] at hB
   refine RawC.walk (H:=hint44 Tryz.prog) ir44 Tryz.func44 rfl rfl rfl ?_
   unfold ir44
   repeat' (first
    | with_reducible refine Rd.p ?_
    | with_reducible (first|refine zI fun y hy=>?_|refine zL ?_|refine zS ?_|refine zV ?_|refine zC ?_)
    | refine aX ?_|with_reducible intro _
    | with_reducible refine zJ ?_ fun y hy=>?_|refine aP ?_ ?_)
   all_goals try (exfalso;omega)
   rename_i g6 g7
   refine w_loopK [2,3,4] [3,4,6] (fun x:List Int×List Int×List Int×Nat=>c=x.1++x.2.1∧fstF x.2.2.1 x.2.1=B∧x.2.2.1.length≤x.1.length∧ ∀y,y∈x.2.2.1↔y∈x.1) (fun x=>x.2.1.length) (fun x=>[(9,.int .i64 x.1.length),(7,.slc 1 (iR x.2.2.1) (.own 7 x.2.2.2))]) (fun x=>[(7,(x.2.2.2,.row []))]) ([],c,[],g7) ⟨rfl,hB,Nat.le_refl _,fun y=>Iff.rfl⟩ ⟨rfl,rfl,trivial⟩ ⟨rfl,trivial⟩ ?_
   rintro⟨pre,post,out,g⟩ ⟨hl,hb,ho,hm⟩ e σ
   dsimp only at hl hb ho hm ⊢
   have hlen:=congrArg List.length hl
   rw[List.length_append] at hlen
   have hol:(iR out).length=out.length:=List.length_map _
   cases post with
   | nil=>
     simp only[List.length_nil] at hlen
     rw[show fstF out []=out from rfl] at hb
     rw[←hb]
     repeat' (first
      | with_reducible refine Rd.p ?_
      | with_reducible (first|refine zI fun y hy=>?_|refine zL ?_|refine zS ?_|refine zV ?_|refine zC ?_)
      | refine aX ?_|with_reducible intro _
      | with_reducible refine zJ ?_ fun y hy=>?_|refine aP ?_ ?_)
     all_goals first
      | (exfalso;omega)
      | rfl
   | cons x post=>
     simp only[List.length_cons] at hlen
     rw[fstF] at hb
     have hf:=rfirst_c c x (by omega)
     by_cases hx:x∈pre
     · rw[if_pos (idx_mem.2 ((hm x).2 hx))] at hb
       have he:fstI c x=(pre.idxOf x:Nat)∧pre.idxOf x<pre.length:=by rw[hl];exact fstI_old hx
       rw[he.1] at hf
       have hlt:=he.2
       repeat' (first
        | with_reducible refine Rd.p ?_
        | (first|refine w_ixP (f:=fun x:Int=>[AV.int .i64 x]) hl rfl rfl ?_)
        | with_reducible (first|refine zI fun y hy=>?_|refine zL ?_|refine zS ?_|refine zV ?_|refine zC ?_)
        | ((with_reducible refine aC ?_);first|(refine ACall.val hf rfl rfl ?_))
        | refine aX ?_|with_reducible intro _
        | with_reducible refine zJ ?_ fun y hy=>?_|refine aP ?_ ?_)
       all_goals first
        | (exfalso;omega)
        | exact q_loop (pre++[x],post,out,g) ⟨by show c=_;rw[hl];simp,hb,by dsimp only;rw[len_snoc];omega,fun y=>by
           dsimp only
           rw[hm,List.mem_append,List.mem_singleton]
           exact⟨.inl,fun h=>h.elim id fun h=>h▸hx⟩⟩ (Nat.lt_succ_self _) ⟨by rw[len_snoc];rfl,rfl,trivial⟩ aS aK aK
     · rw[if_neg (fun h=>hx ((hm x).1 (idx_mem.1 h)))] at hb
       have he:fstI c x=pre.length:=by rw[hl];exact fstI_new hx
       rw[he] at hf
       repeat' (first
        | with_reducible refine Rd.p ?_
        | (first|refine w_ixP (f:=fun x:Int=>[AV.int .i64 x]) hl rfl rfl ?_)
        | with_reducible (first|refine zI fun y hy=>?_|refine zL ?_|refine zS ?_|refine zV ?_|refine zC ?_)
        | ((with_reducible refine aC ?_);first|(refine ACall.val hf rfl rfl ?_))
        | refine aX ?_|with_reducible intro _
        | with_reducible refine zJ ?_ fun y hy=>?_|refine aP ?_ ?_)
       all_goals try (exfalso;omega)
       all_goals
        rename_i g5
        exact q_loop (pre++[x],post,out++[x],g5) ⟨by show c=_;rw[hl];simp,hb,by dsimp only;rw[len_snoc,len_snoc];omega,fun y=>by
         dsimp only
         rw[List.mem_append,List.mem_append,hm]⟩ (Nat.lt_succ_self _) ⟨by rw[len_snoc];rfl,by first|rfl|exact iR_sn7 _ _ _,trivial⟩ aS aK aK
 rw[if_neg e5] at hB
 by_cases e6:a.kind=6
 · rw[if_pos e6] at hB
   refine RawC.walk (H:=hint44 Tryz.prog) ir44 Tryz.func44 rfl rfl rfl ?_
   unfold ir44
   repeat' (first
    | with_reducible refine Rd.p ?_
    | (refine w_mksI rfl (by omega) ?_;intro g26)
    | with_reducible (first|refine zI fun y hy=>?_|refine zL ?_|refine zS ?_|refine zV ?_|refine zC ?_)
    | refine aX ?_|with_reducible intro _
    | with_reducible refine zJ ?_ fun y hy=>?_|refine aP ?_ ?_)
   all_goals try (exfalso;omega)
   refine w_loopK [2,7] [] (fun x:List Int×List Int×List Int=>c=x.1++x.2.1∧cntX x.2.2 x.2.1=B∧x.2.2.length=G.ws.length∧ ∀k,0≤x.2.2.getD k 0∧x.2.2.getD k 0≤x.1.length) (fun x=>x.2.1.length) (fun x=>[(8,.int .i64 x.1.length)]) (fun x=>[(26,(g26,.row (x.2.2.map (AV.int .i64))))]) ([],c,List.replicate G.ws.length 0) ⟨rfl,hB,List.length_replicate,fun k=>by
    have:(List.replicate G.ws.length (0:Int)).getD k 0=0:=by
     rw[List.getD_eq_getElem?_getD,List.getElem?_replicate];split<;>rfl
    rw[this];exact⟨Int.le_refl _,Int.le_refl _⟩⟩ ⟨rfl,trivial⟩ ⟨rfl,trivial⟩ ?_
   rintro⟨pre,post,xs⟩ ⟨hl,hb,hx,hk⟩ e σ
   dsimp only at hl hb hx hk ⊢
   have hlen:=congrArg List.length hl
   rw[List.length_append] at hlen
   cases post with
   | nil=>
     simp only[List.length_nil] at hlen
     rw[show cntX xs []=xs from rfl] at hb
     rw[←hb]
     repeat' (first
      | with_reducible refine Rd.p ?_
      | with_reducible (first|refine zI fun y hy=>?_|refine zL ?_|refine zS ?_|refine zV ?_|refine zC ?_)
      | refine aX ?_|with_reducible intro _
      | with_reducible refine zJ ?_ fun y hy=>?_|refine aP ?_ ?_)
     all_goals try (exfalso;omega)
     have hfz:frzA 26 g26 (xs.map (AV.int .i64)) (.msl 26 g26 G.ws.length 1)= .slc 1 (iR xs) .non:=by rw[←hx];simp[frzA,chunk1]
     refine w_frzIG [(7,.slc 1 (iR xs) .non)] [] rfl rfl hx ⟨hfz,trivial⟩ trivial ?_
     intro e2 σ2
     repeat' (first
      | with_reducible refine Rd.p ?_
      | with_reducible (first|refine zI fun y hy=>?_|refine zL ?_|refine zS ?_|refine zV ?_|refine zC ?_)
      | refine aX ?_|with_reducible intro _
      | with_reducible refine zJ ?_ fun y hy=>?_|refine aP ?_ ?_)
     all_goals first
      | rfl
   | cons w post=>
     simp only[List.length_cons] at hlen
     rw[cntX] at hb
     have hw:=hc w (by rw[hl];simp)
     have hkw:=hk w.toNat
     have hwl2:w.toNat*1<xs.length:=by omega
     have hw1:w.toNat*1=w.toNat:=Nat.mul_one _
     repeat' (first
      | with_reducible refine Rd.p ?_
      | (first|refine w_ixP (f:=fun x:Int=>[AV.int .i64 x]) hl rfl rfl ?_|(refine w_ldI rfl rfl hwl2 ?_;rw[hw1])|(refine w_stI rfl rfl rfl hwl2 ?_;rw[hw1]))
      | with_reducible (first|refine zI fun y hy=>?_|refine zL ?_|refine zS ?_|refine zV ?_|refine zC ?_)
      | refine aX ?_|with_reducible intro _
      | with_reducible refine zJ ?_ fun y hy=>?_|refine aP ?_ ?_)
     all_goals first
      | (exfalso;omega)
      | exact q_loop (pre++[w],post,xs.set w.toNat (xs.getD w.toNat 0+1)) ⟨by show c=_;rw[hl];simp,hb,by dsimp only;rw[List.length_set];exact hx,fun k=>by
         dsimp only
         rw[set_getD (by omega),len_snoc]
         have:=hk k
         split<;>omega⟩   (Nat.lt_succ_self _) ⟨by rw[len_snoc];rfl,trivial⟩ aS aK aK
 · rw[if_neg e6] at hB
   subst hB
   refine RawC.walk (H:=hint44 Tryz.prog) ir44 Tryz.func44 rfl rfl rfl ?_
   unfold ir44
   repeat' (first
    | with_reducible refine Rd.p ?_
    | with_reducible (first|refine zI fun y hy=>?_|refine zL ?_|refine zS ?_|refine zV ?_|refine zC ?_)
    | refine aX ?_|with_reducible intro _
    | with_reducible refine zJ ?_ fun y hy=>?_|refine aP ?_ ?_)
   all_goals first
    | (exfalso;omega)
    | rfl
def duO (G:Gm) (a:Aq) (c:List Int):List Int×Int:=
 if gmErr G=0 then (if askErr G.ws.length a=0 then (if courseErr G c=0 then (dueF G a c,0) else ([],courseErr G c)) else ([],askErr G.ws.length a)) else ([],gmErr G)
theorem askErr_ok {n:Nat} {a:Aq} (h:askErr n a=0):1≤a.kind∧a.kind≤6:=by
 unfold askErr at h
 cases h1:inB a.kind 1 6 with
 | true=>have:=inB_t.1 h1;omega
 | false=>rw[h1,if_neg Bool.false_ne_true] at h;exact absurd h (by decide)
theorem rDueA_c (G:Gm) (a:Aq) (c:List Int) (hw:G.ws.length<1000) (hd:G.ds.length<1000) (hs:∀w∈G.ws,w.name.size≤1000) (hc:c.length<1000):Fn0 Tryz.prog 15 [gmA G,aqA a,.slc 1 (iR c) .non] (fun v=>v=plA (duO G a c)):=by
 have hck:=gRefCheck_c G hw hd hs
 have hca:=rcheckAsk_c G a hw
 by_cases h0:gmErr G=0
 rotate_left
 · rw[show duO G a c=([],gmErr G) from if_neg h0]
   unfold plA
   rw[if_neg h0]
   refine RawC.walk (H:=hint15 Tryz.prog) ir15 Tryz.func15 rfl rfl rfl ?_
   unfold ir15
   repeat' (first
    | with_reducible refine Rd.p ?_
    | with_reducible (first|refine zL ?_|refine zS ?_|refine zV ?_|refine zC ?_)
    | ((with_reducible refine aC ?_);first|(refine ACall.val hck rfl rfl ?_))
    | refine aX ?_|with_reducible intro _
    | refine aP ?_ ?_)
   all_goals first
    | (exfalso;omega)
    | rfl
 rw[h0] at hck
 have hG:=gm_ok h0
 have hcen:=hG.cen
 have hcc:=rcheckCourse_c G hG c (by omega)
 by_cases h1:askErr G.ws.length a=0
 rotate_left
 · rw[show duO G a c=([],askErr G.ws.length a) by unfold duO;rw[if_pos h0,if_neg h1]]
   unfold plA
   rw[if_neg h1]
   refine RawC.walk (H:=hint15 Tryz.prog) ir15 Tryz.func15 rfl rfl rfl ?_
   unfold ir15
   repeat' (first
    | with_reducible refine Rd.p ?_
    | with_reducible (first|refine zL ?_|refine zS ?_|refine zV ?_|refine zC ?_)
    | ((with_reducible refine aC ?_);first|(refine ACall.val hck rfl rfl ?_)|(refine ACall.val hca rfl rfl ?_))
    | refine aX ?_|with_reducible intro _
    | refine aP ?_ ?_)
   all_goals first
    | (exfalso;omega)
    | rfl
 rw[h1] at hca
 by_cases h2:courseErr G c=0
 rotate_left
 · rw[show duO G a c=([],courseErr G c) by unfold duO;rw[if_pos h0,if_pos h1,if_neg h2]]
   unfold plA
   rw[if_neg h2]
   refine RawC.walk (H:=hint15 Tryz.prog) ir15 Tryz.func15 rfl rfl rfl ?_
   unfold ir15
   repeat' (first
    | with_reducible refine Rd.p ?_
    | with_reducible (first|refine zL ?_|refine zS ?_|refine zV ?_|refine zC ?_)
    | ((with_reducible refine aC ?_);first|(refine ACall.val hck rfl rfl ?_)|(refine ACall.val hca rfl rfl ?_)|(refine ACall.val hcc rfl rfl ?_))
    | refine aX ?_|with_reducible intro _
    | refine aP ?_ ?_)
   all_goals first
    | (exfalso;omega)
    | rfl
 rw[h2] at hcc
 obtain⟨hl,hin⟩:=courseErr_ok h2
 have hdu:=rdue_c G a c hG.n6 hG.d24 (by omega) (by omega) hin (askErr_ok h1)
 rw[show duO G a c=(dueF G a c,0) by unfold duO;rw[if_pos h0,if_pos h1,if_pos h2]]
 refine RawC.walk (H:=hint15 Tryz.prog) ir15 Tryz.func15 rfl rfl rfl ?_
 unfold ir15
 repeat' (first
  | with_reducible refine Rd.p ?_
  | with_reducible (first|refine zL ?_|refine zS ?_|refine zV ?_|refine zC ?_)
  | ((with_reducible refine aC ?_);first|(refine ACall.val hck rfl rfl ?_)|(refine ACall.val hca rfl rfl ?_)|(refine ACall.val hcc rfl rfl ?_)|(refine ACall.val hdu rfl rfl ?_))
  | refine aX ?_|with_reducible intro _
  | refine aP ?_ ?_)
 all_goals first
  | (exfalso;omega)
  | rfl
theorem DueA_c (G:Gm) (a:Aq) (c:List Int) (hw:G.ws.length<1000) (hd:G.ds.length<1000) (hs:∀w∈G.ws,w.name.size≤1000) (hc:c.length<1000):Fn0 Tryz.prog 14 [gmA G,aqA a,.slc 1 (iR c) .non] (fun v=>v=plA (duO G a c)):=by
 have hck:=gCheck_c G hw hd hs
 have hca:=checkAsk_c G a hw
 by_cases h0:gmErr G=0
 rotate_left
 · rw[show duO G a c=([],gmErr G) from if_neg h0]
   unfold plA
   rw[if_neg h0]
   refine RawC.walk (H:=hint14 Tryz.prog) ir14 Tryz.func14 rfl rfl rfl ?_
   unfold ir14
   repeat' (first
    | with_reducible refine Rd.p ?_
    | with_reducible (first|refine zL ?_|refine zS ?_|refine zV ?_|refine zC ?_)
    | ((with_reducible refine aC ?_);first|(refine ACall.val hck rfl rfl ?_))
    | refine aX ?_|with_reducible intro _
    | refine aP ?_ ?_)
   all_goals first
    | (exfalso;omega)
    | rfl
 rw[h0] at hck
 have hG:=gm_ok h0
 have hcen:=hG.cen
 have hcc:=checkCourse_c G (invW G.ws.length) (gmOK h0) c hc
 by_cases h1:askErr G.ws.length a=0
 rotate_left
 · rw[show duO G a c=([],askErr G.ws.length a) by unfold duO;rw[if_pos h0,if_neg h1]]
   unfold plA
   rw[if_neg h1]
   refine RawC.walk (H:=hint14 Tryz.prog) ir14 Tryz.func14 rfl rfl rfl ?_
   unfold ir14
   repeat' (first
    | with_reducible refine Rd.p ?_
    | with_reducible (first|refine zL ?_|refine zS ?_|refine zV ?_|refine zC ?_)
    | ((with_reducible refine aC ?_);first|(refine ACall.val hck rfl rfl ?_)|(refine ACall.val hca rfl rfl ?_))
    | refine aX ?_|with_reducible intro _
    | refine aP ?_ ?_)
   all_goals first
    | (exfalso;omega)
    | rfl
 rw[h1] at hca
 by_cases h2:courseErr G c=0
 rotate_left
 · rw[show duO G a c=([],courseErr G c) by unfold duO;rw[if_pos h0,if_pos h1,if_neg h2]]
   unfold plA
   rw[if_neg h2]
   refine RawC.walk (H:=hint14 Tryz.prog) ir14 Tryz.func14 rfl rfl rfl ?_
   unfold ir14
   repeat' (first
    | with_reducible refine Rd.p ?_
    | with_reducible (first|refine zL ?_|refine zS ?_|refine zV ?_|refine zC ?_)
    | ((with_reducible refine aC ?_);first|(refine ACall.val hck rfl rfl ?_)|(refine ACall.val hca rfl rfl ?_)|(refine ACall.val hcc rfl rfl ?_))
    | refine aX ?_|with_reducible intro _
    | refine aP ?_ ?_)
   all_goals first
    | (exfalso;omega)
    | rfl
 rw[h2] at hcc
 obtain⟨hl,hin⟩:=courseErr_ok h2
 have hdu:=due_c G a c hG.n6 hG.d24 (by omega) (by omega) hin
 rw[show duO G a c=(dueF G a c,0) by unfold duO;rw[if_pos h0,if_pos h1,if_pos h2]]
 refine RawC.walk (H:=hint14 Tryz.prog) ir14 Tryz.func14 rfl rfl rfl ?_
 unfold ir14
 repeat' (first
  | with_reducible refine Rd.p ?_
  | with_reducible (first|refine zL ?_|refine zS ?_|refine zV ?_|refine zC ?_)
  | ((with_reducible refine aC ?_);first|(refine ACall.val hck rfl rfl ?_)|(refine ACall.val hca rfl rfl ?_)|(refine ACall.val hcc rfl rfl ?_)|(refine ACall.val hdu rfl rfl ?_))
  | refine aX ?_|with_reducible intro _
  | refine aP ?_ ?_)
 all_goals first
  | (exfalso;omega)
  | rfl
end Go.Abs
set_option linter.unusedVariables false
set_option linter.unusedSimpArgs false
set_option maxRecDepth 20000
set_option maxHeartbeats 4000000
namespace Go.Abs
open Go.Proofs
def ir17:IFn:=
 ⟨130,[(4,none),(5,none),(6,none)],(.seq (.ops [oo 2 (.box 2 0),oo 3 (.box 2 1),oo 4 (.mov (.k .nsl)),oo 5 (.mov (.k .nsl)),oo 6 (.mov (kI 0))])
 (.seq (.seq (.ops [oo 18 (.ld 2 true 2),oo 19 (.callF 26 [18]),oo 7 (.mov 19)])
 (.seq (.ops [oo 20 (.mov 7),oo 21 (.bin .neq 20 (kI 0))])
 (.cnd 21
 (.seq (.ops [oo 22 (.mov 7),oo 4 (.mov (.k .nsl)),oo 5 (.mov (.k .nsl)),oo 6 (.mov 22)])
 .ret)
 .skip)))
 (.seq (.seq (.ops [oo 23 (.ld 2 true 2),oo 24 (.ld 2 true 3),oo 25 (.callF 42 [23,24]),oo 8 (.mov 25)])
 (.seq (.ops [oo 26 (.mov 8),oo 27 (.bin .neq 26 (kI 0))])
 (.cnd 27
 (.seq (.ops [oo 28 (.mov 8),oo 4 (.mov (.k .nsl)),oo 5 (.mov (.k .nsl)),oo 6 (.mov 28)])
 .ret)
 .skip)))
 (.seq (.ops [oo 30 (.ld 2 true 2),oo 31 (.callF 50 [30]),oo 29 (.mov 31),oo 32 (.ext 0 29),oo 33 (.ext 1 29),oo 34 (.ext 2 29),oo 9 (.mov 32),oo 10 (.mov 33),oo 11 (.mov 34)])
 (.seq (.seq (.ops [oo 35 (.mov 11),oo 36 (.bin .neq 35 (kI 0))])
 (.cnd 36
 (.seq (.ops [oo 37 (.mov 11),oo 4 (.mov (.k .nsl)),oo 5 (.mov (.k .nsl)),oo 6 (.mov 37)])
 .ret)
 .skip))
 (.seq (.ops [oo 12 (.mov (.k .nsl))])
 (.seq (.ops [oo 13 (.mov (.k .nsl))])
 (.seq (.seq (.ops [oo 14 (.mov (kI 0))])
 (.blk 0 (.loop (.seq (.seq (.ops [oo 38 (.mov 14),oo 39 (.mov 9),oo 40 (.len false 39),oo 41 (.bin .lss 38 40)])
 (.cnd 41
 .skip
 (.exit 0)))
 (.seq (.blk 1 (.seq (.ops [oo 44 (.ld 2 true 2),oo 45 (.ld 2 true 3),oo 46 (.mov 9),oo 47 (.mov 14),oo 48 (.ixA 1 46 47),oo 49 (.ld 1 false 48),oo 50 (.callF 44 [44,45,49]),oo 15 (.mov 50)])
 (.seq (.ops [oo 16 (.mov (kI 0))])
 (.seq (.blk 2 (.loop (.seq (.seq (.ops [oo 51 (.mov 16),oo 52 (.mov 12),oo 53 (.len false 52),oo 54 (.bin .lss 51 53),oo 55 (.mov 54),
 ⟨(some 56),(some (55,true)),(.mov 12)⟩,
 ⟨(some 57),(some (55,true)),(.mov 16)⟩,
 ⟨(some 58),(some (55,true)),(.ixA 1 56 57)⟩,
 ⟨(some 59),(some (55,true)),(.ld 1 false 58)⟩,
 ⟨(some 60),(some (55,true)),(.mov 15)⟩,
 ⟨(some 61),(some (55,true)),(.callF 51 [59,60])⟩,
 ⟨(some 62),(some (55,true)),(.bin .lss 61 (kI 0))⟩,oo 63 (.pick 55 62 (kB false))])
 (.cnd 63
 .skip
 (.exit 2)))
 (.blk 3 (.ops [oo 64 (.mov 16),oo 65 (.bin .add 64 (kI 1)),oo 16 (.mov 65)])))))
 (.seq (.seq (.ops [oo 66 (.mov 16),oo 67 (.mov 12),oo 68 (.len false 67),oo 69 (.bin .eql 66 68),oo 70 (.mov 69),
 ⟨(some 71),(some (70,false)),(.mov 12)⟩,
 ⟨(some 72),(some (70,false)),(.mov 16)⟩,
 ⟨(some 73),(some (70,false)),(.ixA 1 71 72)⟩,
 ⟨(some 74),(some (70,false)),(.ld 1 false 73)⟩,
 ⟨(some 75),(some (70,false)),(.mov 15)⟩,
 ⟨(some 76),(some (70,false)),(.callF 51 [74,75])⟩,
 ⟨(some 77),(some (70,false)),(.bin .neq 76 (kI 0))⟩,oo 78 (.pick 70 (kB true) 77)])
 (.cnd 78
 (.seq (.ops [oo 79 (.mov 12),oo 80 (.bsl 1 [[.nsl]] [(0,(.k .nsl))]),oo 81 (.apm 1 24 79 80 12),oo 82 (.mov 13),oo 83 (.bsl 1 [[(.int .i64 0)]] [(0,(kI 0))]),oo 84 (.apm 1 8 82 83 13),oo 12 (.mov 81),oo 13 (.mov 84)])
 (.seq (.seq (.ops [oo 85 (.mov 12),oo 86 (.len false 85),oo 87 (.bin .sub 86 (kI 1)),oo 17 (.mov 87)])
 (.blk 4 (.loop (.seq (.seq (.ops [oo 88 (.mov 17),oo 89 (.mov 16),oo 90 (.bin .gtr 88 89)])
 (.cnd 90
 .skip
 (.exit 4)))
 (.seq (.blk 5 (.ops [oo 93 (.mov 12),oo 94 (.mov 17),oo 95 (.mov 13),oo 96 (.mov 17),oo 97 (.mov 12),oo 98 (.mov 17),oo 99 (.bin .sub 98 (kI 1)),oo 100 (.ixA 1 97 99),oo 101 (.ld 1 false 100),oo 102 (.mov 13),oo 103 (.mov 17),oo 104 (.bin .sub 103 (kI 1)),oo 105 (.ixA 1 102 104),oo 106 (.ld 1 false 105),oo 107 (.ixA 1 93 94),
 ⟨none,none,(.st 1 107 101)⟩,oo 108 (.ixA 1 95 96),
 ⟨none,none,(.st 1 108 106)⟩]))
 (.ops [oo 91 (.mov 17),oo 92 (.bin .sub 91 (kI 1)),oo 17 (.mov 92)]))))))
 (.ops [oo 109 (.mov 12),oo 110 (.mov 16),oo 111 (.mov 13),oo 112 (.mov 16),oo 113 (.mov 15),oo 114 (.ixA 1 109 110),
 ⟨none,none,(.st 1 114 113)⟩,oo 115 (.ixA 1 111 112),
 ⟨none,none,(.st 1 115 (kI 0))⟩])))
 .skip))
 (.ops [oo 116 (.mov 13),oo 117 (.mov 16),oo 118 (.mov 13),oo 119 (.mov 16),oo 120 (.ixA 1 118 119),oo 121 (.ld 1 false 120),oo 122 (.mov 10),oo 123 (.mov 14),oo 124 (.ixA 1 122 123),oo 125 (.ld 1 false 124),oo 126 (.bin .add 121 125),oo 127 (.ixA 1 116 117),
 ⟨none,none,(.st 1 127 126)⟩]))))))
 (.ops [oo 42 (.mov 14),oo 43 (.bin .add 42 (kI 1)),oo 14 (.mov 43)]))))))
 (.seq (.seq (.frz 12)
 (.seq (.frz 13)
 (.ops [oo 128 (.mov 12),oo 129 (.mov 13),oo 4 (.mov 128),oo 5 (.mov 129),oo 6 (.mov (kI 0))])))
 .ret)))))))))⟩
def hint17 (P:Program):Hint:={site:=[(81,12),(84,13)],nils:=[],frz:=[(129,12),(129,13)],mve:=[],wr:=[81,84] }
theorem shf_at {α:Type} {L:List α} {k:Nat} {z:α} (h:k<L.length):(shfL L (k+1) z)[k]?=L[k]?:=by
 unfold shfL
 rw[List.getElem?_append_left (by rw[List.length_take];omega),List.getElem?_take,if_pos (by omega)]
theorem shf_move {α:Type} {L:List α} {k:Nat} {z v:α} (h:L[k]?=some v):(shfL L (k+1) z).set (k+1) v=shfL L k v:=by
 obtain⟨h1,h2⟩:=List.getElem?_eq_some_iff.1 h
 have:=shf_step (L:=L) (k:=k) (z:=z) (d:=v) h1
 have e:L.getD k v=v:=by rw[List.getD_eq_getElem?_getD,h];rfl
 rw[e] at this
 exact this
theorem liC_at {A:List (List Int)} {k:Nat} (h:k<A.length):(liC A)[k]?=some (.slc 1 (iR (A.getD k [])) .non):=by
 rw[List.getElem?_map,List.getElem?_eq_getElem h,List.getD_eq_getElem?_getD,List.getElem?_eq_getElem h];rfl
theorem shfA {A:List (List Int)} {x:List Int} {p:Nat} {z:AV} (h:p≤A.length):(shfL (liC A) p z).set p (.slc 1 (iR x) .non)=liC (A.take p++x::A.drop p):=by
 rw[shf_set (by rw[List.length_map];exact h)]
 show List.take p (List.map _ A)++_::List.drop p (List.map _ A)=List.map _ (_++_::_)
 rw[List.map_append,List.map_take,List.map_cons,List.map_drop]
theorem shfV {V:List Int} {n:Int} {p:Nat} {z:AV} (h:p≤V.length):((shfL (nI V) p z).set p (.int .i64 0)).set p (.int .i64 n)=nI ((V.take p++0::V.drop p).set p n):=by
 have e1:V.take p++0::V.drop p=shfL V p 0:=rfl
 have hl:p≤(nI V).length:=by rw[List.length_map];exact h
 rw[shf_set hl,shf_set hl,e1,shf_set h]
 show List.take p (List.map _ V)++_::List.drop p (List.map _ V)=List.map _ (_++_::_)
 rw[List.map_append,List.map_take,List.map_cons,List.map_drop]
section
variable {P:Program} {K:(Nat→AV)→Sig→Prop} {e:Nat→AV} {σ:Sig} {x v:IOpd} {r:List IStep} {d i g off q:Nat} {c:List AV} {a:AV}
theorem w_ldQ (i:Nat) (hx:x.ev e= .ref i g off) (ho:off=q) (hσ:σ i=(g,.row c)) (hc:c[q]?=some a) (hf:forceA a=some a) (hk:stepsW P r K (upd e d a) σ):stepsW P (⟨some d,none,.ld 1 false x⟩::r) K e σ:=
 w_ldAt hx hσ (by rw[ho];exact hc) hf hk
theorem w_stQc (i:Nat) (hx:x.ev e= .ref i g off) (ho:off=q) (hσ:σ i=(g,.row c)) (hq:q<c.length) (hv:cellsO 1 (v.ev e)=some (1=1,[a])) (hk:stepsW P r K e (upd σ i (g,.row (c.set q a)))):stepsW P (⟨none,none,.st 1 x v⟩::r) K e σ:=
 w_stAt hx hσ hv (by rw[ho];exact hq) (by rw[ho];exact hk)
end
theorem rAnswers_c (G:Gm) (a:Aq) (hw:G.ws.length<1000) (hd:G.ds.length<1000) (hs:∀w∈G.ws,w.name.size≤1000):Fn0 Tryz.prog 17 [gmA G,aqA a] (fun v=>v=anA (ansO G a)):=by
 have hck:=gRefCheck_c G hw hd hs
 have hca:=rcheckAsk_c G a hw
 have hcr:=rCourses_c G hw hd hs
 obtain⟨R,hR⟩:∃R,ansO G a=R:=⟨_,rfl⟩
 rw[hR]
 unfold ansO at hR
 by_cases h0:gmErr G=0
 rotate_left
 · rw[if_neg h0] at hR
   subst hR
   unfold anA
   rw[if_neg h0]
   refine RawC.walk (H:=hint17 Tryz.prog) ir17 Tryz.func17 rfl rfl rfl ?_
   unfold ir17
   repeat' (first
    | with_reducible refine Rd.p ?_
    | with_reducible (first|refine zI fun y hy=>?_|refine zL ?_|refine zS ?_|refine zV ?_|refine zC ?_)
    | ((with_reducible refine aC ?_);first|(refine ACall.val hck rfl rfl ?_))
    | refine aX ?_|with_reducible intro _
    | with_reducible refine zJ ?_ fun y hy=>?_|refine aP ?_ ?_)
   all_goals first
    | (exfalso;omega)
    | rfl
 rw[if_pos h0] at hR
 rw[h0] at hck
 by_cases h1:askErr G.ws.length a=0
 rotate_left
 · rw[if_neg h1] at hR
   subst hR
   unfold anA
   rw[if_neg h1]
   refine RawC.walk (H:=hint17 Tryz.prog) ir17 Tryz.func17 rfl rfl rfl ?_
   unfold ir17
   repeat' (first
    | with_reducible refine Rd.p ?_
    | with_reducible (first|refine zI fun y hy=>?_|refine zL ?_|refine zS ?_|refine zV ?_|refine zC ?_)
    | ((with_reducible refine aC ?_);first|(refine ACall.val hck rfl rfl ?_)|(refine ACall.val hca rfl rfl ?_))
    | refine aX ?_|with_reducible intro _
    | with_reducible refine zJ ?_ fun y hy=>?_|refine aP ?_ ?_)
   all_goals first
    | (exfalso;omega)
    | rfl
 rw[if_pos h1] at hR
 rw[h1] at hca
 by_cases h2:(crsO G).2=0
 rotate_left
 · rw[if_neg h2] at hR
   subst hR
   have e1:(crsO G).1=[]:=by
    unfold crsO at h2 ⊢
    rw[if_pos h0] at h2 ⊢
    split
    · rename_i h;rw[if_pos h] at h2;exact absurd rfl h2
    · rfl
   rw[e1] at hcr
   unfold anA
   rw[if_neg h2]
   refine RawC.walk (H:=hint17 Tryz.prog) ir17 Tryz.func17 rfl rfl rfl ?_
   unfold ir17
   repeat' (first
    | with_reducible refine Rd.p ?_
    | with_reducible (first|refine zI fun y hy=>?_|refine zL ?_|refine zS ?_|refine zV ?_|refine zC ?_)
    | ((with_reducible refine aC ?_);first|(refine ACall.val hck rfl rfl ?_)|(refine ACall.val hca rfl rfl ?_)|(refine ACall.val hcr rfl rfl ?_))
    | refine aX ?_|with_reducible intro _
    | with_reducible refine zJ ?_ fun y hy=>?_|refine aP ?_ ?_)
   all_goals first
    | (exfalso;omega)
    | rfl
 rw[if_pos h2] at hR
 rw[h2] at hcr
 have hG:=gm_ok h0
 have hn6:=hG.n6
 have hcen:=hG.cen
 obtain⟨C,hC⟩:∃C,crsG G=C:=⟨_,rfl⟩
 have hCO:(crsO G).1=C:=by
  unfold crsO at h2 ⊢
  rw[if_pos h0] at h2 ⊢
  split
  · exact hC
  · rename_i h;rw[if_neg h] at h2;exact absurd h2 (by decide)
 have hC5:C.length≤5000:=by
  unfold crsO at h2
  rw[if_pos h0] at h2
  split at h2
  · rename_i h;rw[←hC];exact h
  · exact absurd h2 (by decide)
 have hCn:C≠[]:=by rw[←hC];exact crsG_ne hG
 have hmem:∀c∈C,(1≤c.1.length∧c.1.length≤9)∧(∀w∈c.1,0≤w∧w<(G.ws.length:Int))∧0<c.2:=fun c hc=>by
  rw[←hC] at hc
  obtain⟨⟨q1,q2⟩,q3,q4⟩:=(crsG_mem hG).1 hc
  exact⟨by omega,q2,by omega⟩
 rw[hCO] at hcr hR
 have hcr2:crsA C 0= .tup [.slc 1 (llR (C.map (·.1))) .non,.slc 1 (iR (C.map (·.2))) .non,.int .i64 0]:=by
  cases C with
  | nil=>exact absurd rfl hCn
  | cons x r=>rfl
 rw[hcr2] at hcr
 have hl0:(C.map (·.1)).length=C.length:=List.length_map _
 have hsb:sumA C≤479001600:=by rw[←hC,crsG_sum hG];exact (allW_bd hG).2
 refine RawC.walk (H:=hint17 Tryz.prog) ir17 Tryz.func17 rfl rfl rfl ?_
 unfold ir17
 repeat' (first
  | with_reducible refine Rd.p ?_
  | with_reducible (first|refine zI fun y hy=>?_|refine zL ?_|refine zS ?_|refine zV ?_|refine zC ?_)
  | ((with_reducible refine aC ?_);first|(refine ACall.val hck rfl rfl ?_)|(refine ACall.val hca rfl rfl ?_)|(refine ACall.val hcr rfl rfl ?_))
  | refine aX ?_|with_reducible intro _
  | with_reducible refine zJ ?_ fun y hy=>?_|refine aP ?_ ?_)
 all_goals try (exfalso;omega)
 have hl00:(C.map (·.2)).length=C.length:=List.length_map _
 refine w_loopK [2,3,9,10] [2,3] (fun x:List (List Int×Int)×List (List Int×Int)×List (List Int×Int)×Nat×Nat=>C=x.1++x.2.1∧x.2.1.foldl (fun A c=>ansI (dueF G a c.1) c.2 A) x.2.2.1=ansL (dueF G a) C∧srtA x.2.2.1∧(∀y∈x.2.2.1,0<y.2)∧(x.2.2.1.length≤x.1.length∧(x.1≠[]→x.2.2.1≠[]))∧(∀y∈x.2.2.1,y.1.length≤20)∧sumA x.2.2.1+sumA x.2.1=sumA C) (fun x=>x.2.1.length)
  (fun x=>[(14,.int .i64 (x.1.length:Int)),(12,ansV 12 x.2.2.1 x.2.2.2.1),(13,ansV 13 x.2.2.1 x.2.2.2.2)]) (fun x=>[(12,ansX x.2.2.1 x.2.2.2.1),(13,ansY x.2.2.1 x.2.2.2.2)]) ([],C,[],0,0) ⟨rfl,rfl,List.Pairwise.nil,(fun y hy=>by cases hy),⟨Nat.le_refl _,fun h=>absurd rfl h⟩,(fun y hy=>by cases hy),Int.zero_add _⟩ ⟨rfl,rfl,rfl,trivial⟩ ⟨rfl,rfl,trivial⟩ ?_
 rintro⟨pre,post,L,ga,gb⟩ ⟨hl,hf,hsr,hps,⟨hll,hln⟩,hl20,hsm⟩ e σ
 dsimp only at hl hf hsr hps hll hln hl20 hsm ⊢
 have hlen:=congrArg List.length hl
 rw[List.length_append] at hlen
 cases post with
 | nil=>
   simp only[List.length_nil] at hlen
   rw[List.foldl_nil] at hf
   rw[←hf] at hR
   subst hR
   cases L with
   | nil=>exact absurd rfl (hln fun h=>by rw[h] at hl;exact hCn (by rw[hl];rfl))
   | cons y0 r0=>
     have hA:frzA 12 ga (liC ((y0::r0).map (·.1))) (.msl 12 ga (y0::r0).length 1)= .slc 1 (llR ((y0::r0).map (·.1))) .non:=by
      have:=chunkLi ((y0::r0).map (·.1))
      rw[List.length_map] at this
      simp only[frzA]
      rw[if_pos ⟨trivial,trivial,by rw[List.length_map,List.length_map,Nat.mul_one]⟩,this]
     have hV:frzA 13 gb (((y0::r0).map (·.2)).map (AV.int .i64)) (.msl 13 gb (y0::r0).length 1)= .slc 1 (iR ((y0::r0).map (·.2))) .non:=by
      have:=chunk1 ((y0::r0).map (·.2))
      rw[List.length_map] at this
      simp only[frzA]
      rw[if_pos ⟨trivial,trivial,by rw[List.length_map,List.length_map,Nat.mul_one]⟩,this]
     repeat' (first
      | with_reducible refine Rd.p ?_
      | with_reducible (first|refine zI fun y hy=>?_|refine zL ?_|refine zS ?_|refine zV ?_|refine zC ?_)
      | refine aX ?_|with_reducible intro _
      | with_reducible refine zJ ?_ fun y hy=>?_|refine aP ?_ ?_)
     all_goals try (exfalso;omega)
     refine w_frzLi (A:=anF (y0::r0)) [(12,.slc 1 (llR (anF (y0::r0))) .non),(13,.msl 13 gb (y0::r0).length 1)] [(13,(gb,.row ((anS (y0::r0)).map (AV.int .i64))))] rfl rfl (List.length_map _) ⟨hA,rfl,trivial⟩ ⟨congrArg (fun z=>(gb,Res.row z)) (frzL_nI _ _ _ _),trivial⟩ ?_
     intro e2 σ2
     repeat' (first
      | with_reducible refine Rd.p ?_
      | with_reducible (first|refine zI fun y hy=>?_|refine zL ?_|refine zS ?_|refine zV ?_|refine zC ?_)
      | refine aX ?_|with_reducible intro _
      | with_reducible refine zJ ?_ fun y hy=>?_|refine aP ?_ ?_)
     refine w_frzIG (xs:=anS (y0::r0)) [(12,.slc 1 (llR (anF (y0::r0))) .non),(13,.slc 1 (iR (anS (y0::r0))) .non)] [] rfl rfl (List.length_map _) ⟨rfl,hV,trivial⟩ trivial ?_
     intro e3 σ3
     repeat' (first
      | with_reducible refine Rd.p ?_
      | with_reducible (first|refine zI fun y hy=>?_|refine zL ?_|refine zS ?_|refine zV ?_|refine zC ?_)
      | refine aX ?_|with_reducible intro _
      | with_reducible refine zJ ?_ fun y hy=>?_|refine aP ?_ ?_)
     all_goals first
      | rfl
 | cons c post=>
   simp only[List.length_cons] at hlen
   obtain⟨⟨m1,m9⟩,m2,m3⟩:=hmem c (by rw[hl];simp)
   have hdu:=rdue_c G a c.1 hn6 hG.d24 m1 m9 m2 (askErr_ok h1)
   have hdl:=dueF_len G a c.1
   obtain⟨x,hx⟩:∃x,dueF G a c.1=x:=⟨_,rfl⟩
   rw[hx] at hdu hdl
   have h1':C.map (·.1)=pre.map (·.1)++c.1::post.map (·.1):=by rw[hl,List.map_append,List.map_cons]
   have h2':C.map (·.2)=pre.map (·.2)++c.2::post.map (·.2):=by rw[hl,List.map_append,List.map_cons]
   have hi1:AV.int .i64 (pre.length:Int)= .int .i64 ((pre.map (·.1)).length:Int):=by rw[List.length_map]
   have hi2:AV.int .i64 (pre.length:Int)= .int .i64 ((pre.map (·.2)).length:Int):=by rw[List.length_map]
   rw[List.foldl_cons,hx] at hf
   rw[sumA] at hsm
   have hpn:=sumA_nn (L:=post) fun z hz=>(hmem z (by rw[hl];simp[hz])).2.2
   have hsn:=ansI_sum x c.2 L
   have hLn:=sumA_nn hps
   have hcb:c.2≤479001600:=by omega
   have hls:=ansI_len x c.2 L
   have hgo:C=(pre++[c])++post∧List.foldl (fun A c=>ansI (dueF G a c.1) c.2 A) (ansI x c.2 L) post=ansL (dueF G a) C∧srtA (ansI x c.2 L)∧(∀y∈ansI x c.2 L,0<y.2)∧((ansI x c.2 L).length≤(pre++[c]).length∧(pre++[c]≠[]→ansI x c.2 L≠[]))∧(∀y∈ansI x c.2 L,y.1.length≤20)∧sumA (ansI x c.2 L)+sumA post=sumA C:=by
    refine⟨by rw[hl];simp,hf,ansI_srt hsr,ansI_pos m3 hps,⟨by rw[len_snoc];omega,fun _ h=>by rw[h] at hls;simp at hls⟩,fun z hz=>?_,by omega⟩
    rcases ansI_mem hz with e1 | hz
    · rw[e1];omega
    · exact hl20 z hz
   have hne:ansI x c.2 L≠[]:=fun h=>by rw[h] at hls;simp at hls
   cases L with
   | nil=>
     have hzn:([]:List (List Int×Int)).length=0:=rfl
     repeat' (first
      | with_reducible refine Rd.p ?_
      | (first|refine w_ixP h1' rfl hi1 ?_|refine w_ixP h2' rfl hi2 ?_)
      | with_reducible (first|refine zI fun y hy=>?_|refine zL ?_|refine zS ?_|refine zV ?_|refine zC ?_)
      | ((with_reducible refine aC ?_);first|(refine ACall.val hdu rfl rfl ?_))
      | refine aX ?_|with_reducible intro _
      | with_reducible refine zJ ?_ fun y hy=>?_|refine aP ?_ ?_)
     all_goals try (exfalso;omega)
     refine w_loopK [2,3,9,10,12,13,14,15] [2,3,12,13] (fun _:Unit=>True) (fun _=>0) (fun _=>[(16,.int .i64 0)]) (fun _=>[]) () trivial ⟨rfl,trivial⟩ trivial ?_
     rintro⟨⟩ _ e2 σ2
     repeat' (first
      | with_reducible refine Rd.p ?_
      | (first|refine w_ixP h1' rfl hi1 ?_|refine w_ixP h2' rfl hi2 ?_)
      | with_reducible (first|refine zI fun y hy=>?_|refine zL ?_|refine zS ?_|refine zV ?_|refine zC ?_)
      | ((with_reducible refine aC ?_);first|(refine ACall.val hdu rfl rfl ?_))
      | refine aX ?_|with_reducible intro _
      | with_reducible refine zJ ?_ fun y hy=>?_|refine aP ?_ ?_)
     all_goals first|(exfalso;omega)|(refine⟨trivial,?_⟩;unfold inI;simp;done) | skip
     rename_i g12 g13
     refine w_loopK [2,3,9,10,12,13,14,15,16] [2,3] (fun _:Unit=>True) (fun _=>0) (fun _=>[(17,.int .i64 0)]) (fun _=>[(12,(g12,.row [.nsl])),(13,(g13,.row [.int .i64 0]))]) () trivial ⟨rfl,trivial⟩ ⟨rfl,rfl,trivial⟩ ?_
     rintro⟨⟩ _ e3 σ3
     repeat' (first
      | with_reducible refine Rd.p ?_
      | (first|refine w_ixP h1' rfl hi1 ?_|refine w_ixP h2' rfl hi2 ?_|refine w_stQc (q:=0) 12 rfl rfl rfl (Nat.lt_succ_self 0) rfl ?_|refine w_stQc (q:=0) 13 rfl rfl rfl (Nat.lt_succ_self 0) rfl ?_|refine w_ldQ (q:=0) 13 rfl rfl rfl rfl rfl ?_)
      | with_reducible (first|refine zI fun y hy=>?_|refine zL ?_|refine zS ?_|refine zV ?_|refine zC ?_)
      | refine aX ?_|with_reducible intro _
      | with_reducible refine zJ ?_ fun y hy=>?_|refine aP ?_ ?_)
     all_goals first
      | (exfalso;omega)
      | exact q_loop (pre++[c],post,ansI x c.2 [],g12,g13) hgo (by show post.length<post.length+1;omega) ⟨by rw[len_snoc];rfl,rfl,rfl,trivial⟩ ⟨rfl,(by show (g13,Res.row [AV.int .i64 (0+c.2)])=(g13,Res.row [AV.int .i64 c.2]);rw[Int.zero_add]),trivial⟩ aK aK
   | cons y0 r0=>
     obtain⟨p,hp⟩:∃p,posI x (y0::r0)=p:=⟨_,rfl⟩
     have hpl:=posI_le x (y0::r0)
     have hpi:=posI_iff (x:=x) hsr
     have hold:=@anA_old x c.2 (y0::r0)
     have hnew:=@anA_new x c.2 (y0::r0)
     rw[hp] at hpl hpi hold hnew
     have hAl:(anF (y0::r0)).length=(y0::r0).length:=List.length_map _
     have hVl:(anS (y0::r0)).length=(y0::r0).length:=List.length_map _
     have hsp:=sumA_mem hps p
     have hbf:∀q,q<(y0::r0).length→Fn0 Tryz.prog 51 [.slc 1 (iR ((anF (y0::r0)).getD q [])) .non,.slc 1 (iR x) .non] (fun v=>v= .int .i64 (befF ((anF (y0::r0)).getD q []) x)):=fun q hq=>befr_c _ _ (by
      rw[List.getD_eq_getElem?_getD,List.getElem?_map,List.getElem?_eq_getElem hq]
      have:=hl20 (y0::r0)[q] (List.getElem_mem hq)
      show ((y0::r0)[q]).1.length<_
      omega) (by omega)
     repeat' (first
      | with_reducible refine Rd.p ?_
      | (first|refine w_ixP h1' rfl hi1 ?_|refine w_ixP h2' rfl hi2 ?_)
      | with_reducible (first|refine zI fun y hy=>?_|refine zL ?_|refine zS ?_|refine zV ?_|refine zC ?_)
      | ((with_reducible refine aC ?_);first|(refine ACall.val hdu rfl rfl ?_))
      | refine aX ?_|with_reducible intro _
      | with_reducible refine zJ ?_ fun y hy=>?_|refine aP ?_ ?_)
     all_goals try (exfalso;omega)
     refine w_loopK [2,3,9,10,12,13,14,15] [2,3,12,13] (fun q:Nat=>q≤p) (fun q=>p-q) (fun q=>[(16,.int .i64 (q:Int))]) (fun _=>[]) 0 (Nat.zero_le _) ⟨rfl,trivial⟩ trivial ?_
     rintro q hq e2 σ2
     try dsimp only at hq ⊢
     by_cases hqp:q<p
     · have hb:=hbf q (by omega)
       have hng:befF ((anF (y0::r0)).getD q []) x<0:=befF_lt.2 ((hpi q (by omega)).2 hqp)
       have hpA:q<(anF (y0::r0)).length:=by rw[hAl];omega
       repeat' (first
        | with_reducible refine Rd.p ?_
        | (first|refine w_ldLi (q:=q) (L:=anF (y0::r0)) rfl (by omega) rfl hpA rfl ?_)
        | with_reducible (first|refine zI fun y hy=>?_|refine zL ?_|refine zS ?_|refine zV ?_|refine zC ?_)
        | ((with_reducible refine aC ?_);first|(refine ACall.val hb rfl rfl ?_))
        | refine aX ?_|with_reducible intro _
        | with_reducible refine zJ ?_ fun y hy=>?_|refine aP ?_ ?_)
       all_goals first
        | (exfalso;omega)
        | exact q_loop (q+1) (by show q+1≤p;omega) (by show p-(q+1)<p-q;omega) ⟨int_eq (by simp),trivial⟩ aS aK aK
     have hqe:p=q:=by omega
     subst hqe
     by_cases his:p<(y0::r0).length∧(anF (y0::r0)).getD p []=x
     · obtain⟨o1,o2,o3⟩:=hold his
       have hb:=hbf p his.1
       rw[his.2,befF_eq.2 rfl] at hb
       have hpv:p<(anS (y0::r0)).length:=by rw[hVl];exact his.1
       have hi1':=his.1
       have hpA:p<(anF (y0::r0)).length:=by rw[hAl];exact his.1
       repeat' (first
        | with_reducible refine Rd.p ?_
        | (first|refine w_ixP h1' rfl hi1 ?_|refine w_ixP h2' rfl hi2 ?_|refine w_ldLi (q:=p) (L:=anF (y0::r0)) rfl (by omega) rfl hpA his.2 ?_|refine w_ldEl (p:=p) rfl (by omega) rfl hpv ?_|refine w_stEl (p:=p) rfl (by omega) rfl hpv rfl ?_)
        | with_reducible (first|refine zI fun y hy=>?_|refine zL ?_|refine zS ?_|refine zV ?_|refine zC ?_)
        | ((with_reducible refine aC ?_);first|(refine ACall.val hb rfl rfl ?_))
        | refine aX ?_|with_reducible intro _
        | with_reducible refine zJ ?_ fun y hy=>?_|refine aP ?_ ?_)
       all_goals first
        | (exfalso;omega)
        | exact q_loop (pre++[c],post,ansI x c.2 (y0::r0),ga,gb) hgo (by show post.length<post.length+1;omega) ⟨by rw[len_snoc];rfl,(by show _=ansV _ _ _;rw[ansV_of hne,o3];rfl),(by show _=ansV _ _ _;rw[ansV_of hne,o3];rfl),trivial⟩ ⟨(by show _=ansX _ _;rw[ansX_of hne,o1];rfl),(by show _=ansY _ _;rw[ansY_of hne,o2];rfl),trivial⟩ aK aK
     obtain⟨o1,o2,o3⟩:=hnew his
     have hAp:p≤(anF (y0::r0)).length:=by rw[hAl];exact hpl
     have hVp:p≤(anS (y0::r0)).length:=by rw[hVl];exact hpl
     have hlA:∀j z,j≤(y0::r0).length→(shfL (liC (anF (y0::r0))) j z).length=(y0::r0).length+1:=fun j z hj=>by rw[shf_len (by rw[List.length_map,hAl];exact hj),List.length_map,hAl]
     have hlV:∀j z,j≤(y0::r0).length→(shfL (nI (anS (y0::r0))) j z).length=(y0::r0).length+1:=fun j z hj=>by rw[shf_len (by rw[List.length_map,hVl];exact hj),List.length_map,hVl]
     by_cases hpx:p<(y0::r0).length
     · have hb:=hbf p hpx
       have hnx:(anF (y0::r0)).getD p []≠x:=fun h=>his ⟨hpx,h⟩
       have hn1:¬befF ((anF (y0::r0)).getD p []) x<0:=fun h=>absurd ((hpi p hpx).1 (befF_lt.1 h)) (by omega)
       have hn2:befF ((anF (y0::r0)).getD p []) x≠0:=fun h=>hnx (befF_eq.1 h)
       have hpA:p<(anF (y0::r0)).length:=by rw[hAl];exact hpx
       repeat' (first
        | with_reducible refine Rd.p ?_
        | (first|refine w_ixP h1' rfl hi1 ?_|refine w_ixP h2' rfl hi2 ?_|refine w_ldLi (q:=p) (L:=anF (y0::r0)) rfl (by omega) rfl hpA rfl ?_)
        | with_reducible (first|refine zI fun y hy=>?_|refine zL ?_|refine zS ?_|refine zV ?_|refine zC ?_)
        | ((with_reducible refine aC ?_);first|(refine ACall.val hb rfl rfl ?_))
        | refine aX ?_|with_reducible intro _
        | with_reducible refine zJ ?_ fun y hy=>?_|refine aP ?_ ?_)
       all_goals first|(exfalso;omega)|(refine⟨trivial,?_⟩;show inI ((((y0::r0).length+1:Nat):Int)-1);unfold inI;omega) | skip
       rename_i g12 g13
       refine w_loopK [2,3,9,10,12,13,14,15,16] [2,3] (fun y:Nat×AV×AV=>p≤y.1∧y.1≤(y0::r0).length) (fun y=>y.1) (fun y=>[(17,.int .i64 (y.1:Int))]) (fun y=>[(12,(g12,.row (shfL (liC (anF (y0::r0))) y.1 y.2.1))),(13,(g13,.row (shfL (nI (anS (y0::r0))) y.1 y.2.2)))]) ((y0::r0).length,.nsl,.int .i64 0) ⟨hpl,Nat.le_refl _⟩ ⟨int_eq (by show (((y0::r0).length+1:Nat):Int)-1=((y0::r0).length:Nat);omega),trivial⟩ ⟨(by
        show (g12,Res.row (liC (anF (y0::r0))++[AV.nsl]))=(g12,Res.row (shfL (liC (anF (y0::r0))) (y0::r0).length AV.nsl))
        have:=shf_end (liC (anF (y0::r0))) AV.nsl
        rw[this,List.length_map,hAl]),(by
        show (g13,Res.row (nI (anS (y0::r0))++[AV.int .i64 0]))=(g13,Res.row (shfL (nI (anS (y0::r0))) (y0::r0).length (AV.int .i64 0)))
        have:=shf_end (nI (anS (y0::r0))) (AV.int .i64 0)
        rw[this,List.length_map,hVl]),trivial⟩ ?_
       rintro⟨j,z1,z2⟩ ⟨hj1,hj2⟩ e3 σ3
       dsimp only at hj1 hj2 ⊢
       by_cases hjp:p<j
       · cases j with
         | zero=>exact absurd hjp (Nat.not_lt_zero _)
         | succ j=>
           have hjA:j<(anF (y0::r0)).length:=by omega
           have hjV:j<(anS (y0::r0)).length:=by omega
           have qA:=(shf_at (z:=z1) (show j<(liC (anF (y0::r0))).length by rw[List.length_map];exact hjA)).trans (liC_at hjA)
           have qV:=(shf_at (z:=z2) (show j<(nI (anS (y0::r0))).length by rw[List.length_map];exact hjV)).trans (nI_get hjV)
           have mA:=shf_move (z:=z1) (liC_at hjA)
           have mV:=shf_move (z:=z2) (nI_get hjV)
           have lA:=hlA (j+1) z1 hj2
           have lV:=hlV (j+1) z2 hj2
           repeat' (first
            | with_reducible refine Rd.p ?_
            | (first|refine w_ldQ (q:=j) 12 rfl (by omega) rfl qA rfl ?_|refine w_ldQ (q:=j) 13 rfl (by omega) rfl qV rfl ?_|refine w_stQc (q:=j+1) 12 rfl (by omega) rfl (by rw[lA];omega) rfl ?_|refine w_stQc (q:=j+1) 13 rfl (by omega) rfl (by rw[lV];omega) rfl ?_)
            | with_reducible (first|refine zI fun y hy=>?_|refine zL ?_|refine zS ?_|refine zV ?_|refine zC ?_)
            | refine aX ?_|with_reducible intro _
            | with_reducible refine zJ ?_ fun y hy=>?_|refine aP ?_ ?_)
           all_goals first
            | (exfalso;omega)
            | exact q_loop (j,_,_) ⟨by show p≤j;omega,by show j≤_;omega⟩ (Nat.lt_succ_self _) ⟨int_eq (by simp),trivial⟩ ⟨congrArg (fun z=>(g12,Res.row z)) mA,congrArg (fun z=>(g13,Res.row z)) mV,trivial⟩ aK aK
       have hje:p=j:=by omega
       subst hje
       have lA:=hlA p z1 hpl
       have lV:=hlV p z2 hpl
       have q0:((shfL (nI (anS (y0::r0))) p z2).set p (.int .i64 0))[p]?=some (.int .i64 0):=List.getElem?_set_self (by rw[lV];omega)
       have mA:=shfA (x:=x) (z:=z1) hAp
       have mV:=shfV (n:=0+c.2) (z:=z2) hVp
       repeat' (first
        | with_reducible refine Rd.p ?_
        | (first|refine w_ixP h1' rfl hi1 ?_|refine w_ixP h2' rfl hi2 ?_|refine w_stQc (q:=p) 12 rfl (by omega) rfl (by rw[lA];omega) rfl ?_|refine w_ldQ (q:=p) 13 rfl (by omega) rfl q0 rfl ?_|refine w_stQc (q:=p) 13 rfl (by omega) rfl (by rw[lV];omega) rfl ?_|refine w_stQc (q:=p) 13 rfl (by omega) rfl (by rw[List.length_set,lV];omega) rfl ?_)
        | with_reducible (first|refine zI fun y hy=>?_|refine zL ?_|refine zS ?_|refine zV ?_|refine zC ?_)
        | refine aX ?_|with_reducible intro _
        | with_reducible refine zJ ?_ fun y hy=>?_|refine aP ?_ ?_)
       all_goals first
        | (exfalso;omega)
        | exact q_loop (pre++[c],post,ansI x c.2 (y0::r0),g12,g13) hgo (by show post.length<post.length+1;omega) ⟨by rw[len_snoc];rfl,(by show _=ansV _ _ _;rw[ansV_of hne,o3];rfl),(by show _=ansV _ _ _;rw[ansV_of hne,o3];rfl),trivial⟩ ⟨(by show _=ansX _ _;rw[ansX_of hne,o1];exact congrArg (fun z=>(g12,Res.row z)) mA),(by show _=ansY _ _;rw[ansY_of hne,o2];exact congrArg (fun z=>(g13,Res.row z)) mV),trivial⟩ aK aK
     · have hpe:p=(y0::r0).length:=by omega
       repeat' (first
        | with_reducible refine Rd.p ?_
        | (first|refine w_ixP h1' rfl hi1 ?_|refine w_ixP h2' rfl hi2 ?_)
        | with_reducible (first|refine zI fun y hy=>?_|refine zL ?_|refine zS ?_|refine zV ?_|refine zC ?_)
        | refine aX ?_|with_reducible intro _
        | with_reducible refine zJ ?_ fun y hy=>?_|refine aP ?_ ?_)
       all_goals first|(exfalso;omega)|(refine⟨trivial,?_⟩;show inI ((((y0::r0).length+1:Nat):Int)-1);unfold inI;omega) | skip
       rename_i g12 g13
       refine w_loopK [2,3,9,10,12,13,14,15,16] [2,3] (fun y:Nat×AV×AV=>p≤y.1∧y.1≤(y0::r0).length) (fun y=>y.1) (fun y=>[(17,.int .i64 (y.1:Int))]) (fun y=>[(12,(g12,.row (shfL (liC (anF (y0::r0))) y.1 y.2.1))),(13,(g13,.row (shfL (nI (anS (y0::r0))) y.1 y.2.2)))]) ((y0::r0).length,.nsl,.int .i64 0) ⟨hpl,Nat.le_refl _⟩ ⟨int_eq (by show (((y0::r0).length+1:Nat):Int)-1=((y0::r0).length:Nat);omega),trivial⟩ ⟨(by
        show (g12,Res.row (liC (anF (y0::r0))++[AV.nsl]))=(g12,Res.row (shfL (liC (anF (y0::r0))) (y0::r0).length AV.nsl))
        have:=shf_end (liC (anF (y0::r0))) AV.nsl
        rw[this,List.length_map,hAl]),(by
        show (g13,Res.row (nI (anS (y0::r0))++[AV.int .i64 0]))=(g13,Res.row (shfL (nI (anS (y0::r0))) (y0::r0).length (AV.int .i64 0)))
        have:=shf_end (nI (anS (y0::r0))) (AV.int .i64 0)
        rw[this,List.length_map,hVl]),trivial⟩ ?_
       rintro⟨j,z1,z2⟩ ⟨hj1,hj2⟩ e3 σ3
       dsimp only at hj1 hj2 ⊢
       by_cases hjp:p<j
       · cases j with
         | zero=>exact absurd hjp (Nat.not_lt_zero _)
         | succ j=>
           have hjA:j<(anF (y0::r0)).length:=by omega
           have hjV:j<(anS (y0::r0)).length:=by omega
           have qA:=(shf_at (z:=z1) (show j<(liC (anF (y0::r0))).length by rw[List.length_map];exact hjA)).trans (liC_at hjA)
           have qV:=(shf_at (z:=z2) (show j<(nI (anS (y0::r0))).length by rw[List.length_map];exact hjV)).trans (nI_get hjV)
           have mA:=shf_move (z:=z1) (liC_at hjA)
           have mV:=shf_move (z:=z2) (nI_get hjV)
           have lA:=hlA (j+1) z1 hj2
           have lV:=hlV (j+1) z2 hj2
           repeat' (first
            | with_reducible refine Rd.p ?_
            | (first|refine w_ldQ (q:=j) 12 rfl (by omega) rfl qA rfl ?_|refine w_ldQ (q:=j) 13 rfl (by omega) rfl qV rfl ?_|refine w_stQc (q:=j+1) 12 rfl (by omega) rfl (by rw[lA];omega) rfl ?_|refine w_stQc (q:=j+1) 13 rfl (by omega) rfl (by rw[lV];omega) rfl ?_)
            | with_reducible (first|refine zI fun y hy=>?_|refine zL ?_|refine zS ?_|refine zV ?_|refine zC ?_)
            | refine aX ?_|with_reducible intro _
            | with_reducible refine zJ ?_ fun y hy=>?_|refine aP ?_ ?_)
           all_goals first
            | (exfalso;omega)
            | exact q_loop (j,_,_) ⟨by show p≤j;omega,by show j≤_;omega⟩ (Nat.lt_succ_self _) ⟨int_eq (by simp),trivial⟩ ⟨congrArg (fun z=>(g12,Res.row z)) mA,congrArg (fun z=>(g13,Res.row z)) mV,trivial⟩ aK aK
       have hje:p=j:=by omega
       subst hje
       have lA:=hlA p z1 hpl
       have lV:=hlV p z2 hpl
       have q0:((shfL (nI (anS (y0::r0))) p z2).set p (.int .i64 0))[p]?=some (.int .i64 0):=List.getElem?_set_self (by rw[lV];omega)
       have mA:=shfA (x:=x) (z:=z1) hAp
       have mV:=shfV (n:=0+c.2) (z:=z2) hVp
       repeat' (first
        | with_reducible refine Rd.p ?_
        | (first|refine w_ixP h1' rfl hi1 ?_|refine w_ixP h2' rfl hi2 ?_|refine w_stQc (q:=p) 12 rfl (by omega) rfl (by rw[lA];omega) rfl ?_|refine w_ldQ (q:=p) 13 rfl (by omega) rfl q0 rfl ?_|refine w_stQc (q:=p) 13 rfl (by omega) rfl (by rw[lV];omega) rfl ?_|refine w_stQc (q:=p) 13 rfl (by omega) rfl (by rw[List.length_set,lV];omega) rfl ?_)
        | with_reducible (first|refine zI fun y hy=>?_|refine zL ?_|refine zS ?_|refine zV ?_|refine zC ?_)
        | refine aX ?_|with_reducible intro _
        | with_reducible refine zJ ?_ fun y hy=>?_|refine aP ?_ ?_)
       all_goals first
        | (exfalso;omega)
        | exact q_loop (pre++[c],post,ansI x c.2 (y0::r0),g12,g13) hgo (by show post.length<post.length+1;omega) ⟨by rw[len_snoc];rfl,(by show _=ansV _ _ _;rw[ansV_of hne,o3];rfl),(by show _=ansV _ _ _;rw[ansV_of hne,o3];rfl),trivial⟩ ⟨(by show _=ansX _ _;rw[ansX_of hne,o1];exact congrArg (fun z=>(g12,Res.row z)) mA),(by show _=ansY _ _;rw[ansY_of hne,o2];exact congrArg (fun z=>(g13,Res.row z)) mV),trivial⟩ aK aK
end Go.Abs
