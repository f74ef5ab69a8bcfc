/- A part of the layer of abstract values: the program is read into steps over values, each step is sound, and a walk over the steps is a proof of the program. No condition. -/
import Derived.Test.YtioggblimkgioaaGreatAbs
import Derived.ChangeKeysEq
set_option linter.unusedVariables false
set_option linter.unusedSimpArgs false
namespace Go.Abs
theorem ov_inj{α:Type}{p q:Prop}{v u:α}(h:some (p,v)=some (q,u)):p=q∧v=u:=by injection h with h;exact Prod.mk.inj h
theorem forceA_eq{a v:AV}(h:forceA a=some v):v=a:=by cases a<;>simp[forceA] at h<;>exact h.symm
theorem liftV_force{a:AV}{p:Prop}{v:AV}(h:liftV (forceA a)=some (p,v)):v=a:=by
 cases hf:forceA a with
 | none=>rw[hf] at h;simp[liftV] at h
 | some u=>rw[hf] at h;rw[←(ov_inj h).2];exact forceA_eq hf
theorem ofV_rel(G:GS)(v:Value):Rel G (ofV v) v:=by
 unfold ofV;split<;>try (first | exact trivial | exact rfl)
 split
 · rename_i h;refine⟨_,_,rfl,?_,?_⟩
   · exact List.eq_nil_of_length_eq_zero (by simpa using h.1)
   · exact List.eq_nil_of_length_eq_zero (by simpa using h.2)
 · exact trivial
def ORel(G:GS)(e:Nat→AV)(ρ:Operand→Value):Prop:=∀x y,cOpd x=some y→Rel G (y.ev e) (ρ x)
theorem orel_act{G:GS}{e:Nat→AV}{a:Act}(h:∀t,Rel G (e t) (a.tmps.getD t undef)):ORel G e a.eval:=by
 intro x y hx;cases x with
 | tmp t=>simp[cOpd] at hx;subst hx;exact h t
 | const v=>simp[cOpd] at hx;subst hx;exact ofV_rel G v
 | func f=>simp[cOpd] at hx;subst hx;exact⟨#[],#[],rfl,rfl,rfl⟩
 | global g=>simp[cOpd] at hx
section
variable {P:Program} {G:GS} {w:World} {a b c v:AV} {p:Prop} {va vb vc:Value}
theorem run_eqGuard_int(op:BinOp)(t:TypeId)(x y:Operand)(k k':IntKind)(m n:Int):(eqGuard op t x y (.int k m) (.int k' n)).run P w= .ok () w:=by unfold eqGuard;cases op<;>rfl
theorem run_eqGuard_str(op:BinOp)(t:TypeId)(x y:Operand)(m n:ByteArray):(eqGuard op t x y (.string m) (.string n)).run P w= .ok () w:=by unfold eqGuard;cases op<;>rfl
theorem kix_eq{k k':IntKind}(h:Nat.beq (kix k) (kix k')=true):k=k':=by cases k<;>cases k'<;>first | rfl | exact absurd h (by decide)
theorem fitV_rel{k:IntKind}{q:Prop}{n:Int}(h:fitV k q n=some (p,v))(hp:p):q∧v= .int k (k.wrap n):=by
 cases k<;>simp only[fitV] at h
 case i64=>obtain⟨rfl,rfl⟩:=ov_inj h;exact⟨hp.1,by rw[IntWalk.i64_in n hp.2]⟩
 all_goals (obtain⟨rfl,rfl⟩:=ov_inj h;exact⟨hp,rfl⟩)
theorem s_int{op:BinOp}{t:TypeId}{x y:Operand}{k k':IntKind}{m n:Int}(h:intO op k m k' n=some (p,v))(hp:p):
  ∃v',(do eqGuard op t x y (.int k m) (.int k' n);binOp op t (.int k m) (.int k' n)).run P w= .ok v' w∧Rel G v v':=by
 rw[Sem.run_bind,run_eqGuard_int,Result.andThen_ok];by_cases hk:k=k'
 · subst hk;have hb:Nat.beq (kix k) (kix k)=true:=by simp
   cases op<;>simp only[intO,hb] at h
   case shl=> obtain⟨h0,rfl⟩:=fitV_rel h hp;exact⟨_,by simp[binOp,Op.shift,Int.not_lt.2 h0],rfl⟩
   case shr=> obtain⟨rfl,rfl⟩:=ov_inj h;exact⟨_,by simp[binOp,Op.shift,Int.not_lt.2 hp],rfl⟩
   case add=>obtain⟨_,rfl⟩:=fitV_rel h hp;exact⟨_,by simp[binOp,Op.intArith],rfl⟩
   case sub=>obtain⟨_,rfl⟩:=fitV_rel h hp;exact⟨_,by simp[binOp,Op.intArith],rfl⟩
   case mul=>obtain⟨_,rfl⟩:=fitV_rel h hp;exact⟨_,by simp[binOp,Op.intArith],rfl⟩
   case quo=>obtain⟨h0,rfl⟩:=fitV_rel h hp;exact⟨_,by simp[binOp,Op.intDiv,h0],rfl⟩
   case rem=>obtain⟨rfl,rfl⟩:=ov_inj h;exact⟨_,by simp[binOp,Op.intDiv,hp],rfl⟩
   case and=>obtain⟨rfl,rfl⟩:=ov_inj h;exact⟨_,by simp only[binOp,ne_eq,not_true,if_false,Op.intBits];rfl,rfl⟩
   case or=>obtain⟨rfl,rfl⟩:=ov_inj h;exact⟨_,by simp only[binOp,ne_eq,not_true,if_false,Op.intBits];rfl,rfl⟩
   case xor=>obtain⟨rfl,rfl⟩:=ov_inj h;exact⟨_,by simp only[binOp,ne_eq,not_true,if_false,Op.intBits];rfl,rfl⟩
   case andNot=>obtain⟨rfl,rfl⟩:=ov_inj h;exact⟨_,by simp only[binOp,ne_eq,not_true,if_false,Op.intBits];rfl,rfl⟩
   all_goals (obtain⟨rfl,rfl⟩:=ov_inj h;refine⟨_,by simp[binOp,Op.intCmp];rfl,?_⟩;simp[Rel];try (by_cases e:m=n<;>simp[e]))
 · have hb:Nat.beq (kix k) (kix k')=false:=by
    cases e:Nat.beq (kix k) (kix k') with
    | false=>rfl
    | true=>exact absurd (kix_eq e) hk
   cases op<;>simp only[intO,hb] at h
   case shl=> obtain⟨h0,rfl⟩:=fitV_rel h hp;exact⟨_,by simp[binOp,Op.shift,Int.not_lt.2 h0],rfl⟩
   case shr=> obtain⟨rfl,rfl⟩:=ov_inj h;exact⟨_,by simp[binOp,Op.shift,Int.not_lt.2 hp],rfl⟩
   all_goals (simp at h)
theorem bytes_ext{m n:ByteArray}(h:m.data.toList=n.data.toList):m=n:=by cases m with | mk a=>cases n with | mk b=>congr 1;exact Array.toList_inj.1 h
theorem bytes_eq(m n:ByteArray):(m.toList == n.toList)=decide (m=n):=by rw[ByteArray.toList_eq,ByteArray.toList_eq,Bool.eq_iff_iff];simp only[beq_iff_eq,decide_eq_true_eq];exact⟨bytes_ext,fun h=>by rw[h]⟩
theorem s_str{op:BinOp}{t:TypeId}{x y:Operand}{m n:ByteArray}(h:strO op m n=some (p,v))(hp:p):
  ∃v',(do eqGuard op t x y (.string m) (.string n);binOp op t (.string m) (.string n)).run P w= .ok v' w∧Rel G v v':=by
 rw[Sem.run_bind,run_eqGuard_str,Result.andThen_ok];cases op<;>simp only[strO] at h
 case add=> obtain⟨rfl,rfl⟩:=ov_inj h;refine⟨.string (m++n),?_,rfl⟩;simp only[binOp,Op.stringOp];rw[if_neg (by simp only[IntKind.max];simp[IntKind.signed,IntKind.bits];omega)];rfl
 case eql=> obtain⟨rfl,rfl⟩:=ov_inj h;refine⟨.bool (m.toList == n.toList),by simp only[binOp,Op.stringOp];rfl,?_⟩;rw[bytes_eq];rfl
 case neq=> obtain⟨rfl,rfl⟩:=ov_inj h;refine⟨.bool !(m.toList == n.toList),by simp only[binOp,Op.stringOp];rfl,?_⟩;rw[bytes_eq];simp[Rel]
 case lss=> obtain⟨rfl,rfl⟩:=ov_inj h;refine⟨.bool (Op.bytesLess m.toList n.toList),by simp only[binOp,Op.stringOp];rfl,?_⟩;rw[ByteArray.toList_eq,ByteArray.toList_eq];rfl
 all_goals (cases h)
theorem s_bin{op:BinOp}{t:TypeId}{x y:Operand}(ha:Rel G a va)(hb:Rel G b vb)(h:binO op a b=some (p,v))(hp:p):
  ∃v',(do eqGuard op t x y va vb;binOp op t va vb).run P w= .ok v' w∧Rel G v v':=by
 unfold binO at h;split at h
 · simp only[Rel] at ha hb;subst ha;subst hb;exact s_int h hp
 · simp only[Rel] at ha hb;subst ha;subst hb;exact s_str h hp
 · cases h
theorem s_pick(hc:Rel G c vc)(ha:Rel G a va)(hb:Rel G b vb)(h:pickO c a b=some (p,v)):
  ∃t,vc= .bool t∧Rel G v (if t then va else vb):=by
 cases c<;>try (cases h;done)
 rename_i t;simp only[Rel] at hc;refine⟨t,hc,?_⟩;unfold pickO at h;simp only at h;split at h
 · obtain⟨_,rfl⟩:=ov_inj h;simp only[Rel] at ha hb ⊢;subst ha;subst hb;cases t<;>rfl
 · cases t
   · rw[liftV_force h];exact hb
   · rw[liftV_force h];exact ha
theorem run_eqGuard_pure{op:BinOp}{t:TypeId}{x y:Operand}(h1:∀cs ds,¬(va= .agg cs∧vb= .agg ds))(h2:¬(va= .nilIface∧vb= .nilIface)):(eqGuard op t x y va vb).run P w= .ok () w:=by cases op<;>first | rfl | (cases va<;>first | rfl | (cases vb<;>first | rfl | exact absurd ⟨rfl,rfl⟩ h2 | exact absurd ⟨rfl,rfl⟩ (h1 _ _)))
def eqFits(k:EqK):TypeDesc→Prop
 | .struct _=>∃ks,k= .flat ks
 | .bool=>k= .bool
 | .slice _=>k= .slice
 | .pointer _=>k= .ptr
 | .func _ _ _=>k= .func
 | .map _ _=>k= .map
 | _=>False
theorem eqKind_fits{t:TypeId}{k:EqK}(h:eqKind P t=some k):∃d,P.underlying t=some d∧eqFits k d:=by
 unfold eqKind at h;split at h<;>first | (cases h;refine⟨_,by assumption,?_⟩;rfl) | (cases h;done) | skip
 refine⟨_,by assumption,?_⟩;unfold flatKs at h;split at h
 · cases h
 · split at h
   · cases h
   · obtain⟨ks,_,rfl⟩:=Option.map_eq_some_iff.1 h;exact⟨ks,rfl⟩
theorem eqKind_flat{t:TypeId}{ks:List FK}(h:eqKind P t=some (.flat ks)):∃fs,P.underlying t=some (.struct fs)∧P.stoodInHeld t=false∧P.eqGuardType P.depth t=false∧flatFs (flatT P 3) 0 fs.toList=some ks:=by
 unfold eqKind at h;split at h<;>first | (cases h;done) | skip
 rename_i fs hd;unfold flatKs at h;split at h
 · cases h
 · rename_i h1;split at h
   · cases h
   · rename_i h2;obtain⟨ks',h3,h4⟩:=Option.map_eq_some_iff.1 h;cases h4;exact⟨fs,hd,h1,h2,h3⟩
theorem run_part1{e:TypeId}{k:FK}(he:flatK P e=some k){xs:Array Value}{off:Nat}{v:Value}(hx:xs[off]?=some v):(part e xs off).run P w= .ok v w:=by
 unfold flatK at he;cases hu:P.underlying e with
 | none=>simp[hu] at he
 | some d=>cases d<;>simp[hu] at he<;>simp[part,isAgg,run_underlying hu,hx]
theorem eqAg_i{ks:List FK}{xs ys:List AV}{r:Bool}(h:eqAg (.i::ks) xs ys=some r):∃k a b xs' ys' r2,xs= .int k a::xs'∧ys= .int k b::ys'∧eqAg ks xs' ys'=some r2∧r=(decide (a=b) && r2):=by
 unfold eqAg at h;split at h<;>rename_i heq<;>try (cases heq;done)
 · cases heq;split at h
   · rename_i hk;split at h
     · rename_i r2 h2;cases h;obtain rfl:=kix_eq hk;exact⟨_,_,_,_,_,_,rfl,rfl,h2,rfl⟩
     · cases h
   · cases h
 · cases h
theorem eqAg_s{ks:List FK}{xs ys:List AV}{r:Bool}(h:eqAg (.s::ks) xs ys=some r):∃a b xs' ys' r2,xs= .str a::xs'∧ys= .str b::ys'∧eqAg ks xs' ys'=some r2∧r=(decide (a=b) && r2):=by
 unfold eqAg at h;split at h<;>rename_i heq<;>try (cases heq;done)
 · cases heq;split at h
   · rename_i r2 h2;cases h;exact⟨_,_,_,_,_,rfl,rfl,h2,rfl⟩
   · cases h
 · cases h
theorem eqAg_b{ks:List FK}{xs ys:List AV}{r:Bool}(h:eqAg (.b::ks) xs ys=some r):∃a b xs' ys' r2,xs= .bool a::xs'∧ys= .bool b::ys'∧eqAg ks xs' ys'=some r2∧r=((a == b) && r2):=by
 unfold eqAg at h;split at h<;>rename_i heq<;>try (cases heq;done)
 · cases heq;split at h
   · rename_i r2 h2;cases h;exact⟨_,_,_,_,_,rfl,rfl,h2,rfl⟩
   · cases h
 · cases h
theorem run_isAgg{t:TypeId}{g:Bool}(h:aggOf P t=some g):(isAgg t).run P w= .ok g w:=by
 unfold aggOf at h;unfold isAgg;split at h
 · cases h;rename_i hu;simp[run_underlying hu]
 · cases h;rename_i hu;simp[run_underlying hu]
 · cases h;rename_i d h1 h2 hu;rw[Sem.run_bind,run_underlying hu,Result.andThen_ok];cases d<;>first | rfl | exact absurd rfl (h1 _) | exact absurd rfl (h2 _ _)
 · cases h
theorem run_szOf{t:TypeId}{n:Nat}(h:szOf P t=some n):(sizeOf t).run P w= .ok n w:=by
 unfold szOf at h;cases hi:P.info? t with
 | none=>simp[hi] at h
 | some i=>simp[hi] at h;subst h;simp[sizeOf,run_typeInfo w hi]
theorem RelL.app:∀{l m:List AV} {vs:List Value},RelL G (l++m) vs→ ∃us ws,vs=us++ws∧RelL G l us∧RelL G m ws∧us.length=l.length
 | [],m,vs,h=>⟨[],vs,rfl,rfl,h,rfl⟩
 | a::l,m,vs,⟨v,r,hv,ha,h⟩=>by subst hv;obtain⟨us,ws,rfl,h1,h2,h3⟩:=RelL.app (l:=l) h;exact⟨v::us,ws,rfl,⟨v,us,rfl,ha,h1⟩,h2,by simp[h3]⟩
theorem RelL.len:∀{l:List AV} {vs:List Value},RelL G l vs→vs.length=l.length
 | [],vs,h=>by have h:vs=[]:=h;subst h;rfl
 | a::l,vs,⟨v,r,hv,_,h⟩=>by subst hv;simp[RelL.len h]
theorem eqAg_app:∀{ks ks':List FK} {xs ys:List AV} {r:Bool},eqAg (ks++ks') xs ys=some r→ ∃xs1 xs2 ys1 ys2 r1 r2,xs=xs1++xs2∧ys=ys1++ys2∧eqAg ks xs1 ys1=some r1∧eqAg ks' xs2 ys2=some r2∧r=(r1 && r2)∧xs1.length=ks.length∧ys1.length=ks.length
 | [],ks',xs,ys,r,h=>⟨[],xs,[],ys,true,r,rfl,rfl,rfl,h,rfl,rfl,rfl⟩
 | .i::ks,ks',xs,ys,r,h=>by obtain⟨k,a,b,xs',ys',r2,rfl,rfl,h2,rfl⟩:=eqAg_i h;obtain⟨x1,x2,y1,y2,q1,q2,rfl,rfl,e1,e2,rfl,e3,e4⟩:=eqAg_app h2;refine⟨_::x1,x2,_::y1,y2,(decide (a=b) && q1),q2,rfl,rfl,?_,e2,by simp[Bool.and_assoc],by simp[e3],by simp[e4]⟩;simp only[eqAg,e1];simp
 | .s::ks,ks',xs,ys,r,h=>by obtain⟨a,b,xs',ys',r2,rfl,rfl,h2,rfl⟩:=eqAg_s h;obtain⟨x1,x2,y1,y2,q1,q2,rfl,rfl,e1,e2,rfl,e3,e4⟩:=eqAg_app h2;refine⟨_::x1,x2,_::y1,y2,(decide (a=b) && q1),q2,rfl,rfl,?_,e2,by simp[Bool.and_assoc],by simp[e3],by simp[e4]⟩;simp only[eqAg,e1]
 | .b::ks,ks',xs,ys,r,h=>by obtain⟨a,b,xs',ys',r2,rfl,rfl,h2,rfl⟩:=eqAg_b h;obtain⟨x1,x2,y1,y2,q1,q2,rfl,rfl,e1,e2,rfl,e3,e4⟩:=eqAg_app h2;refine⟨_::x1,x2,_::y1,y2,((a == b) && q1),q2,rfl,rfl,?_,e2,by simp[Bool.and_assoc],by simp[e3],by simp[e4]⟩;simp only[eqAg,e1]
def EqT(P:Program)(G:GS)(w:World)(D:Nat)(t:TypeId)(ks:List FK):Prop:=∀(va vb:Array Value) (i:Nat) (xs ys:List AV) (us vs ur vr:List Value) (r:Bool),eqAg ks xs ys=some r→va.toList.drop i=us++ur→vb.toList.drop i=vs++vr→RelL G xs us→RelL G ys vs→
 ∃u v,(part t va i).run P w= .ok u w∧(part t vb i).run P w= .ok v w∧(Op.equalIn D t u v).run P w= .ok r w
theorem eqFields_flat{F:TypeId→Option (List FK)}{D:Nat}(hF:∀t ks,F t=some ks→EqT P G w D t ks){va vb:Array Value}:∀{fs:List Field} {i:Nat} {ks:List FK} {xs ys:List AV} {us vs ur vr:List Value} {r:Bool},flatFs F i fs=some ks→eqAg ks xs ys=some r→
  va.toList.drop i=us++ur→vb.toList.drop i=vs++vr→RelL G xs us→RelL G ys vs→(Op.eqFields D va vb fs).run P w= .ok r w
 | [],_,ks,xs,ys,us,vs,ur,vr,r,h1,h2,_,_,_,_=>by simp only[flatFs] at h1;cases h1;cases xs<;>cases ys<;>simp only[eqAg] at h2<;>cases h2;cases D<;>rfl
 | f::fs,i,ks,xs,ys,us,vs,ur,vr,r,h1,h2,d1,d2,h3,h4=>by
   simp only[flatFs] at h1;split at h1
   · cases h1
   rename_i hn;split at h1
   · cases h1
   rename_i ho;split at h1
   case h_2=>cases h1
   rename_i k hk;split at h1
   case h_2=>cases h1
   rename_i ks' hks;cases h1;have ho':f.offset=i:=Nat.eq_of_beq_eq_true ho;have hn':f.name≠ "_" :=of_decide_eq_false hn
   obtain⟨x1,x2,y1,y2,r1,r2,rfl,rfl,e1,e2,rfl,e3,e4⟩:=eqAg_app h2;obtain⟨u1,u2,rfl,k1,k2,k3⟩:=h3.app;obtain⟨v1,v2,rfl,l1,l2,l3⟩:=h4.app;obtain⟨u,v,g1,g2,g3⟩:=hF _ _ hk va vb i x1 y1 u1 v1 (u2++ur) (v2++vr) r1 e1 (by rw[d1];simp) (by rw[d2];simp) k1 l1;have ih:=eqFields_flat hF (va:=va) (vb:=vb) (ur:=ur) (vr:=vr) hks e2 (by rw[←List.drop_drop,d1,List.append_assoc,List.drop_left' (by omega)]) (by rw[←List.drop_drop,d2,List.append_assoc,List.drop_left' (by omega)]) k2 l2;simp only[Op.eqFields,hn',ne_eq,not_false_eq_true,if_true,Sem.run_bind,ho',g1,g2,Result.andThen_ok,g3];cases r1
   · rfl
   · simpa using ih
theorem flat_one{d:Nat}{t:TypeId}{k:FK}(hk:flatK P t=some k):EqT P G w (d+1) t [k]:=by
 intro va vb i xs ys us vs ur vr r h d1 d2 h3 h4;have step:∀{a b:AV} {r1:Bool},xs=[a]→ys=[b]→(∀u v,Rel G a u→Rel G b v→(Op.equalIn (d+1) t u v).run P w= .ok r1 w)→ ∃u v,(part t va i).run P w= .ok u w∧(part t vb i).run P w= .ok v w∧(Op.equalIn (d+1) t u v).run P w= .ok r1 w:=by
  intro a b r1 e1 e2 e4;subst e1;subst e2;obtain⟨u,l,rfl,hu2,rfl⟩:=h3;obtain⟨v,m,rfl,hv2,rfl⟩:=h4;have gu:va[i]?=some u:=by
   have:=congrArg (·[0]?) d1
   simpa[List.getElem?_drop] using this
  have gv:vb[i]?=some v:=by
   have:=congrArg (·[0]?) d2
   simpa[List.getElem?_drop] using this
  exact⟨u,v,run_part1 hk gu,run_part1 hk gv,e4 u v hu2 hv2⟩
 have nil:∀{xs ys:List AV} {r:Bool},eqAg [] xs ys=some r→xs=[]∧ys=[]∧r=true:=by intro xs ys r h;cases xs<;>cases ys<;>simp only[eqAg] at h<;>cases h;exact⟨rfl,rfl,rfl⟩
 have hk2:=hk;unfold flatK at hk2;split at hk2
 · rename_i kk hd;cases hk2;obtain⟨k0,a,b,xs',ys',r2,e1,e2,e3,rfl⟩:=eqAg_i h;obtain⟨rfl,rfl,rfl⟩:=nil e3;rw[Bool.and_true];exact step e1 e2 fun u v hu hv=>by simp only[Rel] at hu hv;subst hu;subst hv;rw[run_equalIn_int w d t k0 kk a b hd];rfl
 · rename_i hd;cases hk2;obtain⟨a,b,xs',ys',r2,e1,e2,e3,rfl⟩:=eqAg_s h;obtain⟨rfl,rfl,rfl⟩:=nil e3;rw[Bool.and_true];exact step e1 e2 fun u v hu hv=>by simp only[Rel] at hu hv;subst hu;subst hv;rw[run_equalIn_string w d t a b hd,bytes_eq]
 · rename_i hd;cases hk2;obtain⟨a,b,xs',ys',r2,e1,e2,e3,rfl⟩:=eqAg_b h;obtain⟨rfl,rfl,rfl⟩:=nil e3;rw[Bool.and_true];exact step e1 e2 fun u v hu hv=>by simp only[Rel] at hu hv;subst hu;subst hv;rw[run_equalIn_bool' w d t a b hd]
 · cases hk2
theorem flatT_ok:∀{n d:Nat} {t:TypeId} {ks:List FK},n≤d→flatT P n t=some ks→EqT P G w (d+1) t ks
 | 0,d,t,ks,_,h=>by simp only[flatT,Option.map_eq_some_iff] at h;obtain⟨k,hk,rfl⟩:=h;exact flat_one hk
 | n+1,d+1,t,ks,hnd,h=>by
   simp only[flatT] at h;split at h
   · rename_i fs hd;split at h
     · cases h
     rename_i hst;split at h
     case h_2=>cases h
     rename_i ks' hfs;split at h
     case h_2=>cases h
     rename_i hsz;cases h;have hsz:=of_decide_eq_true hsz;intro va vb i xs ys us vs ur vr r h2 d1 d2 h3 h4;have hagg:aggOf P t=some true:=by unfold aggOf;rw[hd]
     obtain⟨x1,x2,y1,y2,_,_,ex,ey,f1,f2,_,f3,f4⟩:=eqAg_app (ks':=[]) (by rw[List.append_nil];exact h2);have nil:x2=[]∧y2=[]:=by cases x2<;>cases y2<;>simp only[eqAg] at f2<;>first | exact⟨rfl,rfl⟩ | cases f2
     rw[nil.1,List.append_nil] at ex;rw[nil.2,List.append_nil] at ey;subst ex;subst ey;have hl1:=h3.len;have hl2:=h4.len;have hp:∀(va:Array Value) (us ur:List Value),va.toList.drop i=us++ur→us.length=ks.length→(part t va i).run P w= .ok (.agg us.toArray) w:=by
      intro va us ur hd1 hl;unfold part;rw[Sem.run_bind,run_isAgg hagg,Result.andThen_ok];simp only[if_true,Sem.run_bind,run_szOf hsz,Result.andThen_ok];have:va.extract i (i+ks.length)=us.toArray:=by apply Array.toList_inj.1;rw[Array.toList_extract,List.extract_eq_take_drop,hd1];simp[←hl]
      rw[this];rfl
     refine⟨.agg us.toArray,.agg vs.toArray,hp va us ur d1 (by omega),hp vb vs vr d2 (by omega),?_⟩;have hf:P.fieldsOf t=fs:=by simp[Program.fieldsOf,hd]
     rw[run_equalIn_struct w (d+1) t us.toArray vs.toArray (by rw[hf,hd]) hst,hf];exact eqFields_flat (F:=flatT P n) (D:=d+1) (fun t ks h=>flatT_ok (by omega) h) (ur:=[]) (vr:=[]) hfs h2 (by simp) (by simp) h3 h4
   · obtain⟨k,hk,rfl⟩:=Option.map_eq_some_iff.1 h;exact flat_one hk
theorem s_eqnF{n:Bool}{t:TypeId}{x y:Operand}{ks:List FK}{xs ys:List AV}{r:Bool}(hk:eqKind P t=some (.flat ks))(ha:Rel G (.agg xs) va)(hb:Rel G (.agg ys) vb)(h:eqAg ks xs ys=some r):
  (do eqGuard (if n then .neq else .eql) t x y va vb;binOp (if n then .neq else .eql) t va vb).run P w= .ok (.bool (negB n r)) w:=by
 obtain⟨fs,hd,h1,h2,h3⟩:=eqKind_flat hk;obtain⟨us,rfl,ha⟩:=ha;obtain⟨vs,rfl,hb⟩:=hb;have hf:P.fieldsOf t=fs:=by simp[Program.fieldsOf,hd]
 have e:(Op.equalIn 10000 t (.agg us) (.agg vs)).run P w= .ok r w:=by rw[run_equalIn_struct w 9999 t us vs (by rw[hf,hd]) h1,hf];exact eqFields_flat (F:=flatT P 3) (D:=9999) (fun t ks h=>flatT_ok (d:=9998) (by omega) h) (us:=us.toList) (vs:=vs.toList) (ur:=[]) (vr:=[]) h3 h (by simp) (by simp) ha hb
 rw[Sem.run_bind,run_eqGuard_agg w _ _ _ _ _ _ h2,Result.andThen_ok];cases n
 · show (binOp .eql t (.agg us) (.agg vs)).run P w=_
   rw[run_eql_struct,e];rfl
 · show (binOp .neq t (.agg us) (.agg vs)).run P w=_
   rw[run_neq_struct,e];rfl
theorem eq_bool{t:TypeId}{m n:Bool}(hd:P.underlying t=some (.bool)):(Op.equal t (.bool m) (.bool n)).run P w= .ok (m == n) w:=by unfold Op.equal;show (Op.equalIn (9999+1) _ _ _).run P w=_;unfold Op.equalIn;rw[Sem.run_bind,run_underlying hd,Result.andThen_ok];rfl
theorem eq_slnn{t:TypeId}{u:TypeId}(hd:P.underlying t=some (.slice u)):(Op.equal t (.slice none 0 0) (.slice none 0 0)).run P w= .ok true w:=by unfold Op.equal;show (Op.equalIn (9999+1) _ _ _).run P w=_;unfold Op.equalIn;rw[Sem.run_bind,run_underlying hd,Result.andThen_ok];rfl
theorem eq_slsn{t:TypeId}{u:TypeId}{z:Addr}{m n:Nat}(hd:P.underlying t=some (.slice u)):(Op.equal t (.slice (some z) m n) (.slice none 0 0)).run P w= .ok false w:=by unfold Op.equal;show (Op.equalIn (9999+1) _ _ _).run P w=_;unfold Op.equalIn;rw[Sem.run_bind,run_underlying hd,Result.andThen_ok];rfl
theorem eq_slns{t:TypeId}{u:TypeId}{z:Addr}{m n:Nat}(hd:P.underlying t=some (.slice u)):(Op.equal t (.slice none 0 0) (.slice (some z) m n)).run P w= .ok false w:=by unfold Op.equal;show (Op.equalIn (9999+1) _ _ _).run P w=_;unfold Op.equalIn;rw[Sem.run_bind,run_underlying hd,Result.andThen_ok];rfl
theorem eq_ptnn{t:TypeId}{u:TypeId}(hd:P.underlying t=some (.pointer u)):(Op.equal t (.pointer none) (.pointer none)).run P w= .ok true w:=by unfold Op.equal;show (Op.equalIn (9999+1) _ _ _).run P w=_;unfold Op.equalIn;rw[Sem.run_bind,run_underlying hd,Result.andThen_ok];rfl
theorem eq_ptsn{t:TypeId}{u:TypeId}{z:Addr}(hd:P.underlying t=some (.pointer u)):(Op.equal t (.pointer (some z)) (.pointer none)).run P w= .ok false w:=by unfold Op.equal;show (Op.equalIn (9999+1) _ _ _).run P w=_;unfold Op.equalIn;rw[Sem.run_bind,run_underlying hd,Result.andThen_ok];rfl
theorem eq_fnn{t:TypeId}{u u':Array TypeId}{f:Bool}(hd:P.underlying t=some (.func u u' f)):(Op.equal t (.nilFunc) (.nilFunc)).run P w= .ok true w:=by unfold Op.equal;show (Op.equalIn (9999+1) _ _ _).run P w=_;unfold Op.equalIn;rw[Sem.run_bind,run_underlying hd,Result.andThen_ok];rfl
theorem eq_fsn{t:TypeId}{u u':Array TypeId}{f:Bool}{g:Fn}{x y:Array Value}(hd:P.underlying t=some (.func u u' f)):(Op.equal t (.func g x y) (.nilFunc)).run P w= .ok false w:=by unfold Op.equal;show (Op.equalIn (9999+1) _ _ _).run P w=_;unfold Op.equalIn;rw[Sem.run_bind,run_underlying hd,Result.andThen_ok];rfl
theorem negB_bne(n b:Bool):(if n then !b else b)=negB n b:=by cases n<;>rfl
theorem s_eqn{n:Bool}{t:TypeId}{x y:Operand}{k:EqK}(hk:eqKind P t=some k)(ha:Rel G a va)(hb:Rel G b vb)(h:eqnO k n a b=some (p,v))(hp:p):
  ∃v',(do eqGuard (if n then .neq else .eql) t x y va vb;binOp (if n then .neq else .eql) t va vb).run P w= .ok v' w∧Rel G v v':=by
 by_cases hfl:∃ks xs ys,k= .flat ks∧a= .agg xs∧b= .agg ys
 · obtain⟨ks,xs,ys,rfl,rfl,rfl⟩:=hfl;simp only[eqnO] at h;split at h
   · rename_i r hr;cases n<;>(obtain⟨_,rfl⟩:=ov_inj h;exact⟨_,s_eqnF hk ha hb hr,rfl⟩)
   · cases h
 obtain⟨d,hd,hf⟩:=eqKind_fits hk
 have fin:∀r,(∀cs ds,¬(va= .agg cs∧vb= .agg ds))→ ¬(va= .nilIface∧vb= .nilIface)→(∀op,op= .eql∨op= .neq→binOp op t va vb=(if op= .eql then (do pure (.bool (←Op.equal t va vb))) else (do pure (.bool (!(←Op.equal t va vb)))):Sem Value))→
   (Op.equal t va vb).run P w= .ok r w→v= .bool (negB n r)→
   ∃v',(do eqGuard (if n then .neq else .eql) t x y va vb;binOp (if n then .neq else .eql) t va vb).run P w= .ok v' w∧Rel G v v':=by
  intro r h1 h2 h3 h4 h5;refine⟨.bool (negB n r),?_,by rw[h5];rfl⟩;rw[Sem.run_bind,run_eqGuard_pure h1 h2,Result.andThen_ok];cases n
  · rw[if_neg (by simp),h3 .eql (.inl rfl),if_pos rfl,Sem.run_bind,h4];rfl
  · rw[if_pos rfl,h3 .neq (.inr rfl),if_neg (by simp),Sem.run_bind,h4];rfl
 unfold eqnO at h;simp only[eqB_eq] at h;split at h;all_goals (try (cases h;done))
 all_goals (split at h<;>try (cases h;done))
 all_goals first | exact absurd ⟨_,_,_,rfl,rfl,rfl⟩ hfl | skip
 all_goals (obtain⟨hq,hv⟩:=ov_inj h)
 all_goals (cases d<;>simp only[eqFits,reduceCtorEq,exists_false] at hf)
 ·
  simp only[Rel] at ha hb;subst ha;subst hb;exact fin _ (by simp) (by simp) (by rintro op (rfl | rfl)<;>rfl) (eq_bool hd) hv.symm
 · simp only[Rel] at ha hb;subst ha;subst hb;exact fin true (by simp) (by simp) (by rintro op (rfl | rfl)<;>rfl) (eq_slnn hd) hv.symm
 · simp only[Rel] at hb;subst hb;subst hq;rcases ha with⟨_,he⟩ | ⟨b,o,cap,rfl,_⟩
   · exact absurd he hp
   · exact fin false (by simp) (by simp) (by rintro op (rfl | rfl)<;>rfl) (eq_slsn hd) hv.symm
 · simp only[Rel] at ha;subst ha;subst hq;rcases hb with⟨_,he⟩ | ⟨b,o,cap,rfl,_⟩
   · exact absurd he hp
   · exact fin false (by simp) (by simp) (by rintro op (rfl | rfl)<;>rfl) (eq_slns hd) hv.symm
 · simp only[Rel] at ha hb;subst ha;subst hb;exact fin true (by simp) (by simp) (by rintro op (rfl | rfl)<;>rfl) (eq_ptnn hd) hv.symm
 · simp only[Rel] at hb;subst hb;obtain⟨b,lim,rfl,_⟩:=ha;exact fin false (by simp) (by simp) (by rintro op (rfl | rfl)<;>rfl) (eq_ptsn hd) hv.symm
 · simp only[Rel] at hb;subst hb;obtain⟨b,lim,rfl,_⟩:=ha;exact fin false (by simp) (by simp) (by rintro op (rfl | rfl)<;>rfl) (eq_ptsn hd) hv.symm
 · simp only[Rel] at ha hb;subst ha;subst hb;exact fin true (by simp) (by simp) (by rintro op (rfl | rfl)<;>rfl) (eq_fnn hd) hv.symm
 · simp only[Rel] at hb;subst hb;obtain⟨f,c,rfl,_⟩:=ha;exact fin false (by simp) (by simp) (by rintro op (rfl | rfl)<;>rfl) (eq_fsn hd) hv.symm
end
end Go.Abs
namespace Go.Abs
theorem RelRow.toPure{G:GS}{b:Nat}:∀{o:Nat} {l:List AV},RelRow G b o l→RelRow (GS.pure G.K) b o l
 | _,[],_=>trivial
 | _,_::_,⟨h1,h3⟩=>⟨h1,h3.toPure⟩
theorem RelRows.toPure{G:GS}{b sz:Nat}:∀{o:Nat} {l:List (List AV)},RelRows G b o sz l→RelRows (GS.pure G.K) b o sz l
 | _,[],_=>trivial
 | _,_::_,⟨h1,h2,h3⟩=>⟨h1,h2.toPure,h3.toPure⟩
theorem stripL_length:∀l:List AV,(stripL l).length=l.length
 | []=>rfl
 | a::l=>by simp[stripL,stripL_length l]
theorem stripL_map{α:Type}(f:α→AV):∀l:List α,stripL (l.map f)=l.map fun x=>(f x).strip
 | []=>rfl
 | a::l=>by simp[stripL,stripL_map f l]
theorem stripL_append:∀l m:List AV,stripL (l++m)=stripL l++stripL m
 | [],m=>rfl
 | a::l,m=>by simp[stripL,stripL_append l m]
mutual
theorem Rel.strip{G:GS}:∀{a:AV} {v:Value},Rel G a v→Rel (GS.pure G.K) a.strip v
 | .junk,_,_=>trivial
 | .int _ _,_,hh=>hh
 | .bool _,_,hh=>hh
 | .str _,_,hh=>hh
 | .nsl,_,hh=>hh
 | .npt,_,hh=>hh
 | .nfn,_,hh=>hh
 | .nif,_,hh=>hh
 | .nmp,_,hh=>hh
 | .slc sz es .non,_,hh=>hh.imp id fun⟨b,o,cap,h1,h2,h3,h4⟩=>⟨b,o,cap,h1,h2,h3.toPure,trivial⟩
 | .slc sz es .full,_,hh=>hh.imp id fun⟨b,o,cap,h1,h2,h3,h4⟩=>⟨b,o,cap,h1,h2,h3.toPure,h4⟩
 | .slc sz es (.own _ _),_,hh=>hh.imp (fun h=>⟨h.1.weak,h.2⟩) fun⟨b,o,cap,h1,h2,h3,h4⟩=>⟨b,o,cap,h1,h2,h3.toPure,trivial⟩
 | .msl _ _ _ _,_,_=>trivial
 | .pin _,_,⟨b,o,h1,h2⟩=>⟨b,o,h1,h2.toPure⟩
 | .ref _ _ _,_,_=>trivial
 | .agg _,_,⟨vs,h1,h2⟩=>⟨vs,h1,RelL.strip h2⟩
 | .tup _,_,⟨vs,h1,h2⟩=>⟨vs,h1,RelL.strip h2⟩
 | .clo _ _ _,_,⟨f,c,h1,h2,h3⟩=>⟨f,c,h1,RelL.strip h2,RelL.strip h3⟩
 | .ifc _ _,_,⟨y,h1,h2⟩=>⟨y,h1,Rel.strip h2⟩
 | .map _ _,_,_=>trivial
 | .fmp _ _,_,hh=>hh
 | .itr _ _,_,_=>trivial
 | .mpv _ _,_,hh=>hh.elim
 | .itv _ _ _,_,hh=>hh.elim
 | .sub _ _ _ _ _,_,_=>trivial
theorem RelL.strip{G:GS}:∀{l:List AV} {vs:List Value},RelL G l vs→RelL (GS.pure G.K) (stripL l) vs
 | [],_,hh=>hh
 | _::_,_,⟨v,r,h1,h2,h3⟩=>⟨v,r,h1,Rel.strip h2,RelL.strip h3⟩
end
theorem Rel.norm{G:GS}{a:AV}{v:Value}(h:Rel G a v):Rel (GS.pure G.K) a.norm v:=by
 cases a<;>first | exact Rel.strip h | skip
 rcases h with h | ⟨b,o,cap,h1,h2,h3,h4⟩
 · exact .inl ⟨h.1.weak,h.2⟩
 · exact .inr ⟨b,o,cap,h1,h2,h3.toPure,trivial⟩
theorem RelL.norm{G:GS}:∀{l:List AV} {vs:List Value},RelL G l vs→RelL (GS.pure G.K) (normL l) vs
 | [],_,hh=>hh
 | _::_,_,⟨v,r,h1,h2,h3⟩=>⟨v,r,h1,h2.norm,RelL.norm h3⟩
section
variable {P:Program} {G:GS} {w:World} {a b c v:AV} {p:Prop} {va vb vc:Value}
theorem RelRow.getp{b:Nat}:∀{l:List AV} {o:Nat},RelRow G b o l→ ∀j a,l[j]?=some a→ ∃v,G.K b (o+j)=some v∧v.oneCell'=true∧Rel (GS.pure G.K) a v
 | x::l,o,⟨h,_⟩,0,a,hj=>by simp at hj;subst hj;simpa using h
 | x::l,o,⟨_,h⟩,j+1,a,hj=>by
   have:=RelRow.getp h j a (by simpa using hj)
   rwa [show o+1+j=o+(j+1) by omega] at this
theorem RelRow.get{b:Nat}{l:List AV}{o:Nat}(h:RelRow G b o l)(j:Nat)(a:AV)(hj:l[j]?=some a):∃v,G.K b (o+j)=some v∧v.oneCell'=true∧Rel G a v:=by obtain⟨v,h1,h0,h2⟩:=h.getp j a hj;exact⟨v,h1,h0,h2.mono G.pure_le⟩
theorem RelRow.of_get{b:Nat}:∀{l:List AV} {o:Nat},(∀j a,l[j]?=some a→ ∃v,G.K b (o+j)=some v∧v.oneCell'=true∧Rel (GS.pure G.K) a v)→RelRow G b o l
 | [],_,_=>trivial
 | x::l,o,h=>⟨by simpa using h 0 x rfl,RelRow.of_get fun j a hj=>by
    have:=h (j+1) a (by simpa using hj)
    rwa [show o+(j+1)=o+1+j by omega] at this⟩
theorem RelRow.drop{b o:Nat}{l:List AV}(h:RelRow G b o l)(k:Nat):RelRow G b (o+k) (l.drop k):=
 .of_get fun j a hj=>by
  rw[List.getElem?_drop] at hj;have:=h.getp _ _ hj
  rwa [show o+(k+j)=o+k+j by omega] at this
theorem RelRow.take{b o:Nat}{l:List AV}(h:RelRow G b o l)(k:Nat):RelRow G b o (l.take k):=
 .of_get fun j a hj=>by
  rw[List.getElem?_take] at hj;split at hj
  · exact h.getp _ _ hj
  · cases hj
theorem RelRows.get{b sz:Nat}:∀{es:List (List AV)} {o:Nat},RelRows G b o sz es→ ∀i,i<es.length→RelRow G b (o+i*sz) (es.getD i [])∧(es.getD i []).length=sz
 | e::es,o,⟨h1,h2,_⟩,0,_=>by simpa using⟨h2,h1⟩
 | e::es,o,⟨_,_,h⟩,i+1,hi=>by
   have:=RelRows.get h i (by simpa using hi);rw[show o+sz+i*sz=o+(i+1)*sz by rw[Nat.add_mul];omega] at this
   simpa using this
theorem RelRows.of_get{b sz:Nat}:∀{es:List (List AV)} {o:Nat},(∀i,i<es.length→RelRow G b (o+i*sz) (es.getD i [])∧(es.getD i []).length=sz)→RelRows G b o sz es
 | [],_,_=>trivial
 | e::es,o,h=>by
   have h0:=h 0 (by simp);refine⟨by simpa using h0.2,by simpa using h0.1,RelRows.of_get fun i hi=>?_⟩;have:=h (i+1) (by simpa using hi);rw[show o+(i+1)*sz=o+sz+i*sz by rw[Nat.add_mul];omega] at this
   simpa using this
def CellsAt(G:GS)(w:World)(b o:Nat)(cells:List AV):Prop:=∀j a,cells[j]?=some a→ ∃v,w.cell? ⟨b,o+j,none⟩=some v∧Rel G a v
theorem CellsAt.list{w:World}{b:Nat}:∀{l:List AV} {o:Nat} (_:CellsAt G w b o l),∃cs:List Value,RelL G l cs∧ ∀(j:Nat) (v:Value),cs[j]?=some v→w.cell? ⟨b,o+j,none⟩=some v
 | [],_,_=>⟨[],rfl,by simp⟩
 | x::l,o,h=>by
   obtain⟨v,hv,hr⟩:=h 0 x rfl;obtain⟨cs,hl,hc⟩:=CellsAt.list (l:=l) (o:=o+1) (w:=w) (b:=b) fun j a hj=>by
    have:=h (j+1) a (by simpa using hj)
    rwa [show o+(j+1)=o+1+j by omega] at this
   refine⟨v::cs,⟨v,cs,rfl,hr,hl⟩,fun j u hj=>?_⟩;cases j with
   | zero=>simp at hj;subst hj;simpa using hv
   | succ j=>
     have:=hc j u (by simpa using hj)
     rwa [show o+1+j=o+(j+1) by omega] at this
theorem RelL.length:∀{l:List AV} {cs:List Value},RelL G l cs→cs.length=l.length
 | [],_,h=>by simp only[RelL] at h;subst h;rfl
 | _::_,_,⟨_,_,rfl,_,h⟩=>by simp[RelL.length h]
theorem RelL.get:∀{l:List AV} {cs:List Value},RelL G l cs→ ∀(j:Nat) (a:AV),l[j]?=some a→ ∃v,cs[j]?=some v∧Rel G a v
 | _::_,_,⟨v,_,rfl,h,_⟩,0,a,hj=>by simp at hj;subst hj;exact⟨v,rfl,h⟩
 | _::_,_,⟨_,_,rfl,_,h⟩,j+1,a,hj=>by simpa using RelL.get h j a (by simpa using hj)
theorem RelL.of_get:∀{l:List AV} {cs:List Value},cs.length=l.length→(∀(j:Nat) (a:AV),l[j]?=some a→ ∃v,cs[j]?=some v∧Rel G a v)→RelL G l cs
 | [],cs,hl,_=>List.eq_nil_of_length_eq_zero (by simpa using hl)
 | x::l,[],hl,_=>by simp at hl
 | x::l,v::cs,hl,h=>by obtain⟨u,hu,hr⟩:=h 0 x rfl;simp at hu;subst hu;exact⟨v,cs,rfl,hr,RelL.of_get (by simpa using hl) fun j a hj=>by simpa using h (j+1) a (by simpa using hj)⟩
theorem run_loadVar{t:TypeId}{sz:Nat}{g:Bool}{b o off:Nat}{cells:List AV}(hs:szOf P t=some sz)(hg:aggOf P t=some g)(hc:CellsAt G w b o cells)(h:partO off sz g cells=some (p,v))(hp:p):∃v',(loadVar t ⟨b,o+off,none⟩).run P w= .ok v' w∧Rel G v v':=by
 unfold loadVar;rw[Sem.run_bind,run_isAgg hg,Result.andThen_ok];cases g with
 | false=>
   simp only[partO] at h;cases hj:cells[off]? with
   | none=>simp[hj] at h
   | some x=> simp only[hj] at h;rw[liftV_force h];obtain⟨u,hu,hr⟩:=hc off x hj;exact⟨u,by simp[hu],hr⟩
 | true=>
   simp only[partO] at h;obtain⟨rfl,rfl⟩:=ov_inj h;obtain⟨cs,hl,hcs⟩:=CellsAt.list (G:=G) (w:=w) (b:=b) (o:=o+off) (l:=(cells.drop off).take sz) fun j a hj=>by
    rw[List.getElem?_take] at hj;split at hj
    · rw[List.getElem?_drop] at hj;have:=hc _ _ hj
      rwa [show o+(off+j)=o+off+j by omega] at this
    · cases hj
   have hlen:cs.length=sz:=by rw[hl.length];simp;omega
   have hrun:=run_loadCells_list (P:=P) (w:=w) ⟨b,o+off,none⟩ cs (fun j v hj=>by
    rw[Addr.add_lit];exact hcs j v hj)
   refine⟨.agg cs.toArray,?_,⟨_,rfl,by simpa using hl⟩⟩;simp only[if_true,Sem.run_bind,run_szOf hs,Result.andThen_ok];rw[←hlen,hrun];rfl
theorem s_ld{t:TypeId}{sz:Nat}{g:Bool}{σ:Sig}(hI:Inv G σ w)(hs:szOf P t=some sz)(hg:aggOf P t=some g)(ha:Rel G a va)(h:ldO sz g σ a=some (p,v))(hp:p):∃v',(Instr.loadAt t va).run P w= .ok v' w∧Rel G v v':=by
 unfold Instr.loadAt;unfold ldO at h;split at h
 · rename_i cells;obtain⟨b,o,rfl,hr⟩:=ha;have:=run_loadVar (o:=o) hs hg (fun j a hj=>by obtain⟨u,h1,h0,h2⟩:=hr.get j a hj;exact⟨u,hI.kok.cell _ _ _ h1 h0,h2⟩) h hp
   simpa[Instr.sureAddr] using this
 · rename_i i g' off;split at h
   · rename_i g'' c hσ;split at h
     · rename_i q u hq;obtain⟨rfl,rfl⟩:=ov_inj h;obtain⟨rfl,hp⟩:=hp;obtain⟨b,lim,rfl,hm⟩:=ha;rcases hI.res i c (by rw[hσ]) with⟨rfl,hn⟩ | ⟨b',e',lim',vals,T,hR⟩ | ⟨b',hO⟩
       · rw[hσ] at hn;simp only at hn;rw[hm] at hn;cases hn
       rotate_left
       · have hm':=hO.m;rw[hσ] at hm';simp only at hm';rw[hm] at hm';cases hm'
       · rw[hσ] at hR;have hm':=hR.m;simp only at hm';rw[hm] at hm';cases hm';have:=run_loadVar (w:=w) (G:=G) (o:=0) (b:=b) (off:=off) hs hg (fun j a hj=>by
          obtain⟨u,h1,h2⟩:=hR.rel j a hj;exact⟨u,by simp[World.cell?,hR.obj];simpa using h1,h2⟩) hq hp
         simpa[Instr.sureAddr] using this
     · cases h
   · cases h
 · cases h
end
end Go.Abs
namespace Go.Abs
section
variable {P:Program} {G:GS} {w:World} {a b c v:AV} {p:Prop} {va vb vc:Value}
theorem s_len{t ty:TypeId}{str:Bool}(ht:match str with | true=>P.underlying t=some .string | false=>∃e,P.underlying t=some (.slice e))(ha:Rel G a va)(h:lenO str a=some (p,v)):
  ∃v',(Builtin.len_ #[t] ty #[va]).run P w= .ok v' w∧Rel G v v':=by
 unfold lenO at h;split at h
 · cases str<;>simp only at h ht<;>try (cases h;done)
   obtain⟨e,he⟩:=ht;simp only[Rel] at ha;subst ha;obtain⟨_,rfl⟩:=ov_inj h;exact⟨_,by simp[Builtin.len_,run_underlying he,goInt],rfl⟩
 · cases str<;>simp only at h ht<;>try (cases h;done)
   obtain⟨e,he⟩:=ht;obtain⟨_,rfl⟩:=ov_inj h;rcases ha with⟨rfl | ⟨_,_,rfl,_⟩,rfl⟩ | ⟨b,o,cap,rfl,_⟩
   · exact⟨_,by simp[Builtin.len_,run_underlying he,goInt],rfl⟩
   · exact⟨_,by simp[Builtin.len_,run_underlying he,goInt],rfl⟩
   · exact⟨_,by simp[Builtin.len_,run_underlying he,goInt],rfl⟩
 · cases str<;>simp only at h ht<;>try (cases h;done)
   obtain⟨e,he⟩:=ht;obtain⟨_,rfl⟩:=ov_inj h;obtain⟨b,cap,rfl,_⟩:=ha;exact⟨_,by simp[Builtin.len_,run_underlying he,goInt],rfl⟩
 · cases str<;>simp only at h ht<;>try (cases h;done)
   obtain⟨e,he⟩:=ht;obtain⟨_,rfl⟩:=ov_inj h;obtain⟨b,o,cap,lim,rfl,_⟩:=ha;exact⟨_,by simp[Builtin.len_,run_underlying he,goInt],rfl⟩
 · cases str<;>simp only at h ht<;>try (cases h;done)
   simp only[Rel] at ha;subst ha;obtain⟨_,rfl⟩:=ov_inj h;exact⟨_,by simp[Builtin.len_,run_underlying ht,goInt],rfl⟩
 · cases h
theorem s_ixA{t u:TypeId}{sz:Nat}(ht:P.underlying t=some (.slice u))(hs:szOf P u=some sz)(ha:Rel G a va)(hb:Rel G b vb)(h:ixAO sz a b=some (p,v))(hp:p):
  ∃v',(Instr.indexAt t va vb).run P w= .ok v' w∧Rel G v v':=by
 unfold ixAO at h;split at h
 · rename_i sz' es tg k i;obtain⟨rfl,rfl⟩:=ov_inj h;obtain⟨rfl,h0,h1⟩:=hp;simp only[Rel] at hb;subst hb;rcases ha with⟨_,rfl⟩ | ⟨b,o,cap,rfl,_,hr,_⟩
   · simp at h1;omega
   · obtain⟨hg,_⟩:=hr.get i.toNat (by omega);refine⟨_,?_,⟨b,o+i.toNat*sz',rfl,hg⟩⟩;simp[Instr.indexAt,asIntOf,run_underlying ht,h0,h1,run_szOf hs,Addr.add_lit]
 · rename_i i' g n sz' k i;obtain⟨rfl,rfl⟩:=ov_inj h;obtain⟨rfl,h0,h1⟩:=hp;simp only[Rel] at hb;subst hb;obtain⟨b,cap,rfl,_,hm⟩:=ha;refine⟨_,?_,⟨b,_,rfl,hm⟩⟩;simp[Instr.indexAt,asIntOf,run_underlying ht,h0,h1,run_szOf hs,Addr.add_lit]
 · rename_i i' g off n sz' k i;obtain⟨rfl,rfl⟩:=ov_inj h;obtain⟨rfl,h0,h1⟩:=hp;simp only[Rel] at hb;subst hb;obtain⟨b,o,cap,lim,rfl,_,hm,ho⟩:=ha;obtain rfl:o=off:=ho.resolve_left (by omega);refine⟨_,?_,⟨b,_,rfl,hm⟩⟩;simp[Instr.indexAt,asIntOf,run_underlying ht,h0,h1,run_szOf hs,Addr.add_lit]
 · cases h
theorem s_ixAr{t u:TypeId}{n sz:Nat}(ht:P.underlying t=some (.array n u))(hs:szOf P u=some sz)(ha:Rel G a va)(hb:Rel G b vb)(h:ixArO n sz a b=some (p,v))(hp:p):
  ∃v',(Instr.indexAt t va vb).run P w= .ok v' w∧Rel G v v':=by
 unfold ixArO at h;split at h
 · rename_i i' g off k i;obtain⟨rfl,rfl⟩:=ov_inj h;obtain⟨h0,h1⟩:=hp;simp only[Rel] at hb;subst hb;obtain⟨b,lim,rfl,hm⟩:=ha;refine⟨_,?_,⟨b,_,rfl,hm⟩⟩;simp[Instr.indexAt,Instr.sureAddr,asIntOf,run_underlying ht,h0,h1,run_szOf hs,Addr.add_lit]
 · rename_i cells k i;obtain⟨rfl,rfl⟩:=ov_inj h;obtain⟨h0,h1,_⟩:=hp;simp only[Rel] at hb;subst hb;obtain⟨b,o,rfl,hr⟩:=ha;refine⟨_,?_,⟨b,o+i.toNat*sz,rfl,hr.drop _⟩⟩;simp[Instr.indexAt,Instr.sureAddr,asIntOf,run_underlying ht,h0,h1,run_szOf hs,Addr.add_lit]
 · cases h
theorem s_part{t:TypeId}{off sz:Nat}{g:Bool}{cells:List AV}{cs:Array Value}(hs:szOf P t=some sz)(hg:aggOf P t=some g)(hr:RelL G cells cs.toList)(h:partO off sz g cells=some (p,v))(hp:p):∃v',(part t cs off).run P w= .ok v' w∧Rel G v v':=by
 unfold part;rw[Sem.run_bind,run_isAgg hg,Result.andThen_ok];cases g with
 | false=>
   simp only[partO] at h;cases hj:cells[off]? with
   | none=>simp[hj] at h
   | some x=>
     simp only[hj] at h;rw[liftV_force h];obtain⟨u,hu,hx⟩:=hr.get off x hj
     exact⟨u,by have:cs[off]?=some u:=by simpa using hu
                simp[this],hx⟩
 | true=>
   simp only[partO] at h;obtain⟨rfl,rfl⟩:=ov_inj h;refine⟨.agg (cs.extract off (off+sz)),by simp[run_szOf hs],⟨_,rfl,RelL.of_get ?_ fun j a hj=>?_⟩⟩
   · have:=hr.length;simp at this ⊢;omega
   · rw[List.getElem?_take] at hj;split at hj
     · rw[List.getElem?_drop] at hj;obtain⟨u,hu,hx⟩:=hr.get _ _ hj;refine⟨u,?_,hx⟩;have hl:off+j<cs.size:=by
        have:=List.getElem?_eq_some_iff.1 hu
        simpa using this.1
       simp only[Array.toList_extract,List.extract_eq_take_drop,List.getElem?_take,List.getElem?_drop];rw[if_pos (by omega)];exact hu
     · cases hj
theorem s_ixV{t u:TypeId}{n sz:Nat}{g:Bool}{q:Prop}(ht:P.underlying t=some (.array n u))(hs:szOf P u=some sz)(hg:aggOf P u=some g)(ha:Rel G a va)(hb:Rel G b vb)(h:ixVO n sz g a b=some (p,q,v))(hp:p)(hq:q):∃v',(Instr.index t va vb).run P w= .ok v' w∧Rel G v v':=by
 unfold ixVO at h;split at h
 · rename_i cells k i;split at h
   · rename_i c v' hpart;injection h with h;injection h with h1 h2;injection h2 with h2 h3
     subst h1;subst h2;subst h3;simp only[Rel] at hb;subst hb;obtain⟨vs,rfl,hr⟩:=ha;obtain⟨v',hrun,hv⟩:=s_part (w:=w) hs hg hr hpart hq;exact⟨v',by simp[Instr.index,asIntOf,run_underlying ht,hp.1,hp.2,run_szOf hs,hrun],hv⟩
   · cases h
 · cases h
theorem s_ixS{t:TypeId}(ht:P.underlying t=some .string)(ha:Rel G a va)(hb:Rel G b vb)(h:ixSO a b=some (p,v))(hp:p):
  ∃v',(Instr.index t va vb).run P w= .ok v' w∧Rel G v v':=by
 unfold ixSO at h;split at h
 · rename_i s k i;obtain⟨rfl,rfl⟩:=ov_inj h;simp only[Rel] at ha hb;subst ha;subst hb;obtain⟨h0,h1⟩:=hp;have hlt:i.toNat<s.size:=by omega
   have hb':s[i.toNat]?=some (s.data.toList.getD i.toNat 0):=by
    rw[getElem?_pos s i.toNat hlt]
    congr 1
    rw[List.getD_eq_getElem?_getD,List.getElem?_eq_getElem (by simpa using hlt)];rfl
   exact⟨_,by simp only[Instr.index,asIntOf,Sem.run_bind,Sem.run_pure,Result.andThen_ok,run_underlying ht,if_pos h0,hb'],rfl⟩
 · cases h
theorem s_flA{t:TypeId}{fields:Array Field}{n sz:Nat}{f:Field}(ht:P.underlying t=some (.struct fields))(hf:fields[n]?=some f)(hs:szOf P f.type=some sz)(hz:sz≠0)(ha:Rel G a va)(h:flAO f.offset a=some (p,v))(hp:p):∃v',(Instr.fieldAt t va n).run P w= .ok v' w∧Rel G v v':=by
 unfold flAO at h;split at h
 · obtain⟨rfl,rfl⟩:=ov_inj h;obtain⟨b,lim,rfl,hm⟩:=ha;refine⟨_,?_,⟨b,lim,rfl,hm⟩⟩;simp[Instr.fieldAt,Instr.sureAddr,run_underlying ht,hf,fieldPlace,run_szOf hs,hz,Addr.add_lit]
 · obtain⟨rfl,rfl⟩:=ov_inj h;obtain⟨b,o,rfl,hr⟩:=ha;refine⟨_,?_,⟨b,o+f.offset,rfl,hr.drop _⟩⟩;simp[Instr.fieldAt,Instr.sureAddr,run_underlying ht,hf,fieldPlace,run_szOf hs,hz,Addr.add_lit]
 · cases h
theorem s_fl{t:TypeId}{fields:Array Field}{n sz:Nat}{g:Bool}{f:Field}(ht:P.underlying t=some (.struct fields))(hf:fields[n]?=some f)(hs:szOf P f.type=some sz)(hg:aggOf P f.type=some g)(ha:Rel G a va)(h:flO f.offset sz g a=some (p,v))(hp:p):∃v',(Instr.field t va n).run P w= .ok v' w∧Rel G v v':=by
 unfold flO at h;split at h
 · obtain⟨vs,rfl,hr⟩:=ha;obtain⟨v',hrun,hv⟩:=s_part (w:=w) hs hg hr h hp;exact⟨v',by simp[Instr.field,run_underlying ht,hf,asAgg,hrun],hv⟩
 · cases h
theorem s_nck{x:Operand}{ρ:Operand→Value}{dst:Option Nat}{ty:TypeId}{pos:String}{af:Array Edge}{gd:Option (Nat×Bool)}(ha:Rel G a (ρ x))(h:nckO a=some (p,v)):
  ∃v',(execOp ρ ⟨dst,.nilCheck x,ty,pos,af,gd⟩).run P w= .ok (.value v') w∧Rel G v v':=by
 unfold nckO at h;split at h
 · obtain⟨_,rfl⟩:=ov_inj h;obtain⟨b,lim,hv,hm⟩:=ha;exact⟨_,by simp only[execOp,hv];rfl,⟨b,lim,rfl,hm⟩⟩
 · obtain⟨_,rfl⟩:=ov_inj h;obtain⟨b,o,hv,hm⟩:=ha;exact⟨_,by simp only[execOp,hv];rfl,⟨b,o,rfl,hm⟩⟩
 · obtain⟨_,rfl⟩:=ov_inj h;obtain⟨f,c,hv,hm⟩:=ha;exact⟨_,by simp only[execOp,hv];rfl,⟨f,c,rfl,hm⟩⟩
 · cases h
theorem s_cvI{s d:TypeId}{k k':IntKind}(hs:P.underlying s=some (.int k'))(hd:P.underlying d=some (.int k))(ha:Rel G a va)(h:cvIO k a=some (p,v))(hp:p):
  ∃v',(convert s d va).run P w= .ok v' w∧Rel G v v':=by
 unfold cvIO at h;split at h
 · obtain⟨_,rfl⟩:=fitV_rel h hp;simp only[Rel] at ha;subst ha;exact⟨_,by simp[convert,run_underlying hs,run_underlying hd,Conv.intToInt],rfl⟩
 · cases h
theorem s_ext{i:Nat}(ha:Rel G a va)(h:extO i a=some (p,v)):∃v',(Instr.extract va i).run P w= .ok v' w∧Rel G v v':=by
 unfold extO at h;split at h
 · split at h
   · rename_i u hu;rw[liftV_force h];obtain⟨vs,rfl,hr⟩:=ha;obtain⟨x,hx,hxr⟩:=hr.get _ _ hu;have:vs[i]?=some x:=by simpa using hx
     exact⟨x,by simp[Instr.extract,this],hxr⟩
   · cases h
 · cases h
theorem cOpds_rel{e:Nat→AV}{ρ:Operand→Value}(hρ:ORel G e ρ):∀{xs:List Operand} {ys:List IOpd} {l:List AV},cOpds xs=some ys→evO e ys=some l→RelL G l (xs.map ρ)
 | [],ys,l,h,h2=>by simp[cOpds] at h;subst h;simp[evO] at h2;subst h2;rfl
 | x::xs,ys,l,h,h2=>by
   simp only[cOpds,Option.bind_eq_bind,Option.bind_eq_some_iff] at h;obtain⟨y,hy,r,hr,h⟩:=h;cases h;simp only[evO] at h2;split at h2
   · rename_i v l' hv hl;cases h2;exact⟨_,_,rfl,by rw[forceA_eq hv];exact hρ _ _ hy,cOpds_rel hρ hr hl⟩
   · cases h2
theorem mxi_run{m:Bool}(ha:Rel G a va)(hb:Rel G b vb)(h:mxiO m a b=some (p,v)):∃v',(if m then Builtin.max2 va vb else Builtin.min2 va vb).run P w= .ok v' w∧Rel G v v':=by
 unfold mxiO at h;split at h
 · rename_i k m' k' n';split at h
   · rename_i hk;obtain rfl:=kix_eq hk;simp only[Rel] at ha hb;subst ha;subst hb;cases m
     · obtain⟨_,rfl⟩:=ov_inj h;refine⟨_,?_,rfl⟩;simp[Builtin.min2];by_cases e:m'≤n'<;>simp[Int.min_def,e]<;>omega
     · obtain⟨_,rfl⟩:=ov_inj h;refine⟨_,?_,rfl⟩;simp[Builtin.max2];by_cases e:m'≤n'<;>simp[Int.max_def,e]<;>omega
   · cases h
 · cases h
theorem s_mx3{m:Bool}{ts:Array TypeId}{ty:TypeId}(ha:Rel G a va)(hb:Rel G b vb)(hc:Rel G c vc)(h:mx3O m a b c=some (p,v)):
  ∃v',(if m then Builtin.max_ ts ty #[va,vb,vc] else Builtin.min_ ts ty #[va,vb,vc]).run P w= .ok v' w∧Rel G v v':=by
 unfold mx3O at h;split at h
 · rename_i q u hq;obtain⟨u',h1,h2⟩:=mxi_run (P:=P) (w:=w) ha hb hq;obtain⟨v',h3,h4⟩:=mxi_run (P:=P) (w:=w) h2 hc h;refine⟨v',?_,h4⟩;cases m
   · simp only[Bool.false_eq_true,if_false] at h1 h3 ⊢;simp[Builtin.min_,h1,h3]
   · simp only[if_true] at h1 h3 ⊢;simp[Builtin.max_,h1,h3]
 · cases h
theorem s_mxi{m:Bool}{ts:Array TypeId}{ty:TypeId}(ha:Rel G a va)(hb:Rel G b vb)(h:mxiO m a b=some (p,v)):
  ∃v',(if m then Builtin.max_ ts ty #[va,vb] else Builtin.min_ ts ty #[va,vb]).run P w= .ok v' w∧Rel G v v':=by
 unfold mxiO at h;split at h
 · rename_i k m' k' n';split at h
   · rename_i hk;obtain rfl:=kix_eq hk;simp only[Rel] at ha hb;subst ha;subst hb;cases m
     · obtain⟨_,rfl⟩:=ov_inj h;refine⟨_,?_,rfl⟩;simp[Builtin.min_,Builtin.min2];by_cases e:m'≤n'<;>simp[Int.min_def,e]<;>omega
     · obtain⟨_,rfl⟩:=ov_inj h;refine⟨_,?_,rfl⟩;simp[Builtin.max_,Builtin.max2];by_cases e:m'≤n'<;>simp[Int.max_def,e]<;>omega
   · cases h
 · cases h
end
end Go.Abs
namespace Go.Abs
section
variable {P:Program} {G:GS} {w:World} {a b c v:AV} {p:Prop} {va vb vc:Value}
theorem boundO_rel{e:Nat→AV}{ρ:Operand→Value}(hρ:ORel G e ρ){x:Option Operand}{y:Option IOpd}{d i:Int}(hc:cOptOpd x=some y)(h:boundO e d y=some i):
  (x=none∧i=d)∨ ∃o k,x=some o∧ρ o= .int k i:=by
 cases x with
 | none=>simp[cOptOpd] at hc;subst hc;simp[boundO] at h;exact .inl ⟨rfl,h.symm⟩
 | some o=>
   simp only[cOptOpd,Option.map_eq_some_iff] at hc;obtain⟨z,hz,rfl⟩:=hc;simp only[boundO] at h;split at h
   · rename_i k j hj;cases h;have:=hρ _ _ hz;rw[hj] at this;exact .inr ⟨o,k,rfl,this⟩
   · cases h
theorem run_bound{k:IntKind}{i:Int}{y:Nat}{code:BoundsCode}(h:0≤i∧i≤y):(Instr.sliceBound (.int k i) y code).run P w= .ok i.toNat w:=by simp[Instr.sliceBound,asIntOf,h.1,h.2]
theorem run_bounds{e:Nat→AV}{ρ:Operand→Value}(hρ:ORel G e ρ){lo hi mx:Option Operand}{lo' hi' mx':Option IOpd}{n cap:Nat}{l h:Int}{s:Bool}(hl:cOptOpd lo=some lo')(hh:cOptOpd hi=some hi')(hm:cOptOpd mx=some mx')(e1:boundO e 0 lo'=some l)(e2:boundO e n hi'=some h)(h0:0≤l)(h1:l≤h)(h2:h≤n)(hn:n≤cap)(hmx:mx'=none∨boundO e 0 mx'=some h)(hmh:mx'=none∨hi'.isSome):
  ∃m,(Instr.sliceBounds s n cap (lo.map ρ) (hi.map ρ) (mx.map ρ)).run P w= .ok (l.toNat,h.toNat,m) w∧h.toNat≤m∧m≤cap∧(mx'≠none→m=h.toNat)∧(mx'=none→m=cap):=by
 unfold Instr.sliceBounds;cases mx with
 | none=>
   simp[cOptOpd] at hm;subst hm;rcases boundO_rel hρ hl e1 with⟨rfl,rfl⟩ | ⟨ol,kl,rfl,hol⟩<;>rcases boundO_rel hρ hh e2 with⟨rfl,rfl⟩ | ⟨oh,kh,rfl,hoh⟩
   · exact⟨cap,by simp,by omega,by omega,by simp,by simp⟩
   · exact⟨cap,by simp[hoh,run_bound (P:=P) (w:=w) (k:=kh) (i:=h) (y:=cap) ⟨by omega,by omega⟩],by omega,by omega,by simp,by simp⟩
   · exact⟨cap,by simp[hol,run_bound (P:=P) (w:=w) (k:=kl) (i:=l) (y:=n) ⟨by omega,by omega⟩],by omega,by omega,by simp,by simp⟩
   · refine⟨cap,?_,by omega,by omega,by simp,by simp⟩;simp[hoh,hol,run_bound (P:=P) (w:=w) (k:=kh) (i:=h) (y:=cap) ⟨by omega,by omega⟩,run_bound (P:=P) (w:=w) (k:=kl) (i:=l) (y:=h.toNat) ⟨by omega,by omega⟩]
 | some om=>
   have hmne:mx'≠none:=by intro hc;subst hc;simp[cOptOpd] at hm
   obtain hmb:=hmx.resolve_left hmne;rcases boundO_rel hρ hm hmb with⟨hc,_⟩ | ⟨om',km,hom',hom⟩
   · cases hc
   cases hom';rcases boundO_rel hρ hh e2 with⟨rfl,_⟩ | ⟨oh,kh,rfl,hoh⟩
   · simp[cOptOpd] at hh;subst hh;simp at hmh;exact absurd hmh hmne
   rcases boundO_rel hρ hl e1 with⟨rfl,rfl⟩ | ⟨ol,kl,rfl,hol⟩
   · refine⟨h.toNat,?_,by omega,by omega,by simp,by intro hc;exact absurd hc hmne⟩;cases s<;>simp[hoh,hom,run_bound (P:=P) (w:=w) (k:=km) (i:=h) (y:=cap) ⟨by omega,by omega⟩,run_bound (P:=P) (w:=w) (k:=kh) (i:=h) (y:=h.toNat) ⟨by omega,by omega⟩]
   · refine⟨h.toNat,?_,by omega,by omega,by simp,by intro hc;exact absurd hc hmne⟩
     cases s<;>simp[hoh,hom,hol,run_bound (P:=P) (w:=w) (k:=km) (i:=h) (y:=cap) ⟨by omega,by omega⟩,run_bound (P:=P) (w:=w) (k:=kh) (i:=h) (y:=h.toNat) ⟨by omega,by omega⟩,
      run_bound (P:=P) (w:=w) (k:=kl) (i:=l) (y:=h.toNat) ⟨by omega,by omega⟩]
theorem rows_sub{b o sz:Nat}{es:List (List AV)}(h:RelRows G b o sz es)(l k:Nat)(hl:l+k≤es.length):RelRows G b (o+l*sz) sz ((es.drop l).take k):=
 .of_get fun i hi=>by
  have hi':i<k:=by simp at hi;omega
  have:=h.get (l+i) (by omega);rw[show o+(l+i)*sz=o+l*sz+i*sz by rw[Nat.add_mul];omega] at this;have e:((es.drop l).take k).getD i []=es.getD (l+i) []:=by rw[List.getD_eq_getElem?_getD,List.getD_eq_getElem?_getD,List.getElem?_take,if_pos hi',List.getElem?_drop]
  rw[e];exact this
theorem s_slS{t u:TypeId}{sz:Nat}{e:Nat→AV}{ρ:Operand→Value}(hρ:ORel G e ρ){lo hi mx:Option Operand}{lo' hi' mx':Option IOpd}(ht:P.underlying t=some (.slice u))(hs:szOf P u=some sz)(hl:cOptOpd lo=some lo')(hh:cOptOpd hi=some hi')(hm:cOptOpd mx=some mx')(hmh:mx'=none∨hi'.isSome)(ha:Rel G a va)(h:slSO sz e a lo' hi' mx'=some (p,v))(hp:p):∃v',(Instr.sliceAt t va (lo.map ρ) (hi.map ρ) (mx.map ρ)).run P w= .ok v' w∧Rel G v v':=by
 have hat:∀x,(Instr.sliceAt t x (lo.map ρ) (hi.map ρ) (mx.map ρ)).run P w=(Instr.slice t x (lo.map ρ) (hi.map ρ) (mx.map ρ)).run P w:=by intro x;unfold Instr.sliceAt;rw[Sem.run_bind,run_underlying ht,Result.andThen_ok]
 unfold slSO at h;split at h
 · split at h
   · rename_i l h' m e1 e2 e3;obtain⟨rfl,rfl⟩:=ov_inj h;obtain⟨rfl,rfl,rfl⟩:=hp;simp only[Rel] at ha;subst ha;obtain⟨m,hrun,_,hmc,_⟩:=run_bounds (P:=P) (w:=w) (n:=0) (cap:=0) (s:=true) hρ hl hh hm e1 (by simpa using e2) (by omega) (by omega) (by omega) (by omega) (.inr e3) hmh;obtain rfl:m=0:=by omega
     refine⟨.slice none 0 0,?_,rfl⟩;rw[hat];simp[Instr.slice,run_underlying ht,hrun,run_szOf hs]
   · cases h
 · rename_i sz' es tg;split at h
   · rename_i l h' e1 e2;split at h
     · obtain⟨rfl,rfl⟩:=ov_inj h;obtain⟨rfl,h0,h1,h2⟩:=hp;have hk:(h'-l).toNat=h'.toNat-l.toNat:=by omega
       rcases ha with⟨rfl | ⟨x,cap,rfl,_⟩,rfl⟩ | ⟨b,o,cap,rfl,hcap,hr,_⟩
       · simp at h2;obtain⟨m,hrun,_,hmc,_⟩:=run_bounds (P:=P) (w:=w) (n:=0) (cap:=0) (s:=true) hρ hl hh hm e1 (by simpa using e2) h0 h1 (by simpa using h2) (by omega) (.inl rfl) hmh;obtain rfl:m=0:=by omega
         refine⟨.slice none 0 0,?_,.inl ⟨.inl rfl,by simp⟩⟩;rw[hat];simp[Instr.slice,run_underlying ht,hrun,run_szOf hs];omega
       · simp at h2;obtain⟨m,hrun,hm1,hm2,_⟩:=run_bounds (P:=P) (w:=w) (n:=0) (cap:=cap) (s:=true) hρ hl hh hm e1 (by simpa using e2) h0 h1 (by simpa using h2) (by omega) (.inl rfl) hmh;have hz1:h'.toNat-l.toNat=0:=by omega
         refine⟨.slice (some (if m=l.toNat then x else x.add (l.toNat*sz'))) (h'.toNat-l.toNat) (m-l.toNat),?_,.inl ⟨.inr ⟨_,_,by rw[hz1],.inr rfl⟩,by simp⟩⟩;rw[hat];simp only[Instr.slice,Sem.run_bind,run_underlying ht,hrun,Result.andThen_ok,run_szOf hs,Option.map_some];split<;>rfl
       · obtain⟨m,hrun,hm1,hm2,_⟩:=run_bounds (P:=P) (w:=w) (n:=es.length) (cap:=cap) (s:=true) hρ hl hh hm e1 e2 h0 h1 h2 hcap (.inl rfl) hmh;refine⟨.slice (some (if m=l.toNat then⟨b,o,none⟩ else⟨b,o+l.toNat*sz',none⟩)) (h'.toNat-l.toNat) (m-l.toNat),?_,?_⟩
         · rw[hat];simp only[Instr.slice,Sem.run_bind,run_underlying ht,hrun,Result.andThen_ok,run_szOf hs,Option.map_some,Addr.add_lit];split<;>rfl
         · have hlen:((es.drop l.toNat).take (h'-l).toNat).length=h'.toNat-l.toNat:=by simp;omega
           refine .inr ⟨b,if m=l.toNat then o else o+l.toNat*sz',m-l.toNat,?_,by rw[hlen];omega,?_,trivial⟩
           · rw[hlen];split<;>rfl
           · by_cases hz:m=l.toNat
             · have:((es.drop l.toNat).take (h'-l).toNat)=[]:=List.eq_nil_of_length_eq_zero (by rw[hlen];omega);rw[this];trivial
             · rw[if_neg hz];exact rows_sub hr _ _ (by omega)
     · rename_i mi;split at h
       · rename_i km m0 hm0;obtain⟨rfl,rfl⟩:=ov_inj h;obtain⟨rfl,h0,h1,h2,rfl⟩:=hp;have hmb:boundO e 0 (some mi)=some m0:=by unfold boundO;simp[hm0]
         have hk:(m0-l).toNat=m0.toNat-l.toNat:=by omega
         rcases ha with⟨rfl | ⟨x,cap,rfl,_⟩,rfl⟩ | ⟨b,o,cap,rfl,hcap,hr,_⟩
         · simp at h2;obtain⟨m,hrun,_,hmc,_⟩:=run_bounds (P:=P) (w:=w) (n:=0) (cap:=0) (s:=true) hρ hl hh hm e1 (by simpa using e2) h0 h1 (by simpa using h2) (by omega) (.inr hmb) hmh;obtain rfl:m=0:=by omega
           refine⟨.slice none 0 0,?_,.inl ⟨.inl rfl,by simp⟩⟩;rw[hat];simp[Instr.slice,run_underlying ht,hrun,run_szOf hs];omega
         · simp at h2;obtain⟨m,hrun,hm1,hm2,hm3,_⟩:=run_bounds (P:=P) (w:=w) (n:=0) (cap:=cap) (s:=true) hρ hl hh hm e1 (by simpa using e2) h0 h1 (by simpa using h2) (by omega) (.inr hmb) hmh;obtain rfl:=hm3 (by simp);have hz1:m0.toNat-l.toNat=0:=by omega
           refine⟨.slice (some (if m0.toNat=l.toNat then x else x.add (l.toNat*sz'))) (m0.toNat-l.toNat) (m0.toNat-l.toNat),?_,.inl ⟨.inr ⟨_,_,by rw[hz1],.inl rfl⟩,by simp⟩⟩;rw[hat];simp only[Instr.slice,Sem.run_bind,run_underlying ht,hrun,Result.andThen_ok,run_szOf hs,Option.map_some];split<;>rfl
         · obtain⟨m,hrun,hm1,hm2,hm3,_⟩:=run_bounds (P:=P) (w:=w) (n:=es.length) (cap:=cap) (s:=true) hρ hl hh hm e1 e2 h0 h1 h2 hcap (.inr hmb) hmh;obtain rfl:=hm3 (by simp);refine⟨.slice (some (if m0.toNat=l.toNat then⟨b,o,none⟩ else⟨b,o+l.toNat*sz',none⟩)) (m0.toNat-l.toNat) (m0.toNat-l.toNat),?_,?_⟩
           · rw[hat];simp only[Instr.slice,Sem.run_bind,run_underlying ht,hrun,Result.andThen_ok,run_szOf hs,Option.map_some,Addr.add_lit];split<;>rfl
           · have hlen:((es.drop l.toNat).take (m0-l).toNat).length=m0.toNat-l.toNat:=by simp;omega
             refine .inr ⟨b,if m0.toNat=l.toNat then o else o+l.toNat*sz',m0.toNat-l.toNat,?_,by rw[hlen];omega,?_,?_⟩
             · rw[hlen];split<;>rfl
             · by_cases hz:m0.toNat=l.toNat
               · have:((es.drop l.toNat).take (m0-l).toNat)=[]:=List.eq_nil_of_length_eq_zero (by rw[hlen];omega);rw[this];trivial
               · rw[if_neg hz];exact rows_sub hr _ _ (by omega)
             · show _=_;rw[hlen]
       · cases h
   · cases h
 · rename_i i g n sz';split at h
   · rename_i l h' e1 e2;obtain⟨rfl,rfl⟩:=ov_inj h;obtain⟨rfl,h0,h1,h2⟩:=hp;obtain⟨b,cap,rfl,hcap,hg⟩:=ha;obtain⟨m,hrun,hm1,hm2,_⟩:=run_bounds (P:=P) (w:=w) (n:=n) (cap:=cap) (s:=true) hρ hl hh hm e1 e2 h0 h1 h2 hcap (.inl rfl) hmh;refine⟨.slice (some (if m=l.toNat then⟨b,0,none⟩ else⟨b,0+l.toNat*sz',none⟩)) (h'.toNat-l.toNat) (m-l.toNat),?_,?_⟩
     · rw[hat];simp only[Instr.slice,Sem.run_bind,run_underlying ht,hrun,Result.andThen_ok,run_szOf hs,Option.map_some,Addr.add_lit];split<;>rfl
     · refine⟨b,if m=l.toNat then 0 else 0+l.toNat*sz',m-l.toNat,_,?_,by omega,hg,?_⟩
       · rw[show (h'-l).toNat=h'.toNat-l.toNat by omega];split<;>rfl
       · by_cases hz:m=l.toNat
         · left;omega
         · right;rw[if_neg hz];omega
   · cases h
 · rename_i i g off n sz';split at h
   · rename_i l h' e1 e2;obtain⟨rfl,rfl⟩:=ov_inj h;obtain⟨rfl,h0,h1,h2⟩:=hp;obtain⟨b,o,cap,lim,rfl,hcap,hg,ho⟩:=ha;obtain⟨m,hrun,hm1,hm2,_⟩:=run_bounds (P:=P) (w:=w) (n:=n) (cap:=cap) (s:=true) hρ hl hh hm e1 e2 h0 h1 h2 hcap (.inl rfl) hmh;refine⟨.slice (some (if m=l.toNat then⟨b,o,none⟩ else⟨b,o+l.toNat*sz',none⟩)) (h'.toNat-l.toNat) (m-l.toNat),?_,?_⟩
     · rw[hat];simp only[Instr.slice,Sem.run_bind,run_underlying ht,hrun,Result.andThen_ok,run_szOf hs,Option.map_some,Addr.add_lit];split<;>rfl
     · refine⟨b,if m=l.toNat then o else o+l.toNat*sz',m-l.toNat,_,?_,by omega,hg,?_⟩
       · rw[show (h'-l).toNat=h'.toNat-l.toNat by omega];split<;>rfl
       · by_cases hz:m=l.toNat
         · left;omega
         · rcases ho with rfl | rfl
           · left;omega
           · right;rw[if_neg hz]
   · cases h
 · cases h
theorem s_slT{t:TypeId}{e:Nat→AV}{ρ:Operand→Value}(hρ:ORel G e ρ){lo hi:Option Operand}{lo' hi':Option IOpd}(ht:P.underlying t=some .string)(hl:cOptOpd lo=some lo')(hh:cOptOpd hi=some hi')(ha:Rel G a va)(h:slTO e a lo' hi'=some (p,v))(hp:p):
  ∃v',(Instr.sliceAt t va (lo.map ρ) (hi.map ρ) none).run P w= .ok v' w∧Rel G v v':=by
 have hat:∀x,(Instr.sliceAt t x (lo.map ρ) (hi.map ρ) none).run P w=(Instr.slice t x (lo.map ρ) (hi.map ρ) none).run P w:=by intro x;unfold Instr.sliceAt;rw[Sem.run_bind,run_underlying ht,Result.andThen_ok]
 unfold slTO at h;split at h
 · split at h
   · rename_i s _ _ l h' e1 e2;obtain⟨rfl,rfl⟩:=ov_inj h;obtain⟨h0,h1,h2⟩:=hp;simp only[Rel] at ha;subst ha;obtain⟨m,hrun,_⟩:=run_bounds (P:=P) (w:=w) (n:=s.size) (cap:=s.size) (s:=false) (mx:=none) hρ hl hh rfl e1 e2 h0 h1 h2 (by omega) (.inl rfl) (.inl rfl);refine⟨.string (s.extract l.toNat h'.toNat),?_,rfl⟩;rw[hat];simp only[Option.map_none] at hrun;simp[Instr.slice,run_underlying ht,hrun]
   · cases h
 · cases h
end
end Go.Abs
namespace Go.Abs
section
variable {P:Program} {G:GS} {w:World} {a b c v:AV} {p:Prop} {va vb vc:Value}
theorem RelL.set:∀{l:List AV} {vs:List Value},RelL G l vs→ ∀(i:Nat) {a:AV} {v:Value},Rel G a v→RelL G (l.set i a) (vs.set i v)
 | [],vs,h,i,a,v,_=>by simp only[RelL] at h;subst h;exact rfl
 | x::l,_,⟨u,r,rfl,h1,h2⟩,0,a,v,hr=>⟨v,r,rfl,hr,h2⟩
 | x::l,_,⟨u,r,rfl,h1,h2⟩,i+1,a,v,hr=>⟨u,r.set i v,rfl,h1,RelL.set h2 i hr⟩
theorem RelL.setL:∀{cs:List AV} {vs:List Value} {l:List AV} {us:List Value},RelL G cs vs→RelL G l us→ ∀off:Nat,RelL G (setL l off cs) (Go.Abs.setL us off vs)
 | [],vs,l,us,h,h2,off=>by simp only[RelL] at h;subst h;exact h2
 | x::cs,_,l,us,⟨u,r,rfl,h1,h3⟩,h2,off=>RelL.setL h3 (h2.set off h1) (off+1)
theorem length_setL{α:Type}:∀(cs:List α) (l:List α) (off:Nat),(setL l off cs).length=l.length
 | [],_,_=>rfl
 | x::cs,l,off=>by rw[setL,length_setL cs];simp
theorem cellsO_rel{sz:Nat}{cs:List AV}(ha:Rel G a va)(h:cellsO sz a=some (p,cs))(hp:p):
  RelL G cs va.cells.toList∧va.cells.size=sz∧cs.length=sz∧cs.all AV.scal=true:=by
 have one:∀x:AV,x.scal=true→Rel G x va→va.cells= #[va]→RelL G [x] va.cells.toList∧va.cells.size=1∧[x].length=1∧[x].all AV.scal=true:=by intro x hx hr hc;rw[hc];exact⟨⟨va,[],rfl,hr,rfl⟩,rfl,rfl,by simp[hx]⟩
 cases a<;>simp only[cellsO] at h<;>try (cases h;done)
 case agg cs'=> obtain⟨rfl,rfl⟩:=ov_inj h;obtain⟨vs,rfl,hr⟩:=ha;exact⟨hr,by rw[←hp.1];simpa[Value.cells] using hr.length,hp.1,hp.2⟩
 all_goals (obtain⟨rfl,rfl⟩:=ov_inj h;subst hp;refine one _ rfl ha ?_)
 case slc=>rcases ha with⟨rfl | ⟨_,_,rfl,_⟩,_⟩ | ⟨_,_,_,rfl,_⟩<;>rfl
 case msl=>obtain⟨_,_,rfl,_⟩:=ha;rfl
 case sub=>obtain⟨_,_,_,_,rfl,_⟩:=ha;rfl
 case pin=>obtain⟨_,_,rfl,_⟩:=ha;rfl
 case ref=>obtain⟨_,_,rfl,_⟩:=ha;rfl
 case clo=>obtain⟨_,_,rfl,_⟩:=ha;rfl
 case ifc=>obtain⟨_,rfl,_⟩:=ha;rfl
 case map=>obtain⟨_,rfl,_⟩:=ha;rfl
 case fmp=>obtain⟨_,_,_,rfl,_⟩:=ha;rfl
 case itr=>obtain⟨_,rfl,_⟩:=ha;rfl
 all_goals (simp only[Rel] at ha;subst ha;rfl)
theorem scal_one(ha:Rel G a va)(h:a.scal=true):va.oneCell'=true:=by
 cases a<;>simp only[AV.scal] at h<;>try (cases h;done)
 case slc=>rcases ha with⟨rfl | ⟨_,_,rfl,_⟩,_⟩ | ⟨_,_,_,rfl,_⟩<;>rfl
 case msl=>obtain⟨_,_,rfl,_⟩:=ha;rfl
 case sub=>obtain⟨_,_,_,_,rfl,_⟩:=ha;rfl
 case pin=>obtain⟨_,_,rfl,_⟩:=ha;rfl
 case ref=>obtain⟨_,_,rfl,_⟩:=ha;rfl
 case clo=>obtain⟨_,_,rfl,_⟩:=ha;rfl
 case ifc=>obtain⟨_,rfl,_⟩:=ha;rfl
 case map=>obtain⟨_,rfl,_⟩:=ha;rfl
 case fmp=>obtain⟨_,_,_,rfl,_⟩:=ha;rfl
 case itr=>obtain⟨_,rfl,_⟩:=ha;rfl
 all_goals (simp only[Rel] at ha;subst ha;rfl)
theorem fold_setL(off:Nat):∀(l:List Value) (k:Nat) (A:Array Value),
  ((l.zipIdx k).foldl (fun cs (x:Value×Nat)=>cs.setIfInBounds (off+x.2) x.1) A).toList=setL A.toList (off+k) l
 | [],k,A=>rfl
 | x::l,k,A=>by rw[List.zipIdx_cons,List.foldl_cons,fold_setL off l (k+1)];simp only[setL,Array.toList_setIfInBounds];rfl
theorem fill_step(place:Nat→Option (Nat×Nat)){cells:Array Value}{i off size:Nat}{v:Value}{rest:List (Nat×Value)}(hpl:place i=some (off,size))(hs:v.cells.size=size)(ho:off+v.cells.size≤cells.size):
  Instr.fill place cells ((i,v)::rest)=Instr.fill place (setL cells.toList off v.cells.toList).toArray rest:=by
 simp only[Instr.fill,hpl];rw[if_neg (by simp[hs] at ho ⊢;omega)]
 congr 1
 apply Array.toList_inj.1;have:=fold_setL off v.cells.toList 0 cells;simp only[Nat.add_zero] at this;simp only[←this];rw[←Array.foldl_toList,Array.toList_zipIdx]
theorem bld_fill{e:Nat→AV}{ρ:Operand→Value}(hρ:ORel G e ρ){pl:Nat→Option (Nat×TypeId)}{place:Nat→Option (Nat×Nat)}(hpl:∀i off t sz,pl i=some (off,t)→szOf P t=some sz→place i=some (off,sz)):
  ∀{parts:List (Nat×Operand)} {ps:List (Nat×Nat×IOpd)} {l l':List AV} {A:Array Value} {p:Prop},cParts P pl parts=some ps→RelL G l A.toList→bldO e l ps=some (p,l')→p→
   ∃A',Instr.fill place A (parts.map fun x=>(x.1,ρ x.2))=some A'∧RelL G l' A'.toList
 | [],ps,l,l',A,p,h,hl,hb,hp=>by simp[cParts] at h;subst h;simp only[bldO] at hb;obtain⟨_,rfl⟩:=ov_inj hb;exact⟨A,rfl,hl⟩
 | (i,x)::parts,ps,l,l',A,p,h,hl,hb,hp=>by
   simp only[cParts,Option.bind_eq_bind,Option.bind_eq_some_iff,Prod.exists] at h;obtain⟨off,t,hi,sz,hs,y,hy,r,hr,h⟩:=h;cases h;simp only[bldO] at hb;split at hb
   · rename_i q cs hcs;split at hb
     · rename_i q' c' hc';obtain⟨rfl,rfl⟩:=ov_inj hb;obtain⟨h1,h2,h3⟩:=hp;obtain⟨g1,g2,g3,_⟩:=cellsO_rel (hρ _ _ hy) hcs h1;have hlen:=hl.length;rw[List.map_cons,fill_step place (hpl _ _ _ _ hi hs) g2 (by rw[g2];simp at hlen;omega)];exact bld_fill hρ hpl hr (by simpa using RelL.setL g1 hl off) hc' h3
     · cases hb
   · cases hb
theorem zero_rel{t:TypeId}{z:List AV}(h:zeroOf P t=some z):∃i zv,P.info? t=some i∧i.zero=some zv∧zv.cells.size=i.size∧z=zv.cells.toList.map ofV∧RelL G z zv.cells.toList∧z.length=i.size∧zv.cells.toList.all Value.oneCell'=true:=by
 simp only[zeroOf,Option.bind_eq_bind,Option.bind_eq_some_iff] at h;obtain⟨i,hi,zv,hz,h⟩:=h;split at h
 · rename_i hs;cases h;refine⟨i,zv,hi,hz,hs.1,rfl,RelL.of_get (by simp) fun j a hj=>?_,by simp[hs.1],hs.2⟩;rw[List.getElem?_map] at hj;cases hv:zv.cells.toList[j]? with
   | none=>simp[hv] at hj
   | some x=>simp[hv] at hj;subst hj;exact⟨x,rfl,ofV_rel _ _⟩
 · cases h
theorem run_zero{t:TypeId}{i:TypeInfo}{z:Value}(hi:P.info? t=some i)(hz:i.zero=some z):(zeroValue t).run P w= .ok z w:=by simp[zeroValue,run_typeInfo w hi,hz]
theorem run_places:∀(fs:List Field),fs.all (fun f=>(szOf P f.type).isSome)=true→
  (fs.mapM (fun f=>do pure (f.offset,←sizeOf f.type):Field→Sem (Nat×Nat))).run P w= .ok (fs.map fun f=>(f.offset,(szOf P f.type).getD 0)) w
 | [],_=>rfl
 | f::fs,h=>by simp only[List.all_cons,Bool.and_eq_true] at h;obtain⟨h1,h2⟩:=h;obtain⟨n,hn⟩:=Option.isSome_iff_exists.1 h1;rw[List.mapM_cons];have ih:=run_places fs h2;simp only[Sem.run_bind,run_szOf hn,Result.andThen_ok,Sem.run_pure,ih,List.map_cons,hn,Option.getD_some]
theorem s_bld{t:TypeId}{z:List AV}{ps:List (Nat×Nat×IOpd)}{parts:Array (Nat×Operand)}{e:Nat→AV}{ρ:Operand→Value}(hρ:ORel G e ρ)(hz:zeroOf P t=some z)(ht:(∃fields,P.underlying t=some (.struct fields)∧fields.toList.all (fun f=>(szOf P f.type).isSome)=true∧cParts P (fun i=>(fields[i]?).map fun f=>(f.offset,f.type)) parts.toList=some ps)∨
    ∃n u sz,P.underlying t=some (.array n u)∧szOf P u=some sz∧cParts P (fun i=>some (i*sz,u)) parts.toList=some ps){l:List AV}(h:bldO e z ps=some (p,l))(hp:p):∃v',(Instr.build t (parts.map fun x=>(x.1,ρ x.2))).run P w= .ok v' w∧Rel G (.agg l) v':=by
 obtain⟨i,zv,hi,hzv,hzs,_,hzr,_,_⟩:=zero_rel (G:=G) hz;unfold Instr.build;rw[Sem.run_bind,run_zero hi hzv,Result.andThen_ok,Sem.run_bind];rcases ht with⟨fields,ht,hall,hc⟩ | ⟨n,u,sz,ht,hs,hc⟩
 · obtain⟨A',hA,hr⟩:=bld_fill (place:=fun i=>(fields.map fun f=>(f.offset,(szOf P f.type).getD 0))[i]?) hρ (fun i off t sz h1 h2=>by
    rw[Option.map_eq_some_iff] at h1;obtain⟨f,hf,h1⟩:=h1;cases h1;simp[hf,h2]) hc hzr h hp
   refine⟨.agg A',?_,⟨A',rfl,hr⟩⟩;rw[run_underlying ht,Result.andThen_ok];have hm:(fields.mapM (fun f=>do pure (f.offset,←sizeOf f.type):Field→Sem (Nat×Nat))).run P w= .ok (fields.map fun f=>(f.offset,(szOf P f.type).getD 0)) w:=by
    rw[Array.mapM_eq_mapM_toList,Sem.run_map,run_places _ hall,Result.andThen_ok]
    congr 1
    apply Array.toList_inj.1;simp
   simp only[Sem.run_bind,hm,Result.andThen_ok,Array.toList_map,hA];rfl
 · obtain⟨A',hA,hr⟩:=bld_fill (place:=fun i=>some (i*sz,sz)) hρ (fun i off t sz' h1 h2=>by
    injection h1 with h1;injection h1 with h1 h3;subst h1;subst h3;rw[hs] at h2;cases h2;rfl) hc hzr h hp
   refine⟨.agg A',?_,⟨A',rfl,hr⟩⟩;rw[run_underlying ht,Result.andThen_ok];simp only[Sem.run_bind,run_szOf hs,Result.andThen_ok,Array.toList_map,hA];rfl
end
end Go.Abs
namespace Go.Abs
structure StepOK (G:GS) (σ:Sig) (w:World) (G':GS) (σ':Sig) (w':World):Prop where
 le:G.le G'
 inv:Inv G' σ' w'
 ext:Ext (Foot G σ) G.K w G'.K w'
 own:∀b,Foot G' σ' b→Foot G σ b∨w.heap.size≤b
theorem GS.le.refl(G:GS):G.le G:=⟨fun _ _ _ h=>h,fun _ _ _ h=>h⟩
theorem GS.le.trans{A B C:GS}(h:A.le B)(k:B.le C):A.le C:=⟨fun b o v x=>k.K _ _ _ (h.K b o v x),fun i g x y=>k.m _ _ _ (h.m i g x y)⟩
theorem Ext.refl(F:Nat→Prop)(K:Nat→Nat→Option Value)(w:World):Ext F K w K w:=⟨rfl,rfl,rfl,Nat.le_refl _,fun _ _ _=>rfl,fun _ _ _ h=>h,fun _ _ _=>rfl⟩
theorem Ext.trans{F F':Nat→Prop}{K K' K'':Nat→Nat→Option Value}{w w' w'':World}(h:Ext F K w K' w')(k:Ext F' K' w' K'' w'')(hF:∀b,b<w.heap.size→F' b→F b):Ext F K w K'' w'':=
 ⟨k.os.trans h.os,k.tape.trans h.tape,k.output.trans h.output,Nat.le_trans h.size k.size,
  fun b hb hn=>(k.block b (Nat.lt_of_lt_of_le hb h.size) (fun hc=>hn (hF b hb hc))).trans (h.block b hb hn),
  fun b o v hv=>k.le _ _ _ (h.le _ _ _ hv),
  fun b hb hn=>(k.Kb b (Nat.lt_of_lt_of_le hb h.size) (fun hc=>hn (hF b hb hc))).trans (h.Kb b hb hn)⟩
theorem StepOK.refl{G:GS}{σ:Sig}{w:World}(h:Inv G σ w):StepOK G σ w G σ w:=⟨.refl G,h,.refl _ _ _,fun _ hb=> .inl hb⟩
theorem StepOK.trans{G G' G'':GS}{σ σ' σ'':Sig}{w w' w'':World}(h:StepOK G σ w G' σ' w')(k:StepOK G' σ' w' G'' σ'' w''):StepOK G σ w G'' σ'' w'':=
 ⟨h.le.trans k.le,k.inv,h.ext.trans k.ext fun b hb hf=>(h.own b hf).resolve_right (by omega),
  fun b hb=>(k.own b hb).elim (fun hf=>h.own b hf) fun hn=> .inr (Nat.le_trans h.ext.size hn)⟩
theorem live_upd{σ:Sig}{d g:Nat}{r:Res}{i:Nat}(h:i≠d):live (upd σ d (g,r)) i=live σ i:=by unfold live;rw[upd_eq,if_neg h]
theorem Inv.lt{G:GS}{σ:Sig}{w:World}(h:Inv G σ w){b:Nat}(hf:Foot G σ b):b<w.heap.size:=by
 obtain⟨i,x,⟨c,hc⟩,hm⟩:=hf;rcases h.res i c hc with⟨_,hn⟩ | ⟨b',e,lim,vals,T,hR⟩ | ⟨b',hO⟩
 · rw[hm] at hn;cases hn
 · have:=hR.m;rw[hm] at this;cases this;exact (Array.getElem?_eq_some_iff.1 hR.obj).1
 · have:=hO.m;rw[hm] at this;cases this;obtain⟨o,ho,_⟩:=hO.obj;exact (Array.getElem?_eq_some_iff.1 ho).1
theorem Kok.lt{K:Nat→Nat→Option Value}{w:World}(h:Kok K w){b o:Nat}{v:Value}(hk:K b o=some v):b<w.heap.size:=by rcases h.see _ _ _ hk with⟨_,_,_,h1,_⟩ | ⟨_,_,_,h1,_⟩<;>exact (Array.getElem?_eq_some_iff.1 h1).1
theorem Kok.keep{K:Nat→Nat→Option Value}{w w':World}(h:Kok K w)(hk:∀b,b<w.heap.size→(∃o v,K b o=some v)→w'.heap[b]?=w.heap[b]?):Kok K w':=
 ⟨fun b o v hv=>by rw[hk b (h.lt hv) ⟨o,v,hv⟩];exact h.see _ _ _ hv⟩
theorem ObjRel.mono{G G':GS}(h:G.le G'):∀{c:List AV} {o:Obj},ObjRel G c o→ObjRel G' c o:=by
 intro c o hc;unfold ObjRel at hc ⊢;split at hc
 · obtain⟨ks,vs,h1,h2,h3,h4⟩:=hc;exact⟨ks,vs,h1,RelL.mono (GS.pure_mono h) h2,RelL.mono (GS.pure_mono h) h3,h4⟩
 · rcases hc with hc | ⟨b,ks,vs,seen,h1,h2,h3,h4,h5,h6⟩
   · exact .inl hc
   · exact .inr ⟨b,ks,vs,seen,h1,h.K _ _ _ h2,h3,RelL.mono (GS.pure_mono h) h4,RelL.mono (GS.pure_mono h) h5,h6.imp id fun⟨j,k1,k2,k3⟩=>⟨j,k1,k2,RelL.mono (GS.pure_mono h) k3⟩⟩
 · exact hc
theorem ObjOK.keep{G G':GS}{w w':World}{i g b:Nat}{c:List AV}(h:ObjOK G w i g c b)(hle:G.le G')(hk:G'.K b=G.K b)(hb:w'.heap[b]?=w.heap[b]?):ObjOK G' w' i g c b:=by obtain⟨o,h1,h2⟩:=h.obj;exact⟨hle.m _ _ _ h.m,fun o=>by rw[hk];exact h.K o,o,by rw[hb];exact h1,h2.mono hle⟩
theorem ObjOK.lt{G:GS}{w:World}{i g b:Nat}{c:List AV}(h:ObjOK G w i g c b):b<w.heap.size:=by obtain⟨o,h1,_⟩:=h.obj;exact (Array.getElem?_eq_some_iff.1 h1).1
theorem Inv.kill{G:GS}{σ:Sig}{w:World}(h:Inv G σ w)(d k:Nat):Inv G (upd σ d (k,.dead)) w where
 kok:=h.kok
 res i c hc:=by
  by_cases e:i=d
  · subst e;rw[upd_eq,if_pos rfl] at hc;cases hc
  · rw[upd_eq,if_neg e] at hc ⊢;exact h.res i c hc
 fresh:=h.fresh
 dist i j b x y hij hi hj h1 h2:=by
  have ni:i≠d:=by rintro rfl;obtain⟨c,hc⟩:=hi;rw[upd_eq,if_pos rfl] at hc;cases hc
  have nj:j≠d:=by rintro rfl;obtain⟨c,hc⟩:=hj;rw[upd_eq,if_pos rfl] at hc;cases hc
  rw[live_upd ni] at hi;rw[live_upd nj] at hj;rw[upd_eq,if_neg ni] at h1;rw[upd_eq,if_neg nj] at h2;exact h.dist i j b x y hij hi hj h1 h2
theorem Foot.of_kill{G:GS}{σ:Sig}{d b k:Nat}(h:Foot G (upd σ d (k,.dead)) b):Foot G σ b:=by
 obtain⟨i,x,⟨c,hc⟩,hm⟩:=h;have ni:i≠d:=by rintro rfl;rw[upd_eq,if_pos rfl] at hc;cases hc
 rw[upd_eq,if_neg ni] at hc hm;exact⟨i,x,⟨c,hc⟩,hm⟩
theorem StepOK.kill{G:GS}{σ:Sig}{w:World}(h:Inv G σ w)(d k:Nat):StepOK G σ w G (upd σ d (k,.dead)) w:=
 ⟨.refl G,h.kill d k,.refl _ _ _,fun _ hb=> .inl hb.of_kill⟩
theorem Inv.drew{G:GS}{σ:Sig}{w w':World}(h:Inv G σ w)(hh:w'.heap=w.heap):Inv G σ w':=
 ⟨h.kok.keep fun b _ _=>by rw[hh],fun i c hr=>(h.res i c hr).imp id (Or.imp (fun⟨b,e,lim,vals,T,hR⟩=>⟨b,e,lim,vals,T,⟨hR.m,by rw[hh];exact hR.obj,hR.fit,hR.lim,hR.K,hR.rel⟩⟩) fun⟨b,hO⟩=>⟨b,hO.keep (.refl G) rfl (by rw[hh])⟩),h.fresh,h.dist⟩
theorem StepOK.drew{G:GS}{σ:Sig}{w w':World}(h:Inv G σ w)(hh:w'.heap=w.heap)(h1:w'.os=w.os)(h2:w'.tape=w.tape)(h3:w'.output=w.output):StepOK G σ w G σ w':=
 ⟨.refl G,h.drew hh,⟨h1,h2,h3,by rw[hh];exact Nat.le_refl _,fun b _ _=>by rw[hh],fun _ _ _ x=>x,fun _ _ _=>rfl⟩,fun _ hb=> .inl hb⟩
theorem alloc_new(w:World)(o:Obj):(w.alloc o).heap[w.heap.size]?=some o:=by show (w.heap.push o)[w.heap.size]?=some o;simp
theorem alloc_old(w:World)(o:Obj){i:Nat}(h:i<w.heap.size):(w.alloc o).heap[i]?=w.heap[i]?:=by
 show (w.heap.push o)[i]?=w.heap[i]?
 rw[Array.getElem?_push,if_neg (Nat.ne_of_lt h)]
def GS.grow(G:GS)(B:Nat)(vals:Array Value)(k d g:Nat):GS where
 K b o:=if b=B then (if o<k then vals[o]? else none) else G.K b o
 m i h:=if i=d∧h=g then some (B,k,vals.size) else G.m i h
theorem alloc_ok{G:GS}{σ:Sig}{w:World}(hI:Inv G σ w)(vals:Array Value)(T:TypeId)(k d g:Nat)(hg:G.m d g=none)(c:List AV)(hk:k+c.length≤vals.size)(h1:∀o v,o<k→vals[o]?=some v→v.oneCell'=true)(hc:∀j a,c[j]?=some a→ ∃v,vals[k+j]?=some v∧Rel G a v):
  StepOK G σ w (G.grow w.heap.size vals k d g) (newS σ d g c) (w.alloc (.cells vals T)):=by
 have hnew:∀o,G.K w.heap.size o=none:=fun o=>by
  cases hv:G.K w.heap.size o with
  | none=>rfl
  | some v=>exact absurd (hI.kok.lt hv) (by omega)
 have hle:G.le (G.grow w.heap.size vals k d g):=by
  constructor
  · intro b o v hv;have:=hI.kok.lt hv;simp only[GS.grow];rw[if_neg (by omega)];exact hv
  · intro i g' x hx;simp only[GS.grow];rw[if_neg]
    · exact hx
    · rintro⟨rfl,rfl⟩;rw[hg] at hx;cases hx
 refine⟨hle,⟨⟨?_⟩,?_,?_,?_⟩,⟨rfl,rfl,rfl,by show w.heap.size≤(w.heap.push _).size;simp,fun b hb _=>alloc_old _ _ hb,fun b o v=>hle.K b o v,fun b hb _=>?_⟩,?_⟩
 · intro b o v hv;simp only[GS.grow] at hv;split at hv
   · rename_i e;subst e;split at hv
     · rename_i ho;exact .inl ⟨vals,T,_,alloc_new _ _,hv,h1 o v ho hv⟩
     · cases hv
   · rw[alloc_old _ _ (hI.kok.lt hv)];exact hI.kok.see _ _ _ hv
 · intro i c' hi;by_cases e:i=d
   · subst e
     right
     rw[newS,upd_eq,if_pos rfl] at hi ⊢;cases hi;refine .inl ⟨w.heap.size,k,vals.size,vals,T,⟨by simp[GS.grow],alloc_new _ _,hk,Nat.le_refl _,fun o ho=>?_,fun j a hj=>?_⟩⟩
     · simp only[GS.grow,if_true];rw[if_neg (by omega)]
     · obtain⟨v,hv,hr⟩:=hc j a hj;exact⟨v,hv,hr.mono hle⟩
   · rw[newS,upd_eq,if_neg e] at hi ⊢;rcases hI.res i c' hi with⟨h2,h3⟩ | ⟨b,e',lim,vals',T',hR⟩ | ⟨b,hO⟩
     · left;refine⟨h2,?_⟩
       simp only[GS.grow];rw[if_neg (by rintro⟨h,_⟩;exact e h)];exact h3
     rotate_left
     · refine .inr (.inr ⟨b,hO.keep hle ?_ (alloc_old _ _ hO.lt)⟩);have:=hO.lt
       funext o;simp only[GS.grow];rw[if_neg (by omega)]
     · right;left
       have hb:b<w.heap.size:=(Array.getElem?_eq_some_iff.1 hR.obj).1;refine⟨b,e',lim,vals',T',⟨hle.m _ _ _ hR.m,by rw[alloc_old _ _ hb];exact hR.obj,hR.fit,hR.lim,fun o ho=>?_,fun j a hj=>?_⟩⟩
       · simp only[GS.grow];rw[if_neg (by omega)];exact hR.K o ho
       · obtain⟨v,hv,hr⟩:=hR.rel j a hj;exact⟨v,hv,hr.mono hle⟩
 · intro i;obtain⟨N,hN⟩:=hI.fresh i;refine⟨N+g+1,fun g' hg'=>?_⟩;simp only[GS.grow];rw[if_neg (by rintro⟨_,h⟩;omega)];exact hN _ (by omega)
 · intro i j b x y hij hi hj hx hy;have key:∀i,i≠d→live (newS σ d g c) i→ ∀b x,(G.grow w.heap.size vals k d g).m i (newS σ d g c i).1=some (b,x)→live σ i∧G.m i (σ i).1=some (b,x):=by intro i e hi b x hx;unfold live newS at hi;rw[newS,upd_eq,if_neg e] at hx;rw[upd_eq,if_neg e] at hi;simp only[GS.grow] at hx;rw[if_neg (by rintro⟨h,_⟩;exact e h)] at hx;exact⟨hi,hx⟩
   have keyd:∀b x,(G.grow w.heap.size vals k d g).m d (newS σ d g c d).1=some (b,x)→b=w.heap.size:=by intro b x hx;rw[newS,upd_eq,if_pos rfl] at hx;simp[GS.grow] at hx;exact hx.1.symm
   by_cases ei:i=d
   · subst ei;have hb:=keyd _ _ hx;obtain⟨lj,mj⟩:=key j (Ne.symm hij) hj _ _ hy;have:=hI.lt ⟨j,y,lj,mj⟩;omega
   · obtain⟨li,mi⟩:=key i ei hi _ _ hx;by_cases ej:j=d
     · subst ej;have hb:=keyd _ _ hy;have:=hI.lt ⟨i,x,li,mi⟩;omega
     · obtain⟨lj,mj⟩:=key j ej hj _ _ hy;exact hI.dist i j b x y hij li lj mi mj
 · funext o;simp only[GS.grow];rw[if_neg (by omega)]
 · rintro b ⟨i,x,hi,hx⟩;by_cases e:i=d
   · subst e;rw[newS,upd_eq,if_pos rfl] at hx;simp[GS.grow] at hx;exact .inr (by omega)
   · left
     unfold live newS at hi;rw[newS,upd_eq,if_neg e] at hx;rw[upd_eq,if_neg e] at hi;simp only[GS.grow] at hx;rw[if_neg (by rintro⟨h,_⟩;exact e h)] at hx;exact⟨i,x,hi,hx⟩
theorem grow_m{G:GS}{B:Nat}{vals:Array Value}{k d g:Nat}:(G.grow B vals k d g).m d g=some (B,k,vals.size):=by simp[GS.grow]
theorem grow_K{G:GS}{B:Nat}{vals:Array Value}{k d g o:Nat}(h:o<k):(G.grow B vals k d g).K B o=vals[o]?:=by simp[GS.grow,h]
def GS.growK(G:GS)(B:Nat)(vals:Array Value):GS:=⟨fun b o=>if b=B then vals[o]? else G.K b o,G.m⟩
theorem allocK_ok{G:GS}{σ:Sig}{w:World}(hI:Inv G σ w)(vals:Array Value)(T:TypeId)(h1:∀(o:Nat) (v:Value),vals[o]?=some v→v.oneCell'=true):
  StepOK G σ w (G.growK w.heap.size vals) σ (w.alloc (.cells vals T)):=by
 have hle:G.le (G.growK w.heap.size vals):=⟨fun b o v hv=>by
  have:=hI.kok.lt hv;simp only[GS.growK];rw[if_neg (by omega)];exact hv,fun _ _ _ h=>h⟩
 refine⟨hle,⟨⟨?_⟩,?_,hI.fresh,hI.dist⟩,⟨rfl,rfl,rfl,by show w.heap.size≤(w.heap.push _).size;simp,fun b hb _=>alloc_old _ _ hb,fun b o v=>hle.K b o v,fun b hb _=>?_⟩,fun b hb=> .inl hb⟩
 · intro b o v hv;simp only[GS.growK] at hv;split at hv
   · rename_i e;subst e;exact .inl ⟨vals,T,_,alloc_new _ _,hv,h1 o v hv⟩
   · rw[alloc_old _ _ (hI.kok.lt hv)];exact hI.kok.see _ _ _ hv
 · intro i c' hi;rcases hI.res i c' hi with h2 | ⟨b,e',lim,vals',T',hR⟩ | ⟨b,hO⟩
   · exact .inl h2
   rotate_left
   · refine .inr (.inr ⟨b,hO.keep hle ?_ (alloc_old _ _ hO.lt)⟩);have:=hO.lt
     funext o;simp only[GS.growK];rw[if_neg (by omega)]
   · have hb:b<w.heap.size:=(Array.getElem?_eq_some_iff.1 hR.obj).1;refine .inr (.inl ⟨b,e',lim,vals',T',⟨hR.m,by rw[alloc_old _ _ hb];exact hR.obj,hR.fit,hR.lim,fun o ho=>?_,fun j a hj=>?_⟩⟩)
     · simp only[GS.growK];rw[if_neg (by omega)];exact hR.K o ho
     · obtain⟨v,hv,hr⟩:=hR.rel j a hj;exact⟨v,hv,hr.mono hle⟩
 · funext o;simp only[GS.growK];rw[if_neg (by omega)]
theorem nil_ok{G:GS}{σ:Sig}{w:World}(hI:Inv G σ w)(d g:Nat)(hg:G.m d g=none):StepOK G σ w G (newS σ d g []) w:=by
 refine⟨.refl G,⟨hI.kok,?_,?_,?_⟩,.refl _ _ _,?_⟩
 · intro i c hi;by_cases e:i=d
   · subst e;rw[newS,upd_eq,if_pos rfl] at hi ⊢;cases hi;exact .inl ⟨rfl,hg⟩
   · rw[newS,upd_eq,if_neg e] at hi ⊢;exact hI.res i c hi
 · exact hI.fresh
 · intro i j b x y hij hi hj hx hy;have nd:∀i b x,G.m i (newS σ d g [] i).1=some (b,x)→i≠d:=by rintro i b x hx rfl;rw[newS,upd_eq,if_pos rfl,hg] at hx;cases hx
   have ni:=nd i _ _ hx;have nj:=nd j _ _ hy;unfold live newS at hi hj;rw[upd_eq,if_neg ni] at hi;rw[upd_eq,if_neg nj] at hj;rw[newS,upd_eq,if_neg ni] at hx;rw[newS,upd_eq,if_neg nj] at hy;exact hI.dist i j b x y hij hi hj hx hy
 · rintro b ⟨i,x,hi,hx⟩;by_cases e:i=d
   · subst e;rw[newS,upd_eq,if_pos rfl,hg] at hx;cases hx
   · unfold live newS at hi;rw[upd_eq,if_neg e] at hi;rw[newS,upd_eq,if_neg e] at hx;exact .inl ⟨i,x,hi,hx⟩
end Go.Abs
namespace Go.Abs
theorem write_ok{G:GS}{σ:Sig}{w:World}(hI:Inv G σ w){i g:Nat}{c c':List AV}(hσ:σ i=(g,.row c)){b e lim:Nat}{vals vals':Array Value}{T:TypeId}(hR:ResOK G w i g c b e lim vals T)(hs:vals'.size=vals.size)(hlow:∀o,o<e→vals'[o]?=vals[o]?)(hl:e+c'.length≤lim)(hc:∀j a,c'[j]?=some a→ ∃v,vals'[e+j]?=some v∧Rel G a v):
  StepOK G σ w G (upd σ i (g,.row c')) (w.setRow b vals'):=by
 have hlive:live σ i:=⟨c,by rw[hσ]⟩;have hmi:G.m i (σ i).1=some (b,e,lim):=by rw[hσ];exact hR.m
 have hf:Foot G σ b:=⟨i,_,hlive,hmi⟩;have hheap:=setRow_heap w b vals vals' T (0,0) hR.obj;refine⟨.refl G,⟨⟨?_⟩,?_,?_,?_⟩,⟨rfl,rfl,rfl,by simp,fun k _ hn=>setRow_other _ _ _ _ (fun h=>hn (h▸hf)),fun _ _ _ h=>h,fun _ _ _=>rfl⟩,?_⟩
 · intro b' o v hv;by_cases h:b'=b
   · subst h;have ho:o<e:=Decidable.byContradiction fun hc=>by rw[hR.K o (by omega)] at hv;cases hv
     rcases hI.kok.see _ _ _ hv with⟨us,U,m,h1,h2,h3⟩ | ⟨_,ks,vs,h1,_⟩
     · rw[hR.obj] at h1;cases h1;exact .inl ⟨vals',T,_,hheap,by rw[hlow o ho];exact h2,h3⟩
     · rw[hR.obj] at h1;cases h1
   · rw[setRow_other _ _ _ _ h];exact hI.kok.see _ _ _ hv
 · intro j d hj;by_cases h:j=i
   · subst h;rw[upd_eq,if_pos rfl] at hj ⊢;cases hj;exact .inr (.inl ⟨b,e,lim,vals',T,⟨hR.m,hheap,hl,by rw[hs];exact hR.lim,hR.K,hc⟩⟩)
   · rw[upd_eq,if_neg h] at hj ⊢;rcases hI.res j d hj with h2 | ⟨b',e',lim',vs,T',hR'⟩ | ⟨b',hO⟩
     · exact .inl h2
     · have hne:b'≠b:=by rintro rfl;exact hI.dist j i _ _ _ h ⟨d,hj⟩ hlive hR'.m hmi
       exact .inr (.inl ⟨b',e',lim',vs,T',⟨hR'.m,by rw[setRow_other _ _ _ _ hne];exact hR'.obj,hR'.fit,hR'.lim,hR'.K,hR'.rel⟩⟩)
     · have hne:b'≠b:=by rintro rfl;exact hI.dist j i _ _ _ h ⟨d,hj⟩ hlive hO.m hmi
       exact .inr (.inr ⟨b',hO.keep (.refl G) rfl (setRow_other _ _ _ _ hne)⟩)
 · exact hI.fresh
 · intro j k b' x y hjk hj hk hx hy;have key:∀j,live (upd σ i (g,.row c')) j→ ∀b x,G.m j (upd σ i (g,Res.row c') j).1=some (b,x)→live σ j∧G.m j (σ j).1=some (b,x):=by
    intro j hj b x hx;by_cases h:j=i
    · subst h;rw[upd_eq,if_pos rfl] at hx;exact⟨hlive,by rw[hσ];exact hx⟩
    · rw[live_upd h] at hj;rw[upd_eq,if_neg h] at hx;exact⟨hj,hx⟩
   obtain⟨l1,m1⟩:=key j hj _ _ hx;obtain⟨l2,m2⟩:=key k hk _ _ hy;exact hI.dist j k b' x y hjk l1 l2 m1 m2
 · rintro k ⟨j,x,hj,hx⟩
   left
   by_cases h:j=i
   · subst h;rw[upd_eq,if_pos rfl] at hx;exact⟨j,x,hlive,by rw[hσ];exact hx⟩
   · rw[live_upd h] at hj;rw[upd_eq,if_neg h] at hx;exact⟨j,x,hj,hx⟩
def GS.commit(G:GS)(b:Nat)(vals:Array Value)(e k lim d h:Nat):GS where
 K b' o:=if b'=b then (if e≤o∧o<e+k then vals[o]? else G.K b o) else G.K b' o
 m i g:=if i=d∧g=h then some (b,e+k,lim) else G.m i g
theorem commit_ok{G:GS}{σ:Sig}{w:World}(hI:Inv G σ w){i g:Nat}{c:List AV}(hσ:σ i=(g,.row c)){b e lim:Nat}{vals:Array Value}{T:TypeId}(hR:ResOK G w i g c b e lim vals T)(d k γ:Nat)(hγ:G.m d γ=none)(hk:e+k≤lim)(h1:∀o v,e≤o→o<e+k→vals[o]?=some v→v.oneCell'=true):
  StepOK G σ w (G.commit b vals e k lim d γ) (newS (upd σ i (g,.dead)) d γ []) w:=by
 have hlive:live σ i:=⟨c,by rw[hσ]⟩;have hmi:G.m i (σ i).1=some (b,e,lim):=by rw[hσ];exact hR.m
 have hf:Foot G σ b:=⟨i,_,hlive,hmi⟩;have hle:G.le (G.commit b vals e k lim d γ):=by
  constructor
  · intro b' o v hv;simp only[GS.commit];by_cases h:b'=b
    · subst h;rw[if_pos rfl,if_neg]
      · exact hv
      · intro hc;rw[hR.K o hc.1] at hv;cases hv
    · rw[if_neg h];exact hv
  · intro j h x hx;simp only[GS.commit];rw[if_neg]
    · exact hx
    · rintro⟨rfl,rfl⟩;rw[hγ] at hx;cases hx
 have key:∀j,j≠d→live (newS (upd σ i (g,.dead)) d γ []) j→j≠i∧live σ j∧(newS (upd σ i (g,.dead)) d γ [] j)=σ j:=by
  intro j hj hl;have hji:j≠i:=by rintro rfl;obtain⟨c',hc'⟩:=hl;rw[newS,upd_eq,if_neg hj,upd_eq,if_pos rfl] at hc';cases hc'
  have he:newS (upd σ i (g,.dead)) d γ [] j=σ j:=by rw[newS,upd_eq,if_neg hj,upd_eq,if_neg hji]
  unfold live at hl;rw[he] at hl;exact⟨hji,hl,he⟩
 have hd1:(newS (upd σ i (g,.dead)) d γ [] d)=(γ,.row []):=by rw[newS,upd_eq,if_pos rfl]
 refine⟨hle,⟨⟨?_⟩,?_,?_,?_⟩,⟨rfl,rfl,rfl,Nat.le_refl _,fun _ _ _=>rfl,fun b o v=>hle.K b o v,fun b' hb hn=>?_⟩,?_⟩
 · intro b' o v hv;simp only[GS.commit] at hv;split at hv
   · rename_i hb;subst hb;split at hv
     · rename_i h;exact .inl ⟨vals,T,_,hR.obj,hv,h1 o v h.1 h.2 hv⟩
     · exact hI.kok.see _ _ _ hv
   · exact hI.kok.see _ _ _ hv
 · intro j c' hj;by_cases h:j=d
   · subst h;rw[hd1] at hj ⊢;cases hj;refine .inr (.inl ⟨b,e+k,lim,vals,T,⟨by simp[GS.commit],hR.obj,by simpa using hk,hR.lim,fun o ho=>?_,fun j a hj=>by simp at hj⟩⟩);simp only[GS.commit,if_true];rw[if_neg (by omega)];exact hR.K o (by omega)
   · obtain⟨hji,hl,he⟩:=key j h ⟨c',hj⟩;rw[he] at hj ⊢;rcases hI.res j c' hj with⟨h2,h3⟩ | ⟨b',e',lim',vs,T',hR'⟩ | ⟨b',hO⟩
     · left;refine⟨h2,?_⟩
       simp only[GS.commit];rw[if_neg (by rintro⟨hh,_⟩;exact h hh)];exact h3
     rotate_left
     · have hne:b'≠b:=by rintro rfl;exact hI.dist j i _ _ _ hji hl hlive hO.m hmi
       refine .inr (.inr ⟨b',hO.keep hle ?_ rfl⟩)
       funext o;simp only[GS.commit];rw[if_neg hne]
     · right;left
       have hne:b'≠b:=by rintro rfl;exact hI.dist j i _ _ _ hji hl hlive hR'.m hmi
       refine⟨b',e',lim',vs,T',⟨hle.m _ _ _ hR'.m,hR'.obj,hR'.fit,hR'.lim,fun o ho=>?_,fun j a hj=>?_⟩⟩
       · simp only[GS.commit];rw[if_neg hne];exact hR'.K o ho
       · obtain⟨v,hv,hr⟩:=hR'.rel j a hj;exact⟨v,hv,hr.mono hle⟩
 · intro j;obtain⟨N,hN⟩:=hI.fresh j;refine⟨N+γ+1,fun g' hg'=>?_⟩;simp only[GS.commit];rw[if_neg (by rintro⟨_,h⟩;omega)];exact hN _ (by omega)
 · intro j l b' x y hjl hj hl hx hy;have mo:∀j,j≠d→ ∀b x,(G.commit b vals e k lim d γ).m j (newS (upd σ i (g,.dead)) d γ [] j).1=some (b,x)→True:=fun _ _ _ _ _=>trivial;have key2:∀j,j≠d→live (newS (upd σ i (g,.dead)) d γ []) j→ ∀b' x,(G.commit b vals e k lim d γ).m j (newS (upd σ i (g,.dead)) d γ [] j).1=some (b',x)→j≠i∧live σ j∧G.m j (σ j).1=some (b',x):=by intro j hj hl b' x hx;obtain⟨h2,h3,h4⟩:=key j hj hl;rw[h4] at hx;simp only[GS.commit] at hx;rw[if_neg (by rintro⟨h,_⟩;exact hj h)] at hx;exact⟨h2,h3,hx⟩
   have keyd:∀b' x,(G.commit b vals e k lim d γ).m d (newS (upd σ i (g,.dead)) d γ [] d).1=some (b',x)→b'=b:=by intro b' x hx;rw[hd1] at hx;simp[GS.commit] at hx;exact hx.1.symm
   by_cases ej:j=d
   · subst ej;obtain rfl:=keyd _ _ hx;obtain⟨h2,h3,h4⟩:=key2 l (Ne.symm hjl) hl _ _ hy;exact hI.dist l i _ _ _ h2 h3 hlive h4 hmi
   · obtain⟨h2,h3,h4⟩:=key2 j ej hj _ _ hx;by_cases el:l=d
     · subst el;obtain rfl:=keyd _ _ hy;exact hI.dist j i _ _ _ h2 h3 hlive h4 hmi
     · obtain⟨h5,h6,h7⟩:=key2 l el hl _ _ hy;exact hI.dist j l _ _ _ hjl h3 h6 h4 h7
 · funext o;simp only[GS.commit];rw[if_neg (by rintro rfl;exact hn hf)]
 · rintro b' ⟨j,x,hj,hx⟩
   left
   by_cases h:j=d
   · subst h;rw[hd1] at hx;simp[GS.commit] at hx;obtain⟨rfl,_⟩:=hx;exact hf
   · obtain⟨_,h3,h4⟩:=key j h hj;rw[h4] at hx;simp only[GS.commit] at hx;rw[if_neg (by rintro⟨hh,_⟩;exact h hh)] at hx;exact⟨j,x,h3,hx⟩
end Go.Abs
namespace Go.Abs
section
variable {P:Program} {G:GS} {w:World} {σ:Sig} {a b c v:AV} {p:Prop} {va vb vc:Value}
theorem setL_get{α:Type}:∀(cs l:List α) (off j:Nat),off+cs.length≤l.length→(setL l off cs)[j]?=if off≤j∧j<off+cs.length then cs[j-off]? else l[j]?
 | [],l,off,j,h=>by rw[setL,if_neg (by simp)]
 | x::cs,l,off,j,h=>by
   simp only[List.length_cons] at h;rw[setL,setL_get cs (l.set off x) (off+1) j (by simp;omega)];by_cases h1:off+1≤j∧j<off+1+cs.length
   · rw[if_pos h1,if_pos (by simp;omega)];rw[show j-off=(j-(off+1))+1 by omega,List.getElem?_cons_succ]
   · rw[if_neg h1,List.getElem?_set];by_cases h2:off=j
     · subst h2;rw[if_pos rfl,if_pos (by omega),if_pos (by simp)];simp
     · rw[if_neg h2,if_neg (by simp;omega)]
theorem over_eq{α:Type}(vs l:List α)(off:Nat)(h:off+vs.length≤l.length):l.take off++vs++l.drop (off+vs.length)=setL l off vs:=by
 apply List.ext_getElem?;intro j;rw[setL_get vs l off j h,List.append_assoc,List.getElem?_append];simp only[List.length_take];rw[Nat.min_eq_left (by omega)];by_cases h1:j<off
 · rw[if_pos h1,if_neg (by omega),List.getElem?_take,if_pos h1]
 · rw[if_neg h1,List.getElem?_append];by_cases h2:j-off<vs.length
   · rw[if_pos h2,if_pos (by omega)]
   · rw[if_neg h2,if_neg (by omega),List.getElem?_drop]
     congr 1;omega
theorem e_st{t:TypeId}{sz:Nat}(hI:Inv G σ w)(hs:szOf P t=some sz)(ha:Rel G a va)(hb:Rel G b vb){σ':Sig}(h:stO sz σ b a=some (p,v,σ'))(hp:p):
  ∃w',(Instr.storeAt t va vb).run P w= .ok () w'∧v= .junk∧StepOK G σ w G σ' w':=by
 unfold stO at h;split at h
 · rename_i i g off;split at h
   · rename_i q cs g' c hcs hσ;injection h with h;injection h with h1 h2;injection h2 with h2 h3
     subst h1;subst h2;subst h3;obtain⟨rfl,hq,hfit⟩:=hp;obtain⟨bk,lim,rfl,hm⟩:=ha;obtain⟨g1,g2,g3,g4⟩:=cellsO_rel hb hcs hq;rcases hI.res i c (by rw[hσ]) with⟨_,hn⟩ | ⟨b',e,lim',vals,T,hR⟩ | ⟨b',hO⟩
     · rw[hσ,hm] at hn;cases hn
     rotate_left
     · have hm':=hO.m;rw[hσ,hm] at hm';cases hm'
     rw[hσ] at hR;have:=hR.m;rw[hm] at this;cases this;have hlen:vb.cells.toList.length=sz:=by simpa using g2
     have hfit':off+0+vb.cells.toList.length≤vals.size:=by have:=hR.fit;have:=hR.lim;omega
     have hst:=run_storeCells_at P bk off T vb.cells.toList 0 vals w hR.obj hfit' (fun x hx=>by
      obtain⟨j,hj⟩:=List.getElem?_of_mem hx;have hjl:j<cs.length:=by have:=(List.getElem?_eq_some_iff.1 hj).1;omega
      obtain⟨u,hu,hr⟩:=g1.get j cs[j] (List.getElem?_eq_getElem hjl);rw[hj] at hu;cases hu;exact scal_one hr (by rw[List.all_eq_true] at g4;exact g4 _ (List.getElem_mem hjl)))
     simp only[Nat.add_zero] at hst;rw[over_eq _ _ _ (by simpa using hfit')] at hst;refine⟨_,?_,rfl,write_ok hI hσ hR (vals':=(setL vals.toList off vb.cells.toList).toArray) (by simp[length_setL]) (fun o ho=>by omega) (by rw[length_setL];exact hR.fit) (fun j x hj=>?_)⟩
     · unfold Instr.storeAt storeVar;simp only[Instr.sureAddr,Sem.run_bind,Sem.run_pure,Result.andThen_ok,run_szOf hs];rw[if_neg (by simp[g2])];exact hst
     · have hfit2:=hR.fit;have hlim2:=hR.lim;rw[setL_get _ _ _ _ (by omega)] at hj;rw[Nat.zero_add,List.getElem?_toArray,setL_get _ _ _ _ (by simp at hfit' ⊢;omega)];rw[g3] at hj;rw[hlen];by_cases hc:off≤j∧j<off+sz
       · rw[if_pos hc] at hj ⊢;exact g1.get _ _ hj
       · rw[if_neg hc] at hj ⊢;have:=hR.rel j x hj
         simpa using this
   · cases h
 · cases h
theorem e_box{t:TypeId}{sz d γ:Nat}{cs:List AV}(hI:Inv G σ w)(hγ:G.m d γ=none)(hb:Rel G b vb)(h:cellsO sz b=some (p,cs))(hp:p):
  ∃v' w' G',(Instr.box t vb).run P w= .ok v' w'∧Rel G' (.ref d γ 0) v'∧StepOK G σ w G' (newS σ d γ cs) w':=by
 obtain⟨g1,g2,g3,g4⟩:=cellsO_rel hb h hp;have hl:=g1.length;refine⟨.pointer (some ⟨w.heap.size,0,none⟩),w.alloc (.cells vb.cells t),_,?_,⟨_,_,rfl,grow_m⟩,alloc_ok hI vb.cells t 0 d γ hγ cs (by simp at hl;omega) (by omega) fun j a hj=>by simpa using g1.get j a hj⟩;simp only[Instr.box,newVar,newRow,Sem.run_bind,run_newObj,Result.andThen_ok];rfl
theorem e_new{t:TypeId}{d γ:Nat}{z:List AV}(hI:Inv G σ w)(hγ:G.m d γ=none)(hz:zeroOf P t=some z):
  ∃v' w' G',(Instr.alloc t true (.tuple #[])).run P w= .ok v' w'∧Rel G' (.ref d γ 0) v'∧StepOK G σ w G' (newS σ d γ z) w':=by
 obtain⟨i,zv,hi,hzv,hzs,_,hzr,hzl,_⟩:=zero_rel (G:=G) hz;have hl:=hzr.length;refine⟨.pointer (some ⟨w.heap.size,0,none⟩),w.alloc (.cells zv.cells t),_,?_,⟨_,_,rfl,grow_m⟩,alloc_ok hI zv.cells t 0 d γ hγ z (by simp at hl;omega) (by omega) fun j a hj=>by simpa using hzr.get j a hj⟩;simp only[Instr.alloc,newVar,newRow,Sem.run_bind,run_zero hi hzv,run_newObj,Result.andThen_ok];rfl
theorem flat_get{α:Type}{sz:Nat}:∀(rows:List (List α)),(∀r∈rows,r.length=sz)→ ∀i j,i<rows.length→j<sz→rows.flatten[i*sz+j]?=(rows.getD i [])[j]?
 | r::rows,h,0,j,_,hj=>by have:=h r (by simp);simp only[List.flatten_cons,Nat.zero_mul,Nat.zero_add];rw[List.getElem?_append_left (by omega)];rfl
 | r::rows,h,i+1,j,hi,hj=>by
   have hr:=h r (by simp);simp only[List.flatten_cons]
   rw[show (i+1)*sz+j=sz+(i*sz+j) by rw[Nat.add_mul];omega,List.getElem?_append_right (by omega),hr,Nat.add_sub_cancel_left,
    flat_get rows (fun r hr=>h r (by simp[hr])) i j (by simpa using hi) hj]
   rfl
theorem flat_length{α:Type}{sz:Nat}:∀(rows:List (List α)),(∀r∈rows,r.length=sz)→rows.flatten.length=rows.length*sz
 | [],_=>by simp
 | r::rows,h=>by simp only[List.flatten_cons,List.length_append,List.length_cons];rw[flat_length rows (fun r hr=>h r (by simp[hr])),h r (by simp),Nat.add_mul];omega
theorem flat_ext{α:Type}{sz:Nat}{l l':List α}{n:Nat}(h1:l.length=n*sz)(h2:l'.length=n*sz)(h:∀i j,i<n→j<sz→l[i*sz+j]?=l'[i*sz+j]?):l=l':=by
 apply List.ext_getElem?;intro q;by_cases hq:q<n*sz
 · have hsz:0<sz:=Nat.pos_of_ne_zero fun hz=>by rw[hz] at hq;omega
   have:=h (q/sz) (q%sz) (Nat.div_lt_of_lt_mul (by rw[Nat.mul_comm];exact hq)) (Nat.mod_lt _ hsz)
   rwa [show q/sz*sz+q%sz=q by rw[Nat.mul_comm];exact Nat.div_add_mod q sz] at this
 · rw[List.getElem?_eq_none (by omega),List.getElem?_eq_none (by omega)]
theorem flat_set{α:Type}{sz:Nat}(rows:List (List α))(h:∀r∈rows,r.length=sz)(i:Nat)(hi:i<rows.length)(cs:List α)(hc:cs.length=sz):(rows.set i cs).flatten=setL rows.flatten (i*sz) cs:=by
 have hset:∀r∈rows.set i cs,r.length=sz:=fun r hr=>by
  rcases List.mem_or_eq_of_mem_set hr with h1 | rfl
  · exact h r h1
  · exact hc
 have hfit:i*sz+cs.length≤rows.flatten.length:=by rw[flat_length rows h,hc];have:(i+1)*sz≤rows.length*sz:=Nat.mul_le_mul_right _ hi;rw[Nat.add_mul] at this;omega
 refine flat_ext (sz:=sz) (n:=rows.length) (by rw[flat_length _ hset];simp) (by rw[length_setL,flat_length rows h]) fun i' j hi' hj=>?_;rw[flat_get _ hset i' j (by simpa using hi') hj,setL_get _ _ _ _ hfit,flat_get _ h i' j hi' hj,hc];by_cases he:i'=i
 · subst he;rw[if_pos (by omega),Nat.add_sub_cancel_left,List.getD_eq_getElem?_getD,List.getElem?_set_self hi];rfl
 · rw[if_neg,List.getD_eq_getElem?_getD,List.getD_eq_getElem?_getD,List.getElem?_set_ne (Ne.symm he)];intro⟨h1,h2⟩;rcases Nat.lt_or_gt_of_ne he with h3 | h3
   · have:(i'+1)*sz≤i*sz:=Nat.mul_le_mul_right _ h3;rw[Nat.add_mul] at this;omega
   · have:(i+1)*sz≤i'*sz:=Nat.mul_le_mul_right _ h3;rw[Nat.add_mul] at this;omega
theorem rows_of_flat{B o sz:Nat}{rows:List (List AV)}(hr:∀r∈rows,r.length=sz)(h:∀q a,rows.flatten[q]?=some a→ ∃v,G.K B (o+q)=some v∧v.oneCell'=true∧Rel (GS.pure G.K) a v):RelRows G B o sz rows:=
 .of_get fun i hi=>by
  have hl:(rows.getD i []).length=sz:=by rw[List.getD_eq_getElem?_getD,List.getElem?_eq_getElem hi];exact hr _ (List.getElem_mem hi)
  refine⟨RelRow.of_get fun j a hj=>?_,hl⟩;have hjs:j<sz:=by have:=(List.getElem?_eq_some_iff.1 hj).1;omega
  have:=h (i*sz+j) a (by rw[flat_get _ hr i j hi hjs];exact hj)
  rwa [←Nat.add_assoc] at this
theorem RelRows.len{B o sz:Nat}{rows:List (List AV)}(h:RelRows G B o sz rows):∀r∈rows,r.length=sz:=fun r hr=>by
 obtain⟨i,hi,rfl⟩:=List.getElem_of_mem hr;have:=(h.get i hi).2
 rwa [List.getD_eq_getElem?_getD,List.getElem?_eq_getElem hi] at this
theorem RelRows.flatp{B o sz:Nat}{rows:List (List AV)}(h:RelRows G B o sz rows):∀q a,rows.flatten[q]?=some a→ ∃v,G.K B (o+q)=some v∧v.oneCell'=true∧Rel (GS.pure G.K) a v:=fun q a hq=>by
 have hq':=(List.getElem?_eq_some_iff.1 hq).1;rw[flat_length _ h.len] at hq';have hsz:0<sz:=Nat.pos_of_ne_zero fun hz=>by rw[hz] at hq';omega
 have hdiv:=Nat.div_lt_of_lt_mul (show q<sz*rows.length by rw[Nat.mul_comm];exact hq');have hmod:=Nat.mod_lt q hsz;have hqq:q/sz*sz+q%sz=q:=by rw[Nat.mul_comm];exact Nat.div_add_mod q sz
 rw[←hqq,flat_get _ h.len _ _ hdiv hmod] at hq;have:=(h.get _ hdiv).1.getp _ _ hq
 rwa [Nat.add_assoc,hqq] at this
theorem RelRows.flat{B o sz:Nat}{rows:List (List AV)}(h:RelRows G B o sz rows):∀q a,rows.flatten[q]?=some a→ ∃v,G.K B (o+q)=some v∧v.oneCell'=true∧Rel G a v:=fun q a hq=>by obtain⟨v,h1,h0,h2⟩:=h.flatp q a hq;exact⟨v,h1,h0,h2.mono G.pure_le⟩
theorem bsl_fill{e:Nat→AV}{ρ:Operand→Value}(hρ:ORel G e ρ){sz:Nat}:
  ∀{parts:List (Nat×Operand)} {ps:List (Nat×IOpd)} {rows rows':List (List AV)} {A:Array Value} {p:Prop},cElems parts=some ps→(∀r∈rows,r.length=sz)→RelL (GS.pure G.K) rows.flatten A.toList→
   A.toList.all Value.oneCell'=true→bslO e sz rows ps=some (p,rows')→p→
   ∃A',Instr.fill (fun i=>some (i*sz,sz)) A (parts.map fun x=>(x.1,ρ x.2))=some A'∧(∀r∈rows',r.length=sz)∧rows'.length=rows.length∧RelL (GS.pure G.K) rows'.flatten A'.toList∧A'.toList.all Value.oneCell'=true
 | [],ps,rows,rows',A,p,h,hr,hl,ho,hb,hp=>by simp[cElems] at h;subst h;simp only[bslO] at hb;obtain⟨_,rfl⟩:=ov_inj hb;exact⟨A,rfl,hr,rfl,hl,ho⟩
 | (i,x)::parts,ps,rows,rows',A,p,h,hr,hl,ho,hb,hp=>by
   simp only[cElems,Option.bind_eq_bind,Option.bind_eq_some_iff] at h;obtain⟨y,hy,r,hr',h⟩:=h;cases h;simp only[bslO] at hb;split at hb
   · rename_i q cs hcs;split at hb
     · rename_i q' c' hc';obtain⟨rfl,rfl⟩:=ov_inj hb;obtain⟨h1,h2,h3⟩:=hp;obtain⟨g1,g2,g3,g4⟩:=cellsO_rel (hρ _ _ hy) hcs h1;have hlen:=hl.length;rw[flat_length _ hr] at hlen;have hfit:i*sz+sz≤rows.length*sz:=by
        have:(i+1)*sz≤rows.length*sz:=Nat.mul_le_mul_right _ h2
        rwa [Nat.add_mul,Nat.one_mul] at this
       have g3':(normL cs).length=sz:=by simp[normL,g3]
       have hset:∀r∈rows.set i (normL cs),r.length=sz:=fun r hr2=>by
        rcases List.mem_or_eq_of_mem_set hr2 with h4 | rfl
        · exact hr r h4
        · exact g3'
       rw[List.map_cons,fill_step (fun i=>some (i*sz,sz)) (off:=i*sz) (size:=sz) rfl g2 (by rw[g2];simp at hlen;omega)];have hone:(setL A.toList (i*sz) (ρ x).cells.toList).all Value.oneCell'=true:=by
        rw[List.all_eq_true] at ho ⊢;intro u hu;obtain⟨j,hj⟩:=List.getElem?_of_mem hu;rw[setL_get _ _ _ _ (by simp[g2];simp at hlen;omega)] at hj;split at hj
        · have hjl:j-i*sz<cs.length:=by have:=(List.getElem?_eq_some_iff.1 hj).1;simp[g2] at this;omega
          obtain⟨u',hu',hr2⟩:=g1.get _ cs[j-i*sz] (List.getElem?_eq_getElem hjl);rw[hj] at hu';cases hu';exact scal_one hr2 (by rw[List.all_eq_true] at g4;exact g4 _ (List.getElem_mem hjl))
        · exact ho _ (List.mem_of_getElem? hj)
       have hrl:RelL (GS.pure G.K) (rows.set i (normL cs)).flatten (setL A.toList (i*sz) (ρ x).cells.toList).toArray.toList:=by
        rw[flat_set rows hr i h2 (normL cs) g3']
        simpa using RelL.setL g1.norm hl (i*sz)
       obtain⟨A',e1,e2,e3,e4,e5⟩:=bsl_fill hρ hr' hset hrl (by simpa using hone) hc' h3;exact⟨A',e1,e2,by rw[e3];simp,e4,e5⟩
     · cases hb
   · cases hb
theorem replicate_flat_get{α:Type}{sz n:Nat}{z:List α}(hz:z.length=sz)(q:Nat)(hq:q<n*sz):(List.replicate n z).flatten[q]?=z[q%sz]?:=by
 have hsz:0<sz:=Nat.pos_of_ne_zero fun h=>by rw[h] at hq;omega
 have hdiv:q/sz<n:=Nat.div_lt_of_lt_mul (by rw[Nat.mul_comm];exact hq);have hqq:q/sz*sz+q%sz=q:=by rw[Nat.mul_comm];exact Nat.div_add_mod q sz
 have:=flat_get (List.replicate n z) (sz:=sz) (fun r hr=>by rw[(List.mem_replicate.1 hr).2,hz]) (q/sz) (q%sz) (by simpa using hdiv) (Nat.mod_lt _ hsz);rw[hqq] at this;rw[this,List.getD_eq_getElem?_getD,List.getElem?_replicate,if_pos hdiv];rfl
def zeroRow(z:Array Value)(m:Nat):Array Value:=(Array.range m).map fun i=>z[i%z.size]!
theorem zeroRow_get{z:Array Value}{m q:Nat}(hz:0<z.size)(hq:q<m):(zeroRow z m).toList[q]?=z.toList[q%z.size]?:=by have hm:=Nat.mod_lt q hz;simp only[zeroRow,Array.toList_map,List.getElem?_map,Array.toList_range,List.getElem?_range hq,Option.map_some];rw[getElem!_pos z _ hm,List.getElem?_eq_getElem (by simpa using hm)];rfl
theorem zeroRow_rel{z:List AV}{zv:Array Value}{sz n:Nat}(hr:RelL G z zv.toList)(hl:z.length=sz)(h0:0<sz):RelL G (List.replicate n z).flatten (zeroRow zv (n*sz)).toList:=by
 have hzl:=hr.length;have hzs:zv.size=sz:=by simp at hzl;omega
 refine RelL.of_get ?_ fun q a hq=>?_
 · rw[flat_length (sz:=sz) _ (fun r hr=>by rw[(List.mem_replicate.1 hr).2,hl])];simp[zeroRow]
 · have hq':=(List.getElem?_eq_some_iff.1 hq).1;rw[flat_length (sz:=sz) _ (fun r hr=>by rw[(List.mem_replicate.1 hr).2,hl])] at hq';simp only[List.length_replicate] at hq';rw[replicate_flat_get hl q hq'] at hq;rw[zeroRow_get (by omega) hq',hzs];exact hr.get _ _ hq
theorem zeroRow_one{zv:Array Value}{m:Nat}(h:zv.toList.all Value.oneCell'=true)(h0:0<zv.size):(zeroRow zv m).toList.all Value.oneCell'=true:=by rw[List.all_eq_true] at h ⊢;intro u hu;obtain⟨q,hq⟩:=List.getElem?_of_mem hu;have hq':=(List.getElem?_eq_some_iff.1 hq).1;rw[zeroRow_get h0 (by simpa[zeroRow] using hq')] at hq;exact h _ (List.mem_of_getElem? hq)
theorem bsm_fill{e:Nat→AV}{ρ:Operand→Value}(hρ:ORel G e ρ){sz:Nat}:
  ∀{parts:List (Nat×Operand)} {ps:List (Nat×IOpd)} {rows rows':List (List AV)} {A:Array Value} {p:Prop},cElems parts=some ps→(∀r∈rows,r.length=sz)→RelL G rows.flatten A.toList→
   bsmO e sz rows ps=some (p,rows')→p→
   ∃A',Instr.fill (fun i=>some (i*sz,sz)) A (parts.map fun x=>(x.1,ρ x.2))=some A'∧(∀r∈rows',r.length=sz)∧rows'.length=rows.length∧RelL G rows'.flatten A'.toList
 | [],ps,rows,rows',A,p,h,hr,hl,hb,hp=>by simp[cElems] at h;subst h;simp only[bsmO] at hb;obtain⟨_,rfl⟩:=ov_inj hb;exact⟨A,rfl,hr,rfl,hl⟩
 | (i,x)::parts,ps,rows,rows',A,p,h,hr,hl,hb,hp=>by
   simp only[cElems,Option.bind_eq_bind,Option.bind_eq_some_iff] at h;obtain⟨y,hy,r,hr',h⟩:=h;cases h;simp only[bsmO] at hb;split at hb
   · rename_i q cs hcs;split at hb
     · rename_i q' c' hc';obtain⟨rfl,rfl⟩:=ov_inj hb;obtain⟨h1,h2,h3⟩:=hp;obtain⟨g1,g2,g3,g4⟩:=cellsO_rel (hρ _ _ hy) hcs h1;have hlen:=hl.length;rw[flat_length _ hr] at hlen;have hfit:i*sz+sz≤rows.length*sz:=by
        have:(i+1)*sz≤rows.length*sz:=Nat.mul_le_mul_right _ h2
        rwa [Nat.add_mul,Nat.one_mul] at this
       have hset:∀r∈rows.set i cs,r.length=sz:=fun r hr2=>by
        rcases List.mem_or_eq_of_mem_set hr2 with h4 | rfl
        · exact hr r h4
        · exact g3
       rw[List.map_cons,fill_step (fun i=>some (i*sz,sz)) (off:=i*sz) (size:=sz) rfl g2 (by rw[g2];simp at hlen;omega)];have hrl:RelL G (rows.set i cs).flatten (setL A.toList (i*sz) (ρ x).cells.toList).toArray.toList:=by
        rw[flat_set rows hr i h2 cs g3]
        simpa using RelL.setL g1 hl (i*sz)
       obtain⟨A',e1,e2,e3,e4⟩:=bsm_fill hρ hr' hset hrl hc' h3;exact⟨A',e1,e2,by rw[e3];simp,e4⟩
     · cases hb
   · cases hb
theorem e_bsl{t u:TypeId}{i:TypeInfo}{z:List AV}{len:Nat}{parts:Array (Nat×Operand)}{ps:List (Nat×IOpd)}{rows:List (List AV)}{e:Nat→AV}{ρ:Operand→Value}(hρ:ORel G e ρ)(hI:Inv G σ w)(ht:P.underlying t=some (.slice u))(hi:P.info? u=some i)(hz:zeroOf P u=some z)(hc:cElems parts.toList=some ps)(hn:len*i.size≤2^24)(h0:0<i.size)(h:bslO e i.size (List.replicate len z) ps=some (p,rows))(hp:p):
  ∃v' w' G',(Instr.buildSlice t len (parts.map fun x=>(x.1,ρ x.2))).run P w= .ok v' w'∧Rel G' (.slc i.size rows .full) v'∧StepOK G σ w G' σ w':=by
 obtain⟨i',zv,hi',hzv,hzs,_,hzr,hzl,hzo⟩:=zero_rel (G:=GS.pure G.K) hz;rw[hi] at hi';cases hi';obtain⟨A',e1,e2,e3,e4,e5⟩:=bsl_fill hρ (A:=zeroRow zv.cells (len*i.size)) hc (fun r hr=>by rw[(List.mem_replicate.1 hr).2,hzl]) (zeroRow_rel hzr hzl h0) (zeroRow_one hzo (by omega)) h hp;have hA:=e4.length;rw[flat_length _ e2,e3,List.length_replicate] at hA;have hAs:A'.size=len*i.size:=by simpa using hA
 have hone:∀(o:Nat) (v:Value),A'[o]?=some v→v.oneCell'=true:=fun o v hv=>by rw[List.all_eq_true] at e5;exact e5 v (List.mem_of_getElem? (by simpa using hv:A'.toList[o]?=some v))
 have hal:=allocK_ok hI A' u hone;refine⟨.slice (some ⟨w.heap.size,0,none⟩) len len,w.alloc (.cells A' u),_,?_,.inr ⟨w.heap.size,0,len,?_,?_,?_,?_⟩,hal⟩
 · unfold Instr.buildSlice;rw[Sem.run_bind,run_underlying ht,Result.andThen_ok];simp only[Sem.run_bind,sizeOf,run_typeInfo w hi,Result.andThen_ok,Sem.run_pure];rw[if_neg (by omega)];by_cases hz0:len*i.size=0
   · have:(Array.range (len*i.size)).map (fun x=>(#[]:Array Value)[x%(#[]:Array Value).size]!)=zeroRow zv.cells (len*i.size):=by rw[hz0];simp[zeroRow]
     rw[if_pos hz0];simp only[Array.toList_map,pure_bind];rw[this,e1];simp only[Sem.run_bind,newRow,run_newObj,Result.andThen_ok];rfl
   · rw[if_neg hz0];simp only[Sem.run_bind,run_zero hi hzv,Result.andThen_ok,Sem.run_pure,Array.toList_map];show Sem.run P (match Instr.fill _ (zeroRow zv.cells (len*i.size)) _ with | some cells=>_ | _=>_) w=_
     rw[e1];simp only[Sem.run_bind,newRow,run_newObj,Result.andThen_ok];rfl
 · rw[e3,List.length_replicate]
 · rw[e3,List.length_replicate];exact Nat.le_refl _
 · refine rows_of_flat e2 fun q a hq=>?_;obtain⟨v',hv,hr⟩:=e4.get q a hq;have hlt:=(List.getElem?_eq_some_iff.1 hv).1;refine⟨v',?_,hone q v' (by simpa using hv),hr.mono (GS.pure_mono hal.le)⟩;rw[Nat.zero_add];simp only[GS.growK,if_true]
   simpa using hv
 · show _=_;rw[e3,List.length_replicate]
theorem e_bsm{t u:TypeId}{i:TypeInfo}{z:List AV}{len d γ:Nat}{parts:Array (Nat×Operand)}{ps:List (Nat×IOpd)}{rows:List (List AV)}{e:Nat→AV}{ρ:Operand→Value}(hρ:ORel G e ρ)(hI:Inv G σ w)(hγ:G.m d γ=none)(ht:P.underlying t=some (.slice u))(hi:P.info? u=some i)(hz:zeroOf P u=some z)(hc:cElems parts.toList=some ps)(hn:len*i.size≤2^24)(h0:0<i.size)(h:bsmO e i.size (List.replicate len z) ps=some (p,rows))(hp:p):
  ∃v' w' G',(Instr.buildSlice t len (parts.map fun x=>(x.1,ρ x.2))).run P w= .ok v' w'∧Rel G' (.msl d γ rows.length i.size) v'∧StepOK G σ w G' (newS σ d γ rows.flatten) w':=by
 obtain⟨i',zv,hi',hzv,hzs,_,hzr,hzl,hzo⟩:=zero_rel (G:=G) hz;rw[hi] at hi';cases hi';obtain⟨A',e1,e2,e3,e4⟩:=bsm_fill hρ (A:=zeroRow zv.cells (len*i.size)) hc (fun r hr=>by rw[(List.mem_replicate.1 hr).2,hzl]) (zeroRow_rel hzr hzl h0) h hp;have hA:=e4.length;rw[flat_length _ e2,e3,List.length_replicate] at hA;have hAs:A'.size=len*i.size:=by simpa using hA
 have hfl:rows.flatten.length=len*i.size:=by rw[flat_length _ e2,e3,List.length_replicate]
 have hal:=alloc_ok hI A' u 0 d γ hγ rows.flatten (by omega) (by omega) fun j a hj=>by simpa using e4.get j a hj
 refine⟨.slice (some ⟨w.heap.size,0,none⟩) len len,w.alloc (.cells A' u),_,?_,⟨w.heap.size,len,?_,?_,?_⟩,hal⟩
 · unfold Instr.buildSlice;rw[Sem.run_bind,run_underlying ht,Result.andThen_ok];simp only[Sem.run_bind,sizeOf,run_typeInfo w hi,Result.andThen_ok,Sem.run_pure];rw[if_neg (by omega)];by_cases hz0:len*i.size=0
   · have:(Array.range (len*i.size)).map (fun x=>(#[]:Array Value)[x%(#[]:Array Value).size]!)=zeroRow zv.cells (len*i.size):=by rw[hz0];simp[zeroRow]
     rw[if_pos hz0];simp only[Array.toList_map,pure_bind];rw[this,e1];simp only[Sem.run_bind,newRow,run_newObj,Result.andThen_ok];rfl
   · rw[if_neg hz0];simp only[Sem.run_bind,run_zero hi hzv,Result.andThen_ok,Sem.run_pure,Array.toList_map];show Sem.run P (match Instr.fill _ (zeroRow zv.cells (len*i.size)) _ with | some cells=>_ | _=>_) w=_
     rw[e1];simp only[Sem.run_bind,newRow,run_newObj,Result.andThen_ok];rfl
 · rw[e3,List.length_replicate]
 · rw[e3,List.length_replicate];exact Nat.le_refl _
 · show _=_
   rw[grow_m,hAs]
end
end Go.Abs
namespace Go.Abs
section
variable {P:Program} {G:GS} {w:World} {σ:Sig} {a b c v:AV} {p:Prop} {va vb vc:Value}
theorem upd_upd{α:Type}(f:Nat→α)(i:Nat)(x y:α):upd (upd f i x) i y=upd f i y:=by
 funext j;rw[upd_eq,upd_eq,upd_eq];by_cases h:j=i<;>simp[h]
theorem rows_vals{B o sz:Nat}{rows:List (List AV)}(hI:Inv G σ w)(h:RelRows G B o sz rows):
  ∃vs:List Value,vs.length=rows.length*sz∧RelL (GS.pure G.K) rows.flatten vs∧(∀(j:Nat) (v:Value),vs[j]?=some v→w.cell? ⟨B,o+j,none⟩=some v)∧ ∀v∈vs,v.oneCell'=true:=by
 have hf:=h.flat;obtain⟨cs,hl,hc⟩:=CellsAt.list (G:=GS.pure G.K) (w:=w) (b:=B) (o:=o) (l:=rows.flatten) fun j a hj=>by obtain⟨v,hv,h0,hr⟩:=h.flatp j a hj;exact⟨v,hI.kok.cell _ _ _ hv h0,hr⟩
 have hlen:cs.length=rows.length*sz:=by rw[hl.length,flat_length _ h.len]
 refine⟨cs,hlen,hl,hc,fun v hv=>?_⟩;obtain⟨j,hj⟩:=List.getElem?_of_mem hv;have hjl:j<rows.flatten.length:=by have:=(List.getElem?_eq_some_iff.1 hj).1;rw[hl.length] at this;exact this
 obtain⟨u,hu,h0,_⟩:=hf j _ (List.getElem?_eq_getElem hjl);have h1:=hI.kok.cell _ _ _ hu h0;rw[hc j v hj] at h1;cases h1;exact h0
theorem src_vals{sz:Nat}{ys:List (List AV)}{q:Prop}(hI:Inv G σ w)(hb:Rel G b vb)(h:rowsO sz b=some (q,ys))(hq:q):
  ∃vs:List Value,vs.length=ys.length*sz∧RelL (GS.pure G.K) ys.flatten vs∧(∀v∈vs,v.oneCell'=true)∧(Builtin.lenOf vb).run P w= .ok ys.length w∧
   ∀w':World,w'.heap=w.heap→(Builtin.firstCells sz ys.length vb).run P w'= .ok vs.toArray w':=by
 unfold rowsO at h;split at h
 · obtain⟨_,rfl⟩:=ov_inj h;simp only[Rel] at hb;subst hb;exact⟨[],by simp,rfl,by simp,rfl,fun w' _=>rfl⟩
 · obtain⟨rfl,rfl⟩:=ov_inj h;subst hq;rcases hb with⟨rfl | ⟨_,_,rfl,_⟩,rfl⟩ | ⟨B,o,cap,rfl,_,hr,_⟩
   · exact⟨[],by simp,rfl,by simp,rfl,fun w' _=>rfl⟩
   · exact⟨[],by simp,rfl,by simp,rfl,fun w' _=>run_firstCells_some (P:=P) w' _ _ _ _ _ [] (by simp) fun j v hj=>by simp at hj⟩
   · obtain⟨vs,h1,h2,h3,h4⟩:=rows_vals hI hr;refine⟨vs,h1,h2,h4,rfl,fun w' hw=>?_⟩;refine run_firstCells_some (P:=P) w' _ _ _ _ _ vs h1 fun j v hj=>?_;rw[Addr.add_lit];have:=h3 j v hj
     simpa[World.cell?,hw] using this
 · cases h
theorem run_app_room{t u e e' ty:TypeId}{i:TypeInfo}{bk off sLen sCap n:Nat}{vs:List Value}{vals:Array Value}{T:TypeId}(ht:P.underlying t=some (.slice e))(hu:P.underlying u=some (.slice e'))(hi:P.info? e=some i)(hlen:(Builtin.lenOf vb).run P w= .ok n w)(hfirst:(Builtin.firstCells i.size n vb).run P w= .ok vs.toArray w)(hvs:vs.length=n*i.size)(hone:∀v∈vs,v.oneCell'=true)(hobj:w.heap[bk]?=some (.cells vals T (0,0)))(hroom:sLen+n≤sCap)(hfit:off+sLen*i.size+vs.length≤vals.size):
  (Builtin.append_ #[t,u] ty #[.slice (some ⟨bk,off,none⟩) sLen sCap,vb]).run P w=
    .ok (.slice (some ⟨bk,off,none⟩) (sLen+n) sCap) (w.setRow bk (setL vals.toList (off+sLen*i.size) vs).toArray):=by
 have hst:=run_storeCells_at P bk (off+sLen*i.size) T vs 0 vals w hobj (by simpa using hfit) hone;simp only[Nat.add_zero] at hst;rw[over_eq _ _ _ (by simpa using hfit)] at hst;simp[Builtin.append_,run_underlying ht,run_underlying hu,sizeOf,run_typeInfo w hi,hlen,hroom,hfirst,Addr.add_lit,hst]
theorem run_app_nil{t u e e' ty:TypeId}{i:TypeInfo}(ht:P.underlying t=some (.slice e))(hu:P.underlying u=some (.slice e'))(hi:P.info? e=some i)(hlen:(Builtin.lenOf vb).run P w= .ok 0 w)(hfirst:(Builtin.firstCells i.size 0 vb).run P w= .ok #[] w):
  (Builtin.append_ #[t,u] ty #[.slice none 0 0,vb]).run P w= .ok (.slice none 0 0) w:=by
 simp[Builtin.append_,run_underlying ht,run_underlying hu,sizeOf,run_typeInfo w hi,hlen,hfirst]
theorem run_app_none{t u e e' ty:TypeId}{i:TypeInfo}{x:Addr}{sLen sCap:Nat}(ht:P.underlying t=some (.slice e))(hu:P.underlying u=some (.slice e'))(hi:P.info? e=some i)(hlen:(Builtin.lenOf vb).run P w= .ok 0 w)(hfirst:(Builtin.firstCells i.size 0 vb).run P w= .ok #[] w)(hc:sLen≤sCap):
  (Builtin.append_ #[t,u] ty #[.slice (some x) sLen sCap,vb]).run P w= .ok (.slice (some x) sLen sCap) w:=by
 simp[Builtin.append_,run_underlying ht,run_underlying hu,sizeOf,run_typeInfo w hi,hlen,hfirst,hc,storeCells]
theorem run_app_grow{t u e e' ty:TypeId}{i:TypeInfo}{zv:Value}{base:Option Addr}{sLen sCap n:Nat}{vs os:List Value}(ht:P.underlying t=some (.slice e))(hu:P.underlying u=some (.slice e'))(hi:P.info? e=some i)(hz:i.zero=some zv)(hlen:(Builtin.lenOf vb).run P w= .ok n w)(hfirst:(Builtin.firstCells i.size n vb).run P w.drew= .ok vs.toArray w.drew)(hold:(Builtin.firstCells i.size sLen (.slice base sLen sCap)).run P w.drew= .ok os.toArray w.drew)(hno:sCap<sLen+n)(hb:(sLen+n)*i.bytes≤140737488355328)(hb0:0<i.bytes):
  (Builtin.append_ #[t,u] ty #[.slice base sLen sCap,vb]).run P w=
    .ok (.slice (some ⟨w.heap.size,0,none⟩) (sLen+n) (grownCap w (sLen+n) sCap e)) (w.drew.alloc (.cells (os.toArray++vs.toArray++Builtin.zeroCells zv.cells (grownCap w (sLen+n) sCap e-(sLen+n))) e)):=by
 have h1:¬sLen+n≤sCap:=by omega
 have h2:¬(9223372036854775807<((sLen+n:Nat):Int)):=by have:sLen+n≤(sLen+n)*i.bytes:=Nat.le_mul_of_pos_right _ hb0;omega
 have h3:¬(281474976710656<Builtin.nextslicecap (sLen+n) sCap*i.bytes):=by have:=growslice_fits hno hb;omega
 have h4:i.bytes≠0:=by omega
 simp[Builtin.append_,run_underlying ht,run_underlying hu,sizeOf,run_typeInfo w hi,hlen,h1,h3,h4,Question.forced];rw[run_typeInfo _ hi];simp only[Result.andThen_ok,hold,hfirst,run_zero hi hz,newRow,Sem.run_bind,run_newObj,Sem.run_pure];simp only[grownCap,World.alloc];have key:∀Z:Array Value,os.toArray++(vs.toArray++Z)=(os++vs).toArray++Z:=fun Z=>by apply Array.toList_inj.1;simp
 rw[key];rfl
theorem e_app{t u e e' ty:TypeId}{i:TypeInfo}{zv:Value}{d γ:Nat}{es ys:List (List AV)}{σ':Sig}{q:Prop}(hI:Inv G σ w)(hγ:G.m d γ=none)(ht:P.underlying t=some (.slice e))(hu:P.underlying u=some (.slice e'))(hi:P.info? e=some i)(hz:i.zero=some zv)(hzs:zv.cells.size=i.size)(h0:0<i.size)(hb0:0<i.bytes)(ha:Rel G a va)(hb:Rel G b vb)(h:baseO i.size σ a=some (p,es,σ'))(hp:p)(hy:rowsO i.size b=some (q,ys))(hq:q)(hbytes:(es.length+ys.length)*i.bytes≤140737488355328):
  ∃v' w' G',(Builtin.append_ #[t,u] ty #[va,vb]).run P w= .ok v' w'∧Rel G' (.slc i.size (es++ys) (.own d γ)) v'∧StepOK G σ w G' (newS σ' d γ []) w':=by
 obtain⟨vs,hvl,hvr,hvo,hlen,hfirst⟩:=src_vals (P:=P) hI hb hy hq
 have grow:∀(base:Option Addr) (sCap:Nat) (os:List Value),va= .slice base es.length sCap→os.length=es.length*i.size→RelL (GS.pure G.K) es.flatten os→(∀r∈es,r.length=i.size)→(∀v∈os,v.oneCell'=true)→
   (Builtin.firstCells i.size es.length (.slice base es.length sCap)).run P w.drew= .ok os.toArray w.drew→sCap<es.length+ys.length→StepOK G σ w G σ' w→
   ∃v' w' G',(Builtin.append_ #[t,u] ty #[va,vb]).run P w= .ok v' w'∧Rel G' (.slc i.size (es++ys) (.own d γ)) v'∧StepOK G σ w G' (newS σ' d γ []) w':=by
  intro base sCap os hva hol hor her hoo hold hno hst;have hyr:∀r∈ys,r.length=i.size:=by
   intro r hr;unfold rowsO at hy;split at hy
   · obtain⟨_,rfl⟩:=ov_inj hy;simp at hr
   · obtain⟨rfl,rfl⟩:=ov_inj hy;subst hq;rcases hb with⟨_,rfl⟩ | ⟨_,_,_,_,_,hrr,_⟩
     · simp at hr
     · exact hrr.len r hr
   · cases hy
  have hrun:=run_app_grow (ty:=ty) ht hu hi hz hlen (hfirst w.drew rfl) hold hno hbytes hb0;generalize hcap:grownCap w (es.length+ys.length) sCap e=cap at hrun;have hge:es.length+ys.length≤cap:=by rw[←hcap];exact grownCap_ge _ _ _ _
  generalize hvals:os.toArray++vs.toArray++Builtin.zeroCells zv.cells (cap-(es.length+ys.length))=vals at hrun;have hvsz:vals.size=cap*i.size:=by
   rw[←hvals];simp only[Array.size_append,List.size_toArray,size_zeroCells,hzs,hol,hvl,←Nat.add_mul]
   congr 1;omega
  have hsd:StepOK G σ w G σ' w.drew:=hst.trans (StepOK.drew hst.inv rfl rfl rfl rfl);have hget:∀q',q'<(es.length+ys.length)*i.size→vals[q']?=(os++vs)[q']?:=by intro q' hq';rw[←hvals,Array.getElem?_append_left (by simp[hol,hvl,←Nat.add_mul];exact hq')];simp
  have hal:=alloc_ok hsd.inv vals e ((es.length+ys.length)*i.size) d γ hγ [] (by rw[hvsz];simpa using Nat.mul_le_mul_right _ hge) (fun o v ho hv=>by
   rw[hget o ho] at hv;rcases List.mem_append.1 (List.mem_of_getElem? hv) with h | h
   · exact hoo v h
   · exact hvo v h) (by simp)
  refine⟨_,_,_,by rw[hva];exact hrun,.inr ⟨w.heap.size,0,cap,?_,?_,?_,?_⟩,hsd.trans hal⟩
  · rw[List.length_append]
  · rw[List.length_append];exact hge
  · refine rows_of_flat (fun r hr=>?_) fun q' x hq'=>?_
    · rcases List.mem_append.1 hr with h | h
      · exact her r h
      · exact hyr r h
    · have hq2:=(List.getElem?_eq_some_iff.1 hq').1;rw[flat_length (sz:=i.size) _ (fun r hr=>by
       rcases List.mem_append.1 hr with h | h
       · exact her r h
       · exact hyr r h),List.length_append] at hq2
      have hrel:RelL (GS.pure G.K) (es++ys).flatten (os++vs):=by
       rw[List.flatten_append];refine RelL.of_get (by simp[hor.length,hvr.length]) fun j y hj=>?_;rw[List.getElem?_append] at hj ⊢;rw[hor.length];split at hj
       · rw[if_pos (by assumption)];exact hor.get _ _ hj
       · rw[if_neg (by assumption)];exact hvr.get _ _ hj
      obtain⟨v',hv',hr'⟩:=hrel.get q' x hq';refine⟨v',?_,(List.mem_append.1 (List.mem_of_getElem? hv')).elim (hoo v') (hvo v'),hr'.mono (GS.pure_mono hal.le)⟩;rw[Nat.zero_add];have:=grow_K (G:=G) (B:=w.drew.heap.size) (vals:=vals) (k:=(es.length+ys.length)*i.size) (d:=d) (g:=γ) hq2;rw[show w.heap.size=w.drew.heap.size from rfl,this,hget _ hq2];exact hv'
  · left
    rw[show w.heap.size=w.drew.heap.size from rfl,grow_m,List.length_append,hvsz];simp
 have same:∀(B o cap:Nat),va= .slice (some ⟨B,o,none⟩) es.length cap→es.length=cap→RelRows G B o i.size es→ys.length=0→StepOK G σ w G σ' w→
   ∃v' w' G',(Builtin.append_ #[t,u] ty #[va,vb]).run P w= .ok v' w'∧Rel G' (.slc i.size (es++ys) (.own d γ)) v'∧StepOK G σ w G' (newS σ' d γ []) w':=by
  intro B o cap hva hcap hr hy0 hst;have hys:ys=[]:=List.eq_nil_of_length_eq_zero hy0;subst hys;have hvs:vs=[]:=List.eq_nil_of_length_eq_zero (by rw[hvl];simp);subst hvs;refine⟨.slice (some ⟨B,o,none⟩) es.length cap,w,G,?_,?_,hst.trans (nil_ok hst.inv d γ hγ)⟩
  · rw[hva];exact run_app_none ht hu hi hlen (hfirst w rfl) (by omega)
  · rw[List.append_nil];exact .inr ⟨B,o,cap,rfl,by omega,hr,.inr hcap.symm⟩
 have nilcase:va= .slice none 0 0→es=[]→StepOK G σ w G σ' w→
   ∃v' w' G',(Builtin.append_ #[t,u] ty #[va,vb]).run P w= .ok v' w'∧Rel G' (.slc i.size (es++ys) (.own d γ)) v'∧StepOK G σ w G' (newS σ' d γ []) w':=by
  rintro hva rfl hst;by_cases hy0:ys.length=0
  · have hys:ys=[]:=List.eq_nil_of_length_eq_zero hy0;subst hys;have hvs:vs=[]:=List.eq_nil_of_length_eq_zero (by rw[hvl];simp);subst hvs;refine⟨.slice none 0 0,w,G,?_,.inl ⟨.inl rfl,rfl⟩,hst.trans (nil_ok hst.inv d γ hγ)⟩;rw[hva];exact run_app_nil ht hu hi hlen (hfirst w rfl)
  · exact grow none 0 [] hva (by simp) rfl (by simp) (by simp) rfl (by simp;omega) hst
 have nilcase2:∀a,va= .slice (some a) 0 0→es=[]→StepOK G σ w G σ' w→
   ∃v' w' G',(Builtin.append_ #[t,u] ty #[va,vb]).run P w= .ok v' w'∧Rel G' (.slc i.size (es++ys) (.own d γ)) v'∧StepOK G σ w G' (newS σ' d γ []) w':=by
  rintro a hva rfl hst;by_cases hy0:ys.length=0
  · have hys:ys=[]:=List.eq_nil_of_length_eq_zero hy0;subst hys;have hvs:vs=[]:=List.eq_nil_of_length_eq_zero (by rw[hvl];simp);subst hvs;refine⟨.slice (some a) 0 0,w,G,?_,.inl ⟨.inr ⟨a,0,rfl,.inl rfl⟩,rfl⟩,hst.trans (nil_ok hst.inv d γ hγ)⟩;rw[hva];exact run_app_none ht hu hi hlen (hfirst w rfl) (by omega)
  · exact grow (some a) 0 [] hva (by simp) rfl (by simp) (by simp) (run_firstCells_some (P:=P) _ _ _ _ _ _ [] (by simp) fun j v hj=>by simp at hj) (by simp;omega) hst
 have nilcaseN:va= .slice none 0 0∨(∃a,va= .slice (some a) 0 0)→es=[]→StepOK G σ w G σ' w→
   ∃v' w' G',(Builtin.append_ #[t,u] ty #[va,vb]).run P w= .ok v' w'∧Rel G' (.slc i.size (es++ys) (.own d γ)) v'∧StepOK G σ w G' (newS σ' d γ []) w':=by
  rintro (h | ⟨a,h⟩) he hst
  · exact nilcase h he hst
  · exact nilcase2 a h he hst
 have olds:∀(B o cap:Nat),RelRows G B o i.size es→ ∃os:List Value,os.length=es.length*i.size∧RelL (GS.pure G.K) es.flatten os∧(∀v∈os,v.oneCell'=true)∧
   (Builtin.firstCells i.size es.length (.slice (some ⟨B,o,none⟩) es.length cap)).run P w.drew= .ok os.toArray w.drew:=by
  intro B o cap hr;obtain⟨os,h1,h2,h3,h4⟩:=rows_vals hI hr;refine⟨os,h1,h2,h4,run_firstCells_some (P:=P) w.drew _ _ _ _ _ os h1 fun j v hj=>?_⟩;rw[Addr.add_lit];exact h3 j v hj
 unfold baseO at h;split at h
 · injection h with h;injection h with h1 h2;injection h2 with h2 h3
   subst h1;subst h2;subst h3;exact nilcase ha rfl (.refl hI)
 · rename_i sz' es';injection h with h;injection h with h1 h2;injection h2 with h2 h3
   subst h1;subst h2;subst h3;subst hp;rcases ha with⟨hv,rfl⟩ | ⟨B,o,cap,hv,hc,hr,hfull⟩
   · exact nilcaseN hv.full rfl (.refl hI)
   · have hfull':cap=es'.length:=hfull;by_cases hy0:ys.length=0
     · exact same B o cap hv hfull'.symm hr hy0 (.refl hI)
     · obtain⟨os,h1,h2,h3,h4⟩:=olds B o cap hr;exact grow _ cap os hv h1 h2 hr.len h3 h4 (by omega) (.refl hI)
 · rename_i sz' es' j g;split at h
   · rename_i g' c hσ;injection h with h;injection h with h1 h2;injection h2 with h2 h3
     subst h1;subst h2;subst h3;obtain⟨rfl,rfl,rfl⟩:=hp;have hkill:StepOK G σ w G (upd σ j (g,.dead)) w:=by exact StepOK.kill hI j g
     rcases ha with⟨hv,rfl⟩ | ⟨B,o,cap,hv,hc,hr,htag⟩
     · exact nilcaseN hv.owned rfl hkill
     · by_cases hroom:es'.length+ys.length≤cap
       · rcases htag with htag | hfull
         ·
          rcases hI.res j [] (by rw[hσ]) with⟨_,hn⟩ | ⟨b',e0,lim',vals,T,hR⟩ | ⟨b',hO⟩
          · rw[hσ,htag] at hn;cases hn
          rotate_left
          · obtain⟨_,_,ho⟩:=hO.obj;exact ho.elim
          rw[hσ] at hR;have:=hR.m;rw[htag] at this;cases this;have hmul:(es'.length+ys.length)*i.size≤cap*i.size:=Nat.mul_le_mul_right _ hroom;rw[Nat.add_mul] at hmul;have hfit:o+es'.length*i.size+vs.length≤vals.size:=by have:=hR.lim;omega
          have hrun:=run_app_room (ty:=ty) ht hu hi hlen (hfirst w rfl) hvl hvo hR.obj hroom hfit
          have hw:=write_ok hI hσ hR (c':=ys.flatten) (vals':=(setL vals.toList (o+es'.length*i.size) vs).toArray) (by simp[length_setL])
           (fun q' hq'=>by rw[List.getElem?_toArray,setL_get _ _ _ _ (by simpa using hfit),if_neg (by omega)];simp)
           (by rw[←hvr.length,hvl];omega)
           (fun q' x hq'=>by
             have hq2:=(List.getElem?_eq_some_iff.1 hq').1;rw[List.getElem?_toArray,setL_get _ _ _ _ (by simpa using hfit),if_pos (by rw[hvr.length];omega),Nat.add_sub_cancel_left];exact (hvr.mono G.pure_le).get _ _ hq')
          have hR2:ResOK G (w.setRow B (setL vals.toList (o+es'.length*i.size) vs).toArray) j g ys.flatten B (o+es'.length*i.size) (o+cap*i.size) (setL vals.toList (o+es'.length*i.size) vs).toArray T:=by refine⟨hR.m,setRow_heap _ _ _ _ _ _ hR.obj,by rw[←hvr.length,hvl];omega,by simp[length_setL];exact hR.lim,hR.K,fun q' x hq'=>?_⟩;have hq2:=(List.getElem?_eq_some_iff.1 hq').1;rw[List.getElem?_toArray,setL_get _ _ _ _ (by simpa using hfit),if_pos (by rw[hvr.length];omega),Nat.add_sub_cancel_left];exact (hvr.mono G.pure_le).get _ _ hq'
          have hcm:=commit_ok hw.inv (i:=j) (g:=g) (c:=ys.flatten) (by rw[upd_eq,if_pos rfl]) hR2 d (ys.length*i.size) γ hγ (by omega) (fun q' v' h1 h2 hv'=>by
           rw[List.getElem?_toArray,setL_get _ _ _ _ (by simpa using hfit),if_pos (by omega)] at hv';exact hvo _ (List.mem_of_getElem? hv'))
          rw[upd_upd] at hcm;refine⟨_,_,_,by rw[hv];exact hrun,.inr ⟨B,o,cap,?_,?_,?_,?_⟩,hw.trans hcm⟩
          · rw[List.length_append]
          · rw[List.length_append];exact hroom
          · have hyl:∀r∈ys,r.length=i.size:=by
             intro r hr';unfold rowsO at hy;split at hy
             · obtain⟨_,rfl⟩:=ov_inj hy;simp at hr'
             · obtain⟨rfl,rfl⟩:=ov_inj hy;rcases hb with⟨_,rfl⟩ | ⟨_,_,_,_,_,hrr,_⟩
               · simp at hr'
               · exact hq▸hrr.len r hr'
             · cases hy
            refine rows_of_flat (fun r hr'=>?_) fun q' x hq'=>?_
            · rcases List.mem_append.1 hr' with h | h
              · exact hr.len r h
              · exact hyl r h
            · rw[List.flatten_append,List.getElem?_append,flat_length _ hr.len] at hq';split at hq'
              · obtain⟨v',hv',h0',hr'⟩:=hr.flatp q' x hq';exact⟨v',hcm.le.K _ _ _ hv',h0',hr'.mono (GS.pure_mono hcm.le)⟩
              · obtain⟨v',hv',hr'⟩:=hvr.get _ _ hq';refine⟨v',?_,hvo v' (List.mem_of_getElem? hv'),hr'.mono (GS.pure_mono hcm.le)⟩;have hq2:=(List.getElem?_eq_some_iff.1 hv').1;simp only[GS.commit,if_true];rw[if_pos (by omega),List.getElem?_toArray,setL_get _ _ _ _ (by simpa using hfit),if_pos (by omega)];rw[show o+q'-(o+es'.length*i.size)=q'-es'.length*i.size by omega];exact hv'
          · left
            simp only[GS.commit,and_self,if_true,List.length_append];rw[Nat.add_mul,Nat.add_assoc]
         · have hfull':cap=es'.length:=hfull;exact same B o cap hv hfull'.symm hr (by omega) hkill
       · obtain⟨os,h1,h2,h3,h4⟩:=olds B o cap hr;exact grow _ cap os hv h1 h2 hr.len h3 h4 (by omega) hkill
   · cases h
 · cases h
end
end Go.Abs
namespace Go.Abs
section
variable {P:Program} {G:GS} {w:World} {σ:Sig} {a b c v:AV} {p:Prop} {va vb vc:Value}
def GS.rekey(G:GS)(b e lim d γ:Nat):GS:=⟨G.K,fun i g=>if i=d∧g=γ then some (b,e,lim) else G.m i g⟩
theorem rekey_ok{G:GS}{σ:Sig}{w:World}(hI:Inv G σ w){i g:Nat}{c:List AV}(hσ:σ i=(g,.row c)){b e lim:Nat}{vals:Array Value}{T:TypeId}(hR:ResOK G w i g c b e lim vals T)(d γ:Nat)(hγ:G.m d γ=none):
  StepOK G σ w (G.rekey b e lim d γ) (newS (upd σ i (g,.dead)) d γ c) w:=by
 have hlive:live σ i:=⟨c,by rw[hσ]⟩;have hmi:G.m i (σ i).1=some (b,e,lim):=by rw[hσ];exact hR.m
 have hf:Foot G σ b:=⟨i,_,hlive,hmi⟩;have hle:G.le (G.rekey b e lim d γ):=by
  refine⟨fun b' o v hv=>hv,fun j h x hx=>?_⟩;simp only[GS.rekey];rw[if_neg]
  · exact hx
  · rintro⟨rfl,rfl⟩;rw[hγ] at hx;cases hx
 have key:∀j,j≠d→live (newS (upd σ i (g,.dead)) d γ c) j→j≠i∧live σ j∧(newS (upd σ i (g,.dead)) d γ c j)=σ j:=by
  intro j hj hl;have hji:j≠i:=by rintro rfl;obtain⟨c',hc'⟩:=hl;rw[newS,upd_eq,if_neg hj,upd_eq,if_pos rfl] at hc';cases hc'
  have he:newS (upd σ i (g,.dead)) d γ c j=σ j:=by rw[newS,upd_eq,if_neg hj,upd_eq,if_neg hji]
  unfold live at hl;rw[he] at hl;exact⟨hji,hl,he⟩
 have hd1:(newS (upd σ i (g,.dead)) d γ c d)=(γ,.row c):=by rw[newS,upd_eq,if_pos rfl]
 have hmd:∀j,j≠d→ ∀h,(G.rekey b e lim d γ).m j h=G.m j h:=fun j hj h=>by simp only[GS.rekey];rw[if_neg fun h=>hj h.1]
 have hmd2:(G.rekey b e lim d γ).m d γ=some (b,e,lim):=by simp[GS.rekey]
 refine⟨hle,⟨⟨hI.kok.see⟩,?_,?_,?_⟩,⟨rfl,rfl,rfl,Nat.le_refl _,fun _ _ _=>rfl,fun b o v hv=>hv,fun _ _ _=>rfl⟩,?_⟩
 · intro j c' hj;by_cases h:j=d
   · subst h;rw[hd1] at hj ⊢;cases hj;exact .inr (.inl ⟨b,e,lim,vals,T,⟨hmd2,hR.obj,hR.fit,hR.lim,hR.K,fun q a hq=>by obtain⟨v,h1,h2⟩:=hR.rel q a hq;exact⟨v,h1,h2.mono hle⟩⟩⟩)
   · obtain⟨hji,hl,he⟩:=key j h ⟨c',hj⟩;rw[he] at hj ⊢;rcases hI.res j c' hj with⟨h1,h2⟩ | ⟨b',e',lim',vs,T',hR'⟩ | ⟨b',hO⟩
     · exact .inl ⟨h1,by rw[hmd j h];exact h2⟩
     · exact .inr (.inl ⟨b',e',lim',vs,T',⟨by rw[hmd j h];exact hR'.m,hR'.obj,hR'.fit,hR'.lim,hR'.K,fun q a hq=>by obtain⟨v,h1,h2⟩:=hR'.rel q a hq;exact⟨v,h1,h2.mono hle⟩⟩⟩)
     · exact .inr (.inr ⟨b',hO.keep hle rfl rfl⟩)
 · intro j;obtain⟨N,hN⟩:=hI.fresh j;refine⟨max N (γ+1),fun h hh=>?_⟩;simp only[GS.rekey];rw[if_neg (by rintro⟨_,rfl⟩;omega)];exact hN h (by omega)
 · intro j k b' x y hjk hj hk hx hy;by_cases h1:j=d
   · have h2:k≠d:=fun h=>hjk (h1.trans h.symm);obtain⟨hki,hkl,hke⟩:=key k h2 hk;rw[h1,hd1] at hx;simp only at hx;rw[hmd2] at hx;cases hx;rw[hke,hmd k h2] at hy;exact hI.dist i k b _ _ (Ne.symm hki) hlive hkl hmi hy
   · obtain⟨hji,hjl,hje⟩:=key j h1 hj;rw[hje,hmd j h1] at hx;by_cases h2:k=d
     · rw[h2,hd1] at hy;simp only at hy;rw[hmd2] at hy;cases hy;exact hI.dist i j b _ _ (Ne.symm hji) hlive hjl hmi hx
     · obtain⟨hki,hkl,hke⟩:=key k h2 hk;rw[hke,hmd k h2] at hy;exact hI.dist j k b' x y hjk hjl hkl hx hy
 · rintro b' ⟨j,x,hj,hm⟩
   left
   by_cases h1:j=d
   · rw[h1,hd1] at hm;simp only at hm;rw[hmd2] at hm;cases hm;exact hf
   · obtain⟨hji,hjl,hje⟩:=key j h1 hj;rw[hje,hmd j h1] at hm;exact⟨j,x,hjl,hm⟩
theorem e_apm0{t u e e' ty:TypeId}{i:TypeInfo}{n:Nat}{cs:List AV}{σ':Sig}{q:Prop}(hI:Inv G σ w)(ht:P.underlying t=some (.slice e))(hu:P.underlying u=some (.slice e'))(hi:P.info? e=some i)(ha:Rel G a va)(hb:Rel G b vb)(h:baseM i.size σ a=some (p,n,cs,σ'))(hp:p)(hy:rowsO i.size b=some (q,[]))(hq:q):
  ∃v',(Builtin.append_ #[t,u] ty #[va,vb]).run P w= .ok v' w∧Rel G a v':=by
 obtain⟨vs,hvl,hvr,hvo,hlen,hfirst⟩:=src_vals (P:=P) hI hb hy hq;have hvs:vs=[]:=List.eq_nil_of_length_eq_zero (by rw[hvl];simp);subst hvs;have hf:=hfirst w rfl;unfold baseM at h;split at h
 · simp only[Rel] at ha;subst ha;exact⟨_,run_app_nil ht hu hi hlen hf,rfl⟩
 · rcases ha with⟨hv,h2⟩ | ⟨B,o,cap,rfl,hc,h3,h4⟩
   · rcases hv.full with rfl | ⟨a,rfl⟩
     · exact⟨_,run_app_nil ht hu hi hlen hf,.inl ⟨.inl rfl,h2⟩⟩
     · exact⟨_,run_app_none ht hu hi hlen hf (by omega),.inl ⟨.inr ⟨a,0,rfl,.inl rfl⟩,h2⟩⟩
   · exact⟨_,run_app_none ht hu hi hlen hf hc,.inr ⟨B,o,cap,rfl,hc,h3,h4⟩⟩
 · obtain⟨B,cap,rfl,hc,hm⟩:=ha;exact⟨_,run_app_none ht hu hi hlen hf hc,⟨B,cap,rfl,hc,hm⟩⟩
 · cases h
theorem e_apmC{t u e e' ty:TypeId}{i:TypeInfo}{zv:Value}{d γ n:Nat}{cs:List AV}{m:Nat}{yf:List AV}{vs:List Value}{σ':Sig}(hI:Inv G σ w)(hγ:G.m d γ=none)(ht:P.underlying t=some (.slice e))(hu:P.underlying u=some (.slice e'))(hi:P.info? e=some i)(hz:i.zero=some zv)(hzs:zv.cells.size=i.size)(h0:0<i.size)(hb0:0<i.bytes)(ha:Rel G a va)(h:baseM i.size σ a=some (p,n,cs,σ'))(hp:p)(hvl:vs.length=m*i.size)(hvr':RelL G yf vs)(hvo:∀v∈vs,v.oneCell'=true)(hlen:(Builtin.lenOf vb).run P w= .ok m w)(hfirst:∀w':World,w'.heap=w.heap→(Builtin.firstCells i.size m vb).run P w'= .ok vs.toArray w')(hy0:0<m)(hbytes:(n+m)*i.bytes≤140737488355328):
  ∃v' w' G',(Builtin.append_ #[t,u] ty #[va,vb]).run P w= .ok v' w'∧Rel G' (.msl d γ (n+m) i.size) v'∧StepOK G σ w G' (newS σ' d γ (cs++yf)) w':=by
 have hyl:yf.length=m*i.size:=by rw[←hvr'.length,hvl]
 have grow:∀(base:Option Addr) (sCap:Nat) (os:List Value),va= .slice base n sCap→os.length=n*i.size→RelL G cs os→
   (Builtin.firstCells i.size n (.slice base n sCap)).run P w.drew= .ok os.toArray w.drew→sCap<n+m→StepOK G σ w G σ' w→
   ∃v' w' G',(Builtin.append_ #[t,u] ty #[va,vb]).run P w= .ok v' w'∧Rel G' (.msl d γ (n+m) i.size) v'∧StepOK G σ w G' (newS σ' d γ (cs++yf)) w':=by
  intro base sCap os hva hol hor hold hno hst;have hrun:=run_app_grow (ty:=ty) ht hu hi hz hlen (hfirst w.drew rfl) hold hno hbytes hb0;generalize hcap:grownCap w (n+m) sCap e=cap at hrun;have hge:n+m≤cap:=by rw[←hcap];exact grownCap_ge _ _ _ _
  generalize hvals:os.toArray++vs.toArray++Builtin.zeroCells zv.cells (cap-(n+m))=vals at hrun;have hvsz:vals.size=cap*i.size:=by
   rw[←hvals];simp only[Array.size_append,List.size_toArray,size_zeroCells,hzs,hol,hvl,←Nat.add_mul]
   congr 1;omega
  have hsd:StepOK G σ w G σ' w.drew:=hst.trans (StepOK.drew hst.inv rfl rfl rfl rfl);have hget:∀q',q'<(n+m)*i.size→vals[q']?=(os++vs)[q']?:=by intro q' hq';rw[←hvals,Array.getElem?_append_left (by simp[hol,hvl,←Nat.add_mul];exact hq')];simp
  have hrel:RelL G (cs++yf) (os++vs):=by
   refine RelL.of_get (by simp[hor.length,hvr'.length]) fun j y hj=>?_;rw[List.getElem?_append] at hj ⊢;rw[hor.length];split at hj
   · rw[if_pos (by assumption)];exact hor.get _ _ hj
   · rw[if_neg (by assumption)];exact hvr'.get _ _ hj
  have hcl:(cs++yf).length=(n+m)*i.size:=by rw[←hrel.length,List.length_append,hol,hvl,Nat.add_mul]
  have hal:=alloc_ok hsd.inv vals e 0 d γ hγ (cs++yf) (by rw[hvsz,hcl,Nat.zero_add];exact Nat.mul_le_mul_right _ hge) (fun o v ho=>by omega) fun j x hj=>by have hjl:=(List.getElem?_eq_some_iff.1 hj).1;rw[Nat.zero_add,hget j (by omega)];exact hrel.get _ _ hj
  refine⟨_,_,_,by rw[hva];exact hrun,⟨w.heap.size,cap,rfl,hge,?_⟩,hsd.trans hal⟩;rw[show w.heap.size=w.drew.heap.size from rfl,grow_m,hvsz]
 have empty:(va= .slice none 0 0∨ ∃x,va= .slice (some x) 0 0)→n=0→cs=[]→σ'=σ→
   ∃v' w' G',(Builtin.append_ #[t,u] ty #[va,vb]).run P w= .ok v' w'∧Rel G' (.msl d γ (n+m) i.size) v'∧StepOK G σ w G' (newS σ' d γ (cs++yf)) w':=by
  rintro hv rfl rfl rfl;rcases hv with hv | ⟨x,hv⟩
  · exact grow none 0 [] hv (by simp) rfl rfl (by omega) (.refl hI)
  · refine grow (some x) 0 [] hv (by simp) rfl ?_ (by omega) (.refl hI);obtain⟨B,o,sp⟩:=x;exact run_firstCells_some (P:=P) w.drew _ _ _ _ _ [] (by simp) fun j v hj=>by simp at hj
 unfold baseM at h;split at h
 · injection h with h;injection h with h1 h2;injection h2 with h2 h3;injection h3 with h3 h4
   subst h2;subst h3;subst h4;exact empty (.inl ha) rfl rfl rfl
 · injection h with h;injection h with h1 h2;injection h2 with h2 h3;injection h3 with h3 h4
   subst h2;subst h3;subst h4;rcases ha with⟨hv,_⟩ | ⟨B,o,cap,hv,hc,_,hfull⟩
   · rcases hv.full with hv | ⟨a,hv⟩
     · exact empty (.inl hv) rfl rfl rfl
     · exact empty (.inr ⟨_,hv⟩) rfl rfl rfl
   · have hf:cap=0:=hfull;subst hf;exact empty (.inr ⟨_,hv⟩) rfl rfl rfl
 · rename_i j g n' sz';split at h
   · rename_i g' c hσ;injection h with h;injection h with h1 h2;injection h2 with h2 h3;injection h3 with h3 h4
     subst h1;subst h2;subst h3;subst h4;obtain⟨rfl,rfl,hcl⟩:=hp;obtain⟨B,cap,hv,hc,hm⟩:=ha;rcases hI.res j c (by rw[hσ]) with⟨_,hn⟩ | ⟨b',e0,lim',vals,T,hR⟩ | ⟨b',hO⟩
     · rw[hσ,hm] at hn;cases hn
     rotate_left
     · have hm':=hO.m;rw[hσ,hm] at hm';cases hm'
     rw[hσ] at hR;have:=hR.m;rw[hm] at this;cases this;have hkill:StepOK G σ w G (upd σ j (g,.dead)) w:=StepOK.kill hI j g;by_cases hroom:n'+m≤cap
     · have hmul:(n'+m)*i.size≤cap*i.size:=Nat.mul_le_mul_right _ hroom;rw[Nat.add_mul] at hmul;have hfit:0+n'*i.size+vs.length≤vals.size:=by have:=hR.lim;omega
       have hrun:=run_app_room (ty:=ty) ht hu hi hlen (hfirst w rfl) hvl hvo hR.obj hroom hfit;have hrel2:∀q' x,(c++yf)[q']?=some x→ ∃v,(setL vals.toList (0+n'*i.size) vs).toArray[0+q']?=some v∧Rel G x v:=by
        intro q' x hq';rw[List.getElem?_toArray,setL_get _ _ _ _ (by simpa using hfit)];rw[List.getElem?_append] at hq';split at hq'
        · rw[if_neg (by omega)];obtain⟨v,h1,h2⟩:=hR.rel q' x hq';exact⟨v,by simpa using h1,h2⟩
        · have hq2:=(List.getElem?_eq_some_iff.1 hq').1;rw[if_pos (by omega)];have:=hvr'.get _ _ hq'
          rwa [show 0+q'-(0+n'*i.size)=q'-c.length by omega]
       have hlen2:0+(c++yf).length≤cap*i.size:=by rw[List.length_append,hcl,hyl];omega
       have hw:=write_ok hI hσ hR (c':=c++yf) (vals':=(setL vals.toList (0+n'*i.size) vs).toArray) (by simp[length_setL]) (fun o ho=>by omega) hlen2 hrel2
       have hR2:ResOK G (w.setRow B (setL vals.toList (0+n'*i.size) vs).toArray) j g (c++yf) B 0 (cap*i.size) (setL vals.toList (0+n'*i.size) vs).toArray T:=
        ⟨hR.m,setRow_heap _ _ _ _ _ _ hR.obj,hlen2,by simp[length_setL];exact hR.lim,hR.K,hrel2⟩
       have hrk:=rekey_ok hw.inv (i:=j) (g:=g) (c:=c++yf) (by rw[upd_eq,if_pos rfl]) hR2 d γ hγ;rw[upd_upd] at hrk;exact⟨_,_,_,by rw[hv];exact hrun,⟨B,cap,rfl,hroom,by simp[GS.rekey]⟩,hw.trans hrk⟩
     · have hos:∃os:List Value,os.length=n'*i.size∧RelL G c os∧ ∀(k:Nat) (v:Value),os[k]?=some v→w.cell? ⟨B,0+k,none⟩=some v:=by
        obtain⟨os,hl,hc'⟩:=CellsAt.list (G:=G) (w:=w) (b:=B) (o:=0) (l:=c) fun k x hk=>by obtain⟨v,h1,h2⟩:=hR.rel k x hk;refine⟨v,?_,h2⟩;simp only[World.cell?,hR.obj];simpa using h1
        exact⟨os,by rw[hl.length,hcl],hl,hc'⟩
       obtain⟨os,ho1,ho2,ho3⟩:=hos;refine grow _ cap os hv ho1 ho2 ?_ (by omega) hkill;refine run_firstCells_some (P:=P) w.drew _ _ _ _ _ os ho1 fun k v hk=>?_;rw[Addr.add_lit];exact ho3 k v hk
   · cases h
 · cases h
theorem e_apm{t u e e' ty:TypeId}{i:TypeInfo}{zv:Value}{d γ n:Nat}{cs:List AV}{ys:List (List AV)}{σ':Sig}{q:Prop}(hI:Inv G σ w)(hγ:G.m d γ=none)(ht:P.underlying t=some (.slice e))(hu:P.underlying u=some (.slice e'))(hi:P.info? e=some i)(hz:i.zero=some zv)(hzs:zv.cells.size=i.size)(h0:0<i.size)(hb0:0<i.bytes)(ha:Rel G a va)(hb:Rel G b vb)(h:baseM i.size σ a=some (p,n,cs,σ'))(hp:p)(hy:rowsO i.size b=some (q,ys))(hq:q)(hy0:0<ys.length)(hbytes:(n+ys.length)*i.bytes≤140737488355328):
  ∃v' w' G',(Builtin.append_ #[t,u] ty #[va,vb]).run P w= .ok v' w'∧Rel G' (.msl d γ (n+ys.length) i.size) v'∧StepOK G σ w G' (newS σ' d γ (cs++ys.flatten)) w':=by
 obtain⟨vs,hvl,hvr,hvo,hlen,hfirst⟩:=src_vals (P:=P) hI hb hy hq;exact e_apmC hI hγ ht hu hi hz hzs h0 hb0 ha h hp hvl (hvr.mono G.pure_le) hvo hlen hfirst hy0 hbytes
theorem e_apz{t u e e' ty:TypeId}{i:TypeInfo}{zv:Value}{d γ:Nat}{σ':Sig}{r:AV}(hI:Inv G σ w)(hγ:G.m d γ=none)(ht:P.underlying t=some (.slice e))(hu:P.underlying u=some (.slice e'))(hi:P.info? e=some i)(hz:i.zero=some zv)(hzs:zv.cells.size=i.size)(h0:0<i.size)(hb0:0<i.bytes)(ha:Rel G a va)(hb:Rel G b vb)(h:apzO d γ σ i.size i.bytes a b=some (p,r,σ'))(hp:p):
  ∃v' w' G',(Builtin.append_ #[t,u] ty #[va,vb]).run P w= .ok v' w'∧Rel G' r v'∧StepOK G σ w G' σ' w':=by
 unfold apzO at h;split at h
 · rename_i sz' q ys hy;injection h with h;injection h with h1 h2;injection h2 with h2 h3
   subst h1;subst h2;subst h3;obtain⟨rfl,hq,hby⟩:=hp;have hbM:baseM i.size σ (.slc i.size [] .full)=some (i.size=i.size,0,[],σ):=rfl;cases ys with
   | nil=> obtain⟨v',h1,h2⟩:=e_apm0 (P:=P) (u:=u) (ty:=ty) hI ht hu hi ha hb hbM rfl hy hq;exact⟨v',w,G,h1,h2,nil_ok hI d γ hγ⟩
   | cons y ys=> have:=e_apm (P:=P) (u:=u) (ty:=ty) hI hγ ht hu hi hz hzs h0 hb0 ha hb hbM rfl hy hq (by simp) (by rw[Nat.zero_add];exact hby);rw[Nat.zero_add,List.nil_append] at this;exact this
 · cases h
theorem e_apmM{t u e e' ty:TypeId}{i:TypeInfo}{zv:Value}{d γ n m:Nat}{cs ys:List AV}{σ':Sig}{q:Prop}(hI:Inv G σ w)(hγ:G.m d γ=none)(ht:P.underlying t=some (.slice e))(hu:P.underlying u=some (.slice e'))(hi:P.info? e=some i)(hz:i.zero=some zv)(hzs:zv.cells.size=i.size)(h0:0<i.size)(hb0:0<i.bytes)(ha:Rel G a va)(hb:Rel G b vb)(h:baseM i.size σ a=some (p,n,cs,σ'))(hp:p)(hy:rowsM i.size σ b=some (q,m,ys))(hq:q)(hbytes:(n+m)*i.bytes≤140737488355328):
  ∃v' w' G',(Builtin.append_ #[t,u] ty #[va,vb]).run P w= .ok v' w'∧Rel G' (.msl d γ (n+m) i.size) v'∧StepOK G σ w G' (newS σ' d γ (cs++ys)) w':=by
 unfold rowsM at hy;split at hy
 · rename_i j g n' sz';split at hy
   · rename_i g' c hσ;injection hy with hy;injection hy with h1 h2;injection h2 with h2 h3
     subst h1;subst h2;subst h3;obtain⟨rfl,rfl,_,hcl,hsc,hm0⟩:=hq;obtain⟨B,cap,hv,hc,hm⟩:=hb;rcases hI.res j c (by rw[hσ]) with⟨_,hn⟩ | ⟨b',e0,lim',vals,T,hR⟩ | ⟨b',hO⟩
     · rw[hσ,hm] at hn;cases hn
     rotate_left
     · have hm':=hO.m;rw[hσ,hm] at hm';cases hm'
     rw[hσ] at hR;have:=hR.m;rw[hm] at this;cases this;obtain⟨os,hl,hc'⟩:=CellsAt.list (G:=G) (w:=w) (b:=B) (o:=0) (l:=c) fun k x hk=>by obtain⟨v,h1,h2⟩:=hR.rel k x hk;refine⟨v,?_,h2⟩;simp only[World.cell?,hR.obj];simpa using h1
     have hol:os.length=n'*i.size:=by rw[hl.length,hcl]
     refine e_apmC hI hγ ht hu hi hz hzs h0 hb0 ha h hp hol hl ?_ (by rw[hv];rfl) (fun w' hw=>?_) hm0 hbytes
     · intro v hv';obtain⟨k,hk⟩:=List.getElem?_of_mem hv';have hkl:=(List.getElem?_eq_some_iff.1 hk).1;have hlen:=hl.length;obtain⟨u,hu,hru⟩:=hl.get k _ (List.getElem?_eq_getElem (show k<c.length by omega));rw[hk] at hu;cases hu;exact scal_one hru (by rw[List.all_eq_true] at hsc;exact hsc _ (List.getElem_mem _))
     · rw[hv];refine run_firstCells_some (P:=P) w' _ _ _ _ _ os hol fun k v hk=>?_;rw[Addr.add_lit];have:=hc' k v hk
       simpa[World.cell?,hw] using this
   · cases hy
 · cases hy
end
end Go.Abs
namespace Go.Abs
section
variable {P:Program} {G:GS} {w:World} {σ:Sig} {a b c v:AV} {p:Prop} {va vb vc:Value}
theorem src_ok{sz m k:Nat}{src:List AV}{q:Prop}(hI:Inv G σ w)(hb:Rel G b vb)(h:srcO sz σ b=some (q,m,src))(hq:q)(hk:k≤m)(hsc:(src.take (k*sz)).all AV.scal=true):
  ∃vs:List Value,vs.length=k*sz∧RelL G (src.take (k*sz)) vs∧(∀v∈vs,v.oneCell'=true)∧(Builtin.lenOf vb).run P w= .ok m w∧(Builtin.firstCells sz k vb).run P w= .ok vs.toArray w:=by
 have one:∀{vs:List Value},RelL G (src.take (k*sz)) vs→ ∀v∈vs,v.oneCell'=true:=by intro vs hr v hv;obtain⟨j,hj⟩:=List.getElem?_of_mem hv;have hjl:=(List.getElem?_eq_some_iff.1 hj).1;have hl:=hr.len;obtain⟨u,hu,hru⟩:=hr.get j _ (List.getElem?_eq_getElem (by omega));rw[hj] at hu;cases hu;exact scal_one hru (by rw[List.all_eq_true] at hsc;exact hsc _ (List.getElem_mem _))
 have some_ok:∀{B o n cap:Nat},vb= .slice (some ⟨B,o,none⟩) n cap→n=m→k*sz≤src.length→CellsAt G w B o (src.take (k*sz))→
   ∃vs:List Value,vs.length=k*sz∧RelL G (src.take (k*sz)) vs∧(∀v∈vs,v.oneCell'=true)∧(Builtin.lenOf vb).run P w= .ok m w∧(Builtin.firstCells sz k vb).run P w= .ok vs.toArray w:=by
  intro B o n cap hv hn hl hc;subst hv;subst hn;obtain⟨vs,h1,h2⟩:=hc.list;have hlen:vs.length=k*sz:=by rw[h1.len,List.length_take];omega
  exact⟨vs,hlen,h1,one h1,rfl,run_firstCells_some (P:=P) w _ _ _ _ _ vs hlen fun j v hj=>by rw[Addr.add_lit];exact h2 j v hj⟩
 have nil_ok:∀{n cap:Nat} {x:Option Addr},vb= .slice x n cap→n=m→k=0→
   ∃vs:List Value,vs.length=k*sz∧RelL G (src.take (k*sz)) vs∧(∀v∈vs,v.oneCell'=true)∧(Builtin.lenOf vb).run P w= .ok m w∧(Builtin.firstCells sz k vb).run P w= .ok vs.toArray w:=by
  intro n cap x hv hn h0;subst hv;subst hn;subst h0;refine⟨[],by simp,by simp[RelL],by simp,rfl,?_⟩;cases x with
  | none=>rfl
  | some x=>exact run_firstCells_some (P:=P) w _ _ _ _ _ [] (by simp) fun j v hj=>by simp at hj
 unfold srcO at h;split at h
 · simp only[Option.some.injEq,Prod.mk.injEq] at h;obtain⟨rfl,rfl,rfl⟩:=h;have hb:vb= .slice none 0 0:=hb;exact nil_ok hb rfl (by omega)
 · rename_i sz' es tg;simp only[Option.some.injEq,Prod.mk.injEq] at h;obtain⟨rfl,rfl,rfl⟩:=h;subst hq;rcases hb with⟨hv,rfl⟩ | ⟨B,o,cap,hv,hc,hr,_⟩
   · rcases hv with hv | ⟨_,_,hv,_⟩
     · exact nil_ok hv rfl (by simpa using hk)
     · exact nil_ok hv rfl (by simpa using hk)
   · refine some_ok hv rfl ?_ fun j a hj=>?_
     · rw[flat_length _ hr.len];exact Nat.mul_le_mul_right _ hk
     · rw[List.getElem?_take] at hj;split at hj
       · obtain⟨v,hv,h0,hrv⟩:=hr.flatp j a hj;exact⟨v,hI.kok.cell _ _ _ hv h0,hrv.mono G.pure_le⟩
       · cases hj
 · rename_i i g n sz';split at h
   · rename_i g' cc hσ;simp only[Option.some.injEq,Prod.mk.injEq] at h;obtain⟨rfl,rfl,rfl⟩:=h;obtain⟨rfl,rfl,hl⟩:=hq;obtain⟨B,cap,hv,hc,hm⟩:=hb;rcases hI.res i cc (by rw[hσ]) with⟨_,hn⟩ | ⟨b',e0,lim',vals,T,hR⟩ | ⟨b',hO⟩
     · rw[hσ,hm] at hn;cases hn
     · rw[hσ] at hR;have:=hR.m;rw[hm] at this;cases this;have hkn:k*sz'≤n*sz':=Nat.mul_le_mul_right _ hk;refine some_ok hv rfl (by omega) fun j a hj=>?_;rw[List.getElem?_take] at hj;split at hj
       · obtain⟨v,h1,h2⟩:=hR.rel j a hj;exact⟨v,by simp[World.cell?,hR.obj];simpa using h1,h2⟩
       · cases hj
     · have hm':=hO.m;rw[hσ,hm] at hm';cases hm'
   · cases h
 · rename_i i g off n sz';split at h
   · rename_i g' cc hσ;simp only[Option.some.injEq,Prod.mk.injEq] at h;obtain⟨rfl,rfl,rfl⟩:=h;obtain⟨rfl,rfl,hl⟩:=hq;obtain⟨B,o,cap,lim,hv,hc,hm,ho⟩:=hb;rcases ho with rfl | rfl
     · exact nil_ok hv rfl (by omega)
     rcases hI.res i cc (by rw[hσ]) with⟨_,hn⟩ | ⟨b',e0,lim',vals,T,hR⟩ | ⟨b',hO⟩
     · rw[hσ,hm] at hn;cases hn
     · rw[hσ] at hR;have:=hR.m;rw[hm] at this;cases this;have hkn:k*sz'≤n*sz':=Nat.mul_le_mul_right _ hk;refine some_ok hv rfl (by rw[List.length_drop];omega) fun j a hj=>?_;rw[List.getElem?_take] at hj;split at hj
       · rw[List.getElem?_drop] at hj;obtain⟨v,h1,h2⟩:=hR.rel _ a hj;exact⟨v,by simp[World.cell?,hR.obj];simpa using h1,h2⟩
       · cases hj
     · have hm':=hO.m;rw[hσ,hm] at hm';cases hm'
   · cases h
 · cases h
theorem e_cpy{t u e ty:TypeId}{sz:Nat}{σ':Sig}(hI:Inv G σ w)(ht:P.underlying t=some (.slice e))(hs:szOf P e=some sz)(ha:Rel G a va)(hb:Rel G b vb)(h:cpyO sz σ a b=some (p,v,σ'))(hp:p):
  ∃v' w',(Builtin.copy_ #[t,u] ty #[va,vb]).run P w= .ok v' w'∧Rel G v v'∧StepOK G σ w G σ' w':=by
 unfold cpyO at h;split at h
 case h_2=>cases h
 rename_i i g off n sz' hd;split at h
 case h_2=>cases h
 rename_i g' c hσ;split at h
 case h_2=>cases h
 rename_i q m src hsrc;simp only[Option.some.injEq,Prod.mk.injEq] at h;obtain⟨rfl,rfl,rfl⟩:=h;obtain⟨hq,rfl,rfl,hfit,hsc⟩:=hp;obtain⟨vs,hvl,hvr,hvo,hlen,hfirst⟩:=src_ok (P:=P) hI hb hsrc hq (Nat.min_le_left m n) hsc;obtain⟨B,o,cap,lim,hv,hm,ho⟩:∃B o cap lim,va= .slice (some ⟨B,o,none⟩) n cap∧G.m i g=some (B,0,lim)∧(n=0∨o=off):=by
  unfold dstV at hd;split at hd
  · cases hd;obtain⟨B,cap,hv,_,hm⟩:=ha;exact⟨B,0,cap,_,hv,hm,.inr rfl⟩
  · cases hd;obtain⟨B,o,cap,lim,hv,_,hm,ho⟩:=ha;exact⟨B,o,cap,lim,hv,hm,ho⟩
  · cases hd
 rcases hI.res i c (by rw[hσ]) with⟨_,hn⟩ | ⟨b',e0,lim',vals,T,hR⟩ | ⟨b',hO⟩
 · rw[hσ,hm] at hn;cases hn
 rotate_left
 · have hm':=hO.m;rw[hσ,hm] at hm';cases hm'
 rw[hσ] at hR;have:=hR.m;rw[hm] at this;cases this;have hrun:∀(w':World),(storeCells ⟨B,o,none⟩ vs).run P w= .ok () w'→(Builtin.copy_ #[t,u] ty #[va,vb]).run P w= .ok (goInt ((Nat.min m n:Nat):Int)) w':=by intro w' hst;subst hv;have hf:(Builtin.firstCells sz' (Nat.min m n) vb).run P w= .ok vs.toArray w:=hfirst;simp[Builtin.copy_,run_underlying ht,hlen,run_szOf hs,hf,hst]
 by_cases h0:vs=[]
 · subst h0;have hz:min m n*sz'=0:=by simpa using hvl.symm
   have hup:upd σ i (g,.row (setL c off (src.take (min m n*sz'))))=σ:=by
    rw[hz,List.take_zero]
    funext j;rw[upd_eq];split
    · rename_i hj;subst hj;rw[hσ];rfl
    · rfl
   rw[hup];exact⟨_,w,hrun w rfl,rfl,.refl hI⟩
 · have hn0:n≠0:=by rintro rfl;simp at hvl;exact h0 hvl
   obtain rfl:o=off:=ho.resolve_left hn0;have hkn:min m n*sz'≤n*sz':=Nat.mul_le_mul_right _ (Nat.min_le_right m n);have hRf:=hR.fit;have hRl:=hR.lim;have hfit':o+0+vs.length≤vals.size:=by omega
   have hst:=run_storeCells_at P B o T vs 0 vals w hR.obj hfit' hvo;simp only[Nat.add_zero] at hst;rw[over_eq _ _ _ (by simpa using hfit')] at hst;have hl2:=hvr.len;refine⟨_,_,hrun _ hst,rfl,write_ok hI hσ hR (vals':=(setL vals.toList o vs).toArray) (by simp[length_setL]) (fun o ho=>by omega) (by rw[length_setL];exact hR.fit) fun j x hj=>?_⟩;rw[setL_get _ _ _ _ (by omega)] at hj;rw[Nat.zero_add,List.getElem?_toArray,setL_get _ _ _ _ (by simp at hfit' ⊢;omega)];rw[←hl2] at hj;by_cases hc:o≤j∧j<o+vs.length
   · rw[if_pos hc] at hj ⊢;exact hvr.get _ _ hj
   · rw[if_neg hc] at hj ⊢;have:=hR.rel j x hj
     simpa using this
end
end Go.Abs
namespace Go.Abs
section
variable {P:Program} {G:GS} {w:World} {a b:AV} {va vb:Value}
theorem beq_dec(m n:Int):(m == n)=decide (m=n):=by by_cases h:m=n<;>simp[h]
theorem arrN_succ{d:Nat}{t:TypeId}{m:Nat}(h:arrN P (d+1) t=some m):(∃q,P.underlying t=some (.int q)∧m=1)∨ ∃n e k,P.underlying t=some (.array n e)∧arrN P d e=some k∧P.cellsOf e=k∧m=n*k:=by
 simp only[arrN] at h;split at h
 · cases h;exact .inl ⟨_,by assumption,rfl⟩
 · rename_i n e hu;split at h
   · rename_i k hk;split at h
     · rename_i hb;cases h;exact .inr ⟨n,e,k,hu,hk,Nat.eq_of_beq_eq_true hb,rfl⟩
     · cases h
   · cases h
 · cases h
def valN(P:Program)(t:TypeId)(l:List Value):Value:=match P.underlying t with
 | some (.array _ _)=> .agg l.toArray
 | _=>l.getD 0 undef
theorem eqAg_nums{m:Nat}:∀{xs ys:List AV} {us vs:List Value} {r:Bool},eqAg (List.replicate m .i) xs ys=some r→RelL G xs us→RelL G ys vs→us.length=m∧vs.length=m∧(∀v∈us,∃k n,v= .int k n)∧(∀v∈vs,∃k n,v= .int k n):=by
 induction m with
 | zero=> intro xs ys us vs r h h1 h2;cases xs<;>cases ys<;>simp only[List.replicate,eqAg] at h<;>cases h;simp only[RelL] at h1 h2;subst h1;subst h2;simp
 | succ m ih=>
   intro xs ys us vs r h h1 h2;rw[List.replicate_succ] at h;obtain⟨k,a,b,xs',ys',r2,rfl,rfl,e3,rfl⟩:=eqAg_i h;obtain⟨u,us',rfl,hu,hus⟩:=h1;obtain⟨v,vs',rfl,hv,hvs⟩:=h2;simp only[Rel] at hu hv;subst hu;subst hv;obtain⟨i1,i2,i3,i4⟩:=ih e3 hus hvs;refine⟨by simp[i1],by simp[i2],fun x hx=>?_,fun x hx=>?_⟩
   · rcases List.mem_cons.1 hx with rfl | hx
     · exact⟨_,_,rfl⟩
     · exact i3 x hx
   · rcases List.mem_cons.1 hx with rfl | hx
     · exact⟨_,_,rfl⟩
     · exact i4 x hx
theorem eqAg_split{m:Nat}:∀{k:Nat} {xs ys:List AV} {r:Bool},eqAg (List.replicate (k+m) .i) xs ys=some r→ ∃r1 r2,eqAg (List.replicate k .i) (xs.take k) (ys.take k)=some r1∧eqAg (List.replicate m .i) (xs.drop k) (ys.drop k)=some r2∧r=(r1 && r2)
 | 0,xs,ys,r,h=>⟨true,r,rfl,by simpa using h,by simp⟩
 | k+1,xs,ys,r,h=>by rw[show k+1+m=(k+m)+1 by omega,List.replicate_succ] at h;obtain⟨q,a,b,xs',ys',r2,rfl,rfl,e3,rfl⟩:=eqAg_i h;obtain⟨r1,r3,h1,h2,rfl⟩:=eqAg_split e3;refine⟨decide (a=b) && r1,r3,?_,by simpa using h2,by rw[Bool.and_assoc]⟩;simp only[List.replicate_succ,List.take_succ_cons,eqAg];rw[show Nat.beq (kix q) (kix q)=true by simp,h1]
theorem RelL.take:∀{l:List AV} {vs:List Value} (_:RelL G l vs) (k:Nat),RelL G (l.take k) (vs.take k)
 | _,_,_,0=>by simp[RelL]
 | [],vs,h,k+1=>by simp only[RelL] at h;subst h;simp[RelL]
 | a::l,_,⟨v,r,rfl,h1,h2⟩,k+1=>⟨v,_,rfl,h1,RelL.take h2 k⟩
theorem RelL.drop:∀{l:List AV} {vs:List Value} (_:RelL G l vs) (k:Nat),RelL G (l.drop k) (vs.drop k)
 | _,_,h,0=>by simpa using h
 | [],vs,h,k+1=>by simp only[RelL] at h;subst h;simp[RelL]
 | a::l,_,⟨v,r,rfl,h1,h2⟩,k+1=>by simpa using RelL.drop h2 k
theorem valN_part{d:Nat}{t:TypeId}{k off:Nat}{cs:Array Value}(h:arrN P d t=some k)(hc:P.cellsOf t=k)(hl:off+k≤cs.size):(part t cs off).run P w= .ok (valN P t ((cs.toList.drop off).take k)) w:=by
 cases d with
 | zero=>simp[arrN] at h
 | succ d=>
   rcases arrN_succ h with⟨q,hu,rfl⟩ | ⟨n,e,k',hu,_,_,rfl⟩
   · have hlt:off<cs.size:=by omega
     have:cs[off]?=some cs[off]:=Array.getElem?_eq_getElem hlt;simp[part,isAgg,run_underlying hu,this,valN,hu,List.head?_drop]
   · obtain⟨i,hi⟩:=info_of_underlying hu;have e1:(cs.extract off (off+n*k'))=((cs.toList.drop off).take (n*k')).toArray:=by apply Array.ext';rw[Array.toList_extract];simp[List.extract]
     simp[part,isAgg,run_underlying hu,run_sizeOf w hi,valN,hu,hc,e1]
theorem equal_nums:∀{d:Nat} {t:TypeId} {m:Nat} {xs ys:List AV} {us vs:List Value} {r:Bool} (D:Nat),arrN P d t=some m→RelL G xs us→RelL G ys vs→eqAg (List.replicate m .i) xs ys=some r→(Op.equalIn (D+d) t (valN P t us) (valN P t vs)).run P w= .ok r w
 | 0,t,m,xs,ys,us,vs,r,D,h,_,_,_=>by simp[arrN] at h
 | d+1,t,m,xs,ys,us,vs,r,D,h,h1,h2,h3=>by
   rcases arrN_succ h with⟨q,hu,rfl⟩ | ⟨n,e,k,hu,hk,hck,rfl⟩
   · obtain⟨k,a,b,xs',ys',r2,rfl,rfl,e3,rfl⟩:=eqAg_i h3;obtain⟨u,us',rfl,hu1,hus⟩:=h1;obtain⟨v,vs',rfl,hv1,hvs⟩:=h2;simp only[Rel] at hu1 hv1;subst hu1;subst hv1;cases xs'<;>cases ys'<;>simp only[List.replicate,eqAg] at e3<;>cases e3;simp only[valN,hu,List.getD_cons_zero];rw[←Nat.add_assoc,run_equalIn_int w (D+d) t k q a b hu,show (a == b)=decide (a=b) from beq_dec a b];simp
   · obtain⟨i,hi⟩:∃i,P.info? e=some i:=by
      cases d with
      | zero=>simp[arrN] at hk
      | succ d=> rcases arrN_succ hk with⟨q,hu,_⟩ | ⟨_,_,_,hu,_⟩<;>exact info_of_underlying hu
     obtain⟨l1,l2,_,_⟩:=eqAg_nums h3 h1 h2;simp only[valN,hu];rw[←Nat.add_assoc,run_equalIn_array w (D+d) us.toArray vs.toArray hu hi,hck,List.range_eq_range'];have key:∀(c s:Nat) (r:Bool),s+c=n→eqAg (List.replicate (c*k) .i) (xs.drop (s*k)) (ys.drop (s*k))=some r→(Op.eqItems (D+d) e k us.toArray vs.toArray (List.range' s c)).run P w= .ok r w:=by
      intro c;induction c with
      | zero=> intro s r hs hr;rw[Nat.zero_mul] at hr;generalize xs.drop (s*k)=X at hr;generalize ys.drop (s*k)=Y at hr;cases X<;>cases Y<;>simp only[List.replicate,eqAg] at hr<;>cases hr;simp[Op.eqItems]
      | succ c ih=>
        intro s r hs hr;rw[show (c+1)*k=k+c*k by rw[Nat.add_mul];omega] at hr;obtain⟨r1,r2,q1,q2,rfl⟩:=eqAg_split hr;rw[List.drop_drop,List.drop_drop,show s*k+k=(s+1)*k by rw[Nat.add_mul];omega] at q2;have hfit:s*k+k≤n*k:=by rw[show s*k+k=(s+1)*k by rw[Nat.add_mul];omega];exact Nat.mul_le_mul_right _ (by omega)
        have p1:=valN_part (w:=w) (cs:=us.toArray) (off:=s*k) hk hck (by simp;omega);have p2:=valN_part (w:=w) (cs:=vs.toArray) (off:=s*k) hk hck (by simp;omega);have p3:=equal_nums D hk ((h1.drop (s*k)).take k) ((h2.drop (s*k)).take k) q1;have p4:=ih (s+1) r2 (by omega) q2;rw[List.range'_succ];simp only[Op.eqItems,Sem.run_bind,p1,p2,Result.andThen_ok,p3];cases r1
        · simp
        · simpa using p4
     exact key n 0 r (by omega) (by simpa using h3)
theorem check_nums(em:Bool):∀{d:Nat} {t:TypeId} {m:Nat} {us:List Value} (D:Nat),arrN P d t=some m→us.length=m→(∀v∈us,∃k n,v= .int k n)→(Instr.checkKey em (D+d) t (valN P t us)).run P w= .ok () w
 | 0,t,m,us,D,h,_,_=>by simp[arrN] at h
 | d+1,t,m,us,D,h,hl,hi0=>by
   rcases arrN_succ h with⟨q,hu,rfl⟩ | ⟨n,e,k,hu,hk,hck,rfl⟩
   · cases us with
     | nil=>simp at hl
     | cons u us=> obtain⟨k,n,rfl⟩:=hi0 u (by simp);simp only[valN,hu,List.getD_cons_zero];rw[←Nat.add_assoc,Instr.checkKey,Sem.run_bind,run_underlying hu,Result.andThen_ok];rfl
   · obtain⟨i,hi⟩:∃i,P.info? e=some i:=by
      cases d with
      | zero=>simp[arrN] at hk
      | succ d=> rcases arrN_succ hk with⟨q,hu,_⟩ | ⟨_,_,_,hu,_⟩<;>exact info_of_underlying hu
     simp only[valN,hu];rw[←Nat.add_assoc,Instr.checkKey];simp only[Sem.run_bind,run_underlying hu,Result.andThen_ok];simp only[Std.Legacy.Range.forIn_eq_forIn_range',Std.Legacy.Range.size,Nat.sub_zero,Nat.add_one_sub_one,Nat.div_one];have key:∀(c s:Nat),s+c=n→(forIn (List.range' s c) PUnit.unit (fun i r=>do Instr.checkKey em (D+d) e (←part e us.toArray (i*(←sizeOf e)));pure (ForInStep.yield PUnit.unit):Nat→PUnit→Sem (ForInStep PUnit))).run P w= .ok PUnit.unit w:=by
      intro c;induction c with
      | zero=>intro s hs;simp
      | succ c ih=>
        intro s hs;have hfit:s*k+k≤n*k:=by rw[show s*k+k=(s+1)*k by rw[Nat.add_mul];omega];exact Nat.mul_le_mul_right _ (by omega)
        have p1:=valN_part (w:=w) (cs:=us.toArray) (off:=s*k) hk hck (by simp;omega);have p2:=check_nums em (us:=(us.drop (s*k)).take k) D hk (by rw[List.length_take,List.length_drop];omega) fun v hv=>hi0 v (List.mem_of_mem_drop (List.mem_of_mem_take hv));rw[List.range'_succ];simp only[List.forIn_cons,Sem.run_bind,run_sizeOf w hi,Result.andThen_ok,hck,p1,p2,Sem.run_pure];exact ih (s+1) (by omega)
     rw[key n 0 (by omega)];rfl
theorem bits_nums:∀{us:List Value},(∀v∈us,∃k n,v= .int k n)→Instr.sameBits 10000 (.agg us.toArray) (.agg us.toArray)=true:=by
 intro us h;show Instr.sameBits (9999+1) _ _=true
 simp only[Instr.sameBits,beq_self_eq_true,Bool.true_and,List.all_eq_true];intro p hp;obtain⟨i,hi,e⟩:=List.getElem_of_mem hp;rw[List.getElem_zip] at e;rw[←e];obtain⟨k,n,hv⟩:=h _ (List.getElem_mem (l:=us) (by simpa using hi));simp only;rw[hv];simp[Instr.sameBits]
theorem keyEq_flat{ks:List FK}{r:Bool}(h:keyEq (.flat ks) a b=some r):∃xs ys,a= .agg xs∧b= .agg ys∧eqAg ks xs ys=some r:=by cases a<;>cases b<;>simp only[keyEq] at h<;>first | exact⟨_,_,rfl,rfl,h⟩ | cases h
theorem same_nums{m:Nat}{xs ys:List AV}{us vs:List Value}:∀{r:Bool},eqAg (List.replicate m .i) xs ys=some r→RelL G xs us→RelL G ys vs→r=true→us=vs:=by
 induction m generalizing xs ys us vs with
 | zero=> intro r h h1 h2 _;cases xs<;>cases ys<;>simp only[List.replicate,eqAg] at h<;>cases h;simp only[RelL] at h1 h2;subst h1;subst h2;rfl
 | succ m ih=> intro r h h1 h2 hr;rw[List.replicate_succ] at h;obtain⟨k,a,b,xs',ys',r2,rfl,rfl,e3,rfl⟩:=eqAg_i h;obtain⟨u,us',rfl,hu,hus⟩:=h1;obtain⟨v,vs',rfl,hv,hvs⟩:=h2;simp only[Rel] at hu hv;subst hu;subst hv;rw[Bool.and_eq_true] at hr;rw[of_decide_eq_true hr.1,ih e3 hus hvs hr.2]
theorem findA_nil{kk:KK}{n:Nat}{o:Option Nat}(h:findA kk a [] n=some o):o=none:=by
 cases kk with
 | i=>simp only[findA] at h;cases h;rfl
 | s=>simp only[findA] at h;cases h;rfl
 | flat ks=> simp only[findA] at h;split at h<;>cases h;rfl
theorem findA_shape{m:Nat}(ha:Rel G a va):∀{aks:List AV} {ks:List Value} {q:Nat} {r:Option Nat},RelL G aks ks→findA (.flat (List.replicate m .i)) a aks q=some r→ ∃us:Array Value,va= .agg us∧us.toList.length=m∧ ∀v∈us.toList,∃k n,v= .int k n
 | [],ks,q,r,hr,h=>by
   simp only[findA] at h;split at h
   · rename_i r0 hke;obtain⟨xs,ys,e1,e2,hag⟩:=keyEq_flat hke;subst e1;cases e2;obtain⟨us,rfl,hus⟩:=ha;obtain⟨i1,_,i3,_⟩:=eqAg_nums hag hus hus;exact⟨us,rfl,i1,i3⟩
   · cases h
 | x::aks,_,q,r,⟨k,ks,rfl,hx,hr⟩,h=>by
   simp only[findA] at h;split at h
   · rename_i hke;obtain⟨xs,ys,rfl,rfl,hag⟩:=keyEq_flat hke;obtain⟨us,rfl,hus⟩:=ha;obtain⟨ws,rfl,hws⟩:=hx;obtain⟨i1,_,i3,_⟩:=eqAg_nums hag hus hws;exact⟨us,rfl,i1,i3⟩
   · exact findA_shape ha hr h
   · cases h
theorem find_nums{t:TypeId}{n e m:Nat}(hu:P.underlying t=some (.array n e))(hk:arrN P 4 t=some m){a:AV}{va:Value}(ha:Rel G a va):∀{aks:List AV} {ks vs:List Value} {p q:Nat} {r:Option Nat},ks.length=vs.length→RelL G aks ks→findA (.flat (List.replicate m .i)) a aks q=some r→
  (Instr.findAsking t va (entsV p ks vs) q).run P w= .ok (r.map fun j=>(j,vs.getD (j-q) undef)) w∧ ∀j,r=some j→q≤j∧j-q<ks.length∧ks.getD (j-q) undef=va∧Instr.sameBits 10000 va va=true
 | [],ks,vs,p,q,r,hl,hr,h=>by simp only[RelL] at hr;subst hr;have hn:=findA_nil h;subst hn;refine⟨by simp[entsV,Instr.findAsking],fun j hj=>by cases hj⟩
 | x::aks,ks',vs,p,q,r,hl,hr0,h=>by
   obtain⟨k,ks,rfl,hx,hr⟩:=hr0;cases vs with
   | nil=>simp at hl
   | cons v vs=>
     simp only[findA] at h;simp only[entsV,Instr.findAsking];have find_nums_rec:=fun {p q r} (hl:ks.length=vs.length) (hr:RelL G aks ks) h=>find_nums hu hk ha (aks:=aks) (ks:=ks) (vs:=vs) (p:=p) (q:=q) (r:=r) hl hr h;cases hke:keyEq (.flat (List.replicate m .i)) a x with
     | none=>rw[hke] at h;cases h
     | some r0=>
       obtain⟨xs,ys,rfl,rfl,hag⟩:=keyEq_flat hke;obtain⟨us,rfl,hus⟩:=ha;obtain⟨ws,rfl,hws⟩:=hx;have heq:(Op.equal t (.agg us) (.agg ws)).run P w= .ok r0 w:=by have:=equal_nums (w:=w) (P:=P) (d:=4) 9996 hk hus hws hag;simp only[valN,hu] at this;exact this
       rw[hke] at h;simp only[Sem.run_bind,heq,Result.andThen_ok];cases r0 with
       | true=> cases h;refine⟨by simp,fun j hj=>?_⟩;cases hj;obtain⟨_,_,i3,_⟩:=eqAg_nums hag hus hws;have e1:us=ws:=Array.ext' (same_nums hag hus hws rfl);exact⟨Nat.le_refl _,by simp,by simp[e1],bits_nums (us:=us.toList) i3⟩
       | false=>
         obtain⟨k1,k2⟩:=find_nums_rec (p:=p+1) (by simpa using hl) hr h;refine⟨?_,fun j hj=>?_⟩
         · simp only[Bool.false_eq_true,if_false];rw[k1];cases r with
           | none=>rfl
           | some j=> obtain⟨k3,_⟩:=k2 j rfl;simp only[Option.map_some];rw[show j-q=(j-(q+1))+1 by omega];rfl
         · obtain⟨k3,k4,k5⟩:=k2 j hj;rw[show j-q=(j-(q+1))+1 by omega];exact⟨by omega,by simpa using k4,by simpa using k5⟩
theorem findKey_array{t:TypeId}{n e:Nat}(hu:P.underlying t=some (.array n e))(es:List MapEntry):(Instr.findKey t va es).run P w=(Instr.findAsking t va es).run P w:=by
 cases es with
 | nil=>simp[Instr.findKey,run_underlying hu,Instr.findNow,Instr.findAsking]
 | cons e es=>simp[Instr.findKey,run_underlying hu,Instr.findNow,Instr.sameNow]
end
end Go.Abs
namespace Go.Abs
section
variable {P:Program} {G:GS} {w:World} {σ:Sig} {a b c v:AV} {p:Prop} {va vb vc:Value}
theorem entsV_len:∀{ks vs:List Value} {n:Nat},ks.length=vs.length→(entsV n ks vs).length=ks.length
 | [],[],_,_=>rfl
 | [],_::_,_,h=>by simp at h
 | _::_,[],_,h=>by simp at h
 | k::ks,v::vs,n,h=>by simp only[entsV,List.length_cons];rw[entsV_len (by simpa using h)]
theorem entsV_get:∀{ks vs:List Value} {n j:Nat},ks.length=vs.length→j<ks.length→(entsV n ks vs)[j]?=some {key:=ks.getD j undef,val:=vs.getD j undef,born:=n+j }
 | [],_,_,_,_,h=>by simp at h
 | _::_,[],_,_,h,_=>by simp at h
 | k::ks,v::vs,n,0,_,_=>by simp[entsV]
 | k::ks,v::vs,n,j+1,h,hj=>by simp only[entsV,List.getElem?_cons_succ,List.getD_cons_succ];rw[entsV_get (by simpa using h) (by simpa using hj)];congr 2;omega
theorem entsV_snoc{k v:Value}:∀{ks vs:List Value} {n:Nat},ks.length=vs.length→entsV n (ks++[k]) (vs++[v])=entsV n ks vs++[{key:=k,val:=v,born:=n+ks.length }]
 | [],[],_,_=>by simp[entsV]
 | [],_::_,_,h=>by simp at h
 | _::_,[],_,h=>by simp at h
 | k'::ks,v'::vs,n,h=>by simp only[List.cons_append,entsV];rw[entsV_snoc (by simpa using h)];simp only[List.length_cons];congr 4;omega
theorem entsV_set{v:Value}:∀{ks vs:List Value} {n j:Nat},ks.length=vs.length→j<ks.length→entsV n ks (vs.set j v)=(entsV n ks vs).modify j fun e=>{e with val:=v }
 | [],_,_,_,_,h=>by simp at h
 | _::_,[],_,_,h,_=>by simp at h
 | k::ks,v'::vs,n,0,_,_=>by simp[entsV]
 | k::ks,v'::vs,n,j+1,h,hj=>by simp only[entsV,List.set_cons_succ,List.modify_succ_cons];rw[entsV_set (by simpa using h) (by simpa using hj)]
theorem keyKind_i{t:TypeId}(h:keyKind P t=some .i):∃q,P.underlying t=some (.int q):=by
 unfold keyKind at h;split at h
 · exact⟨_,by assumption⟩
 · cases h
 · obtain⟨m,_,h⟩:=Option.map_eq_some_iff.1 h;cases h
 · cases h
theorem keyKind_s{t:TypeId}(h:keyKind P t=some .s):P.underlying t=some .string:=by
 unfold keyKind at h;split at h
 · cases h
 · assumption
 · obtain⟨m,_,h⟩:=Option.map_eq_some_iff.1 h;cases h
 · cases h
theorem keyKind_f{t:TypeId}{l:List FK}(h:keyKind P t=some (.flat l)):∃n e m,P.underlying t=some (.array n e)∧arrN P 4 t=some m∧l=List.replicate m .i:=by
 unfold keyKind at h;split at h
 · cases h
 · cases h
 · rename_i n e hu;obtain⟨m,hm,h⟩:=Option.map_eq_some_iff.1 h;cases h;exact⟨n,e,m,hu,hm,rfl⟩
 · cases h
theorem keyKind_desc{t:TypeId}{kk:KK}(h:keyKind P t=some kk)(hn:∀l,kk≠ .flat l):∃d,P.underlying t=some d∧((kk= .i∧ ∃q,d= .int q)∨(kk= .s∧d= .string)):=by
 cases kk with
 | i=>obtain⟨q,hq⟩:=keyKind_i h;exact⟨_,hq,.inl ⟨rfl,q,rfl⟩⟩
 | s=>exact⟨_,keyKind_s h,.inr ⟨rfl,rfl⟩⟩
 | flat l=>exact absurd rfl (hn l)
theorem bytes_beq(m n:ByteArray):(m == n)=decide (m=n):=by
 cases m with | mk a=>
 cases n with | mk b=>
 have:((ByteArray.mk a == ByteArray.mk b)=(a == b)):=rfl;rw[this];by_cases h:a=b
 · subst h;simp
 · simp[h]
theorem same_now{kk:KK}{d:TypeDesc}(hd:(kk= .i∧ ∃q,d= .int q)∨(kk= .s∧d= .string)){r:Bool}(ha:Rel G a va)(hb:Rel G b vb)(h:keyEq kk a b=some r):
  Instr.sameNow d va vb=some r∧(r=true→va=vb)∧Instr.sameBits 10000 va va=true:=by
 rcases hd with⟨rfl,q,rfl⟩ | ⟨rfl,rfl⟩
 · unfold keyEq at h;split at h<;>rename_i h0<;>try (cases h0;done)
   · split at h
     · rename_i k m k' n hk;cases h;have:=kix_eq hk;subst this;simp only[Rel] at ha hb;subst ha;subst hb;refine⟨by simp only[Instr.sameNow,if_true];rw[beq_dec],fun h=>?_,by simp[Instr.sameBits]⟩;rw[of_decide_eq_true h]
     · cases h
   · cases h
 · unfold keyEq at h;split at h<;>rename_i h0<;>try (cases h0;done)
   · cases h;simp only[Rel] at ha hb;subst ha;subst hb;rename_i m n;refine⟨by simp only[Instr.sameNow];rw[bytes_beq],fun h=>?_,by simp only[Instr.sameBits];rw[bytes_beq];simp⟩;rw[of_decide_eq_true h]
   · cases h
theorem find_now{kk:KK}{d:TypeDesc}(hd:(kk= .i∧ ∃q,d= .int q)∨(kk= .s∧d= .string))(ha:Rel G a va):∀{aks:List AV} {ks vs:List Value} {m n:Nat} {r:Option Nat},ks.length=vs.length→RelL G aks ks→findA kk a aks n=some r→
  Instr.findNow d va (entsV m ks vs) n=some (r.map fun j=>(j,vs.getD (j-n) undef))∧ ∀j,r=some j→n≤j∧j-n<ks.length∧ks.getD (j-n) undef=va∧Instr.sameBits 10000 va va=true
 | [],ks,vs,m,n,r,hl,hr,h=>by simp only[RelL] at hr;subst hr;have hn:=findA_nil h;subst hn;refine⟨by simp[entsV,Instr.findNow],fun j hj=>by cases hj⟩
 | x::aks,ks',vs,m,n,r,hl,hr0,h=>by
   obtain⟨k,ks,rfl,hx,hr⟩:=hr0;cases vs with
   | nil=>simp at hl
   | cons v vs=>
     simp only[findA] at h;simp only[entsV,Instr.findNow];cases hk:keyEq kk a x with
     | none=>rw[hk] at h;cases h
     | some t=>
       obtain⟨h1,h2,h3⟩:=same_now hd ha hx hk;rw[hk] at h;rw[h1];cases t with
       | true=> cases h;refine⟨by simp,fun j hj=>?_⟩;cases hj;exact⟨Nat.le_refl _,by simp,by simpa using (h2 rfl).symm,h3⟩
       | false=>
         obtain⟨k1,k2⟩:=find_now hd ha (m:=m+1) (by simpa using hl) hr h;refine⟨?_,fun j hj=>?_⟩
         · rw[k1];cases r with
           | none=>rfl
           | some j=> obtain⟨k3,_⟩:=k2 j rfl;simp only[Option.map_some];rw[show j-n=(j-(n+1))+1 by omega];rfl
         · obtain⟨k3,k4,k5⟩:=k2 j hj;rw[show j-n=(j-(n+1))+1 by omega];exact⟨by omega,by simpa using k4,by simpa using k5⟩
theorem run_findKey{t:TypeId}{kk:KK}(hk:keyKind P t=some kk)(ha:Rel G a va){aks:List AV}{ks vs:List Value}{r:Option Nat}(hl:ks.length=vs.length)(hr:RelL G aks ks)(h:findA kk a aks 0=some r):
  (Instr.findKey t va (entsV 0 ks vs)).run P w= .ok (r.map fun j=>(j,vs.getD j undef)) w∧ ∀j,r=some j→j<ks.length∧ks.getD j undef=va∧Instr.sameBits 10000 va va=true:=by
 by_cases hfl:∃l,kk= .flat l
 · obtain⟨l,rfl⟩:=hfl;obtain⟨n,e,m,hu,hm,rfl⟩:=keyKind_f hk;obtain⟨h1,h2⟩:=find_nums (w:=w) hu hm ha (p:=0) hl hr h;refine⟨by rw[findKey_array hu];simpa using h1,fun j hj=>?_⟩;obtain⟨_,h3⟩:=h2 j hj
   simpa using h3
 obtain⟨d,hd,hdk⟩:=keyKind_desc hk fun l e=>hfl ⟨l,e⟩;obtain⟨h1,h2⟩:=find_now hdk ha (m:=0) hl hr h;refine⟨?_,fun j hj=>?_⟩
 · unfold Instr.findKey;rw[Sem.run_bind,run_underlying hd,Result.andThen_ok,h1];simp
 · obtain⟨_,h3⟩:=h2 j hj
   simpa using h3
theorem run_checkKey{t:TypeId}{kk:KK}(hk:keyKind P t=some kk)(ha:Rel G a va){aks:List AV}{ks:List Value}{r:Option Nat}(hr:RelL G aks ks)(h:findA kk a aks 0=some r)(e:Bool):(Instr.checkKey e 10000 t va).run P w= .ok () w:=by
 by_cases hfl:∃l,kk= .flat l
 · obtain⟨l,rfl⟩:=hfl;obtain⟨n,el,m,hu,hm,rfl⟩:=keyKind_f hk;obtain⟨us,rfl,h1,h2⟩:=findA_shape ha hr h;have:=check_nums (w:=w) e 9996 hm h1 h2;simp only[valN,hu] at this;exact this
 obtain⟨d,hd,hdk⟩:=keyKind_desc hk fun l e=>hfl ⟨l,e⟩;unfold Instr.checkKey;rw[Sem.run_bind,run_underlying hd,Result.andThen_ok];rcases hdk with⟨_,q,rfl⟩ | ⟨_,rfl⟩<;>rfl
theorem run_stays(h:Instr.sameBits 10000 va va=true):(Instr.keyThatStays va va).run P w= .ok va w:=by unfold Instr.keyThatStays;rw[if_pos h];rfl
theorem run_getM{r:Nat}{ks vs:List Value}(h:w.heap[r]?=some (mapObj ks vs)):(getObj r).run P w= .ok (.map (entsV 0 ks vs).toArray ks.length) w:=by simp[getObj,Sem.run,h,mapObj]
theorem run_setM{r:Nat}{ks vs:List Value}(o':Obj)(h:w.heap[r]?=some (mapObj ks vs)):(setObj r o').run P w= .ok () (w.putObj r o'):=by simp[setObj,Sem.run,h,mapObj,World.putObj]
theorem putObj_ok(hI:Inv G σ w){i g b:Nat}{c c':List AV}{o':Obj}(hσ:σ i=(g,.row c))(hO:ObjOK G w i g c b)(h:ObjRel G c' o'):StepOK G σ w G (upd σ i (g,.row c')) (w.putObj b o'):=by
 have hlive:live σ i:=⟨c,by rw[hσ]⟩;have hmi:G.m i (σ i).1=some (b,1,0):=by rw[hσ];exact hO.m
 have hf:Foot G σ b:=⟨i,_,hlive,hmi⟩;have hne0:∀b',(∃o v,G.K b' o=some v)→b'≠b:=by rintro b' ⟨o,v,hv⟩ rfl;rw[hO.K o] at hv;cases hv
 refine⟨.refl G,⟨hI.kok.keep fun b' _ hb=>World.putObj_heap_other (hne0 b' hb),?_,hI.fresh,?_⟩,⟨rfl,rfl,rfl,by simp,fun k _ hn=>World.putObj_heap_other (fun h=>hn (h▸hf)),fun _ _ _ h=>h,fun _ _ _=>rfl⟩,?_⟩
 · intro j d hj;by_cases hji:j=i
   · subst hji;rw[upd_eq,if_pos rfl] at hj ⊢;cases hj;exact .inr (.inr ⟨b,hO.m,hO.K,o',World.putObj_heap_same hO.lt,h⟩)
   · rw[upd_eq,if_neg hji] at hj ⊢;rcases hI.res j d hj with h2 | ⟨b',e',lim',vs,T',hR'⟩ | ⟨b',hO'⟩
     · exact .inl h2
     · have hne:b'≠b:=by rintro rfl;exact hI.dist j i _ _ _ hji ⟨d,hj⟩ hlive hR'.m hmi
       exact .inr (.inl ⟨b',e',lim',vs,T',⟨hR'.m,by rw[World.putObj_heap_other hne];exact hR'.obj,hR'.fit,hR'.lim,hR'.K,hR'.rel⟩⟩)
     · have hne:b'≠b:=by rintro rfl;exact hI.dist j i _ _ _ hji ⟨d,hj⟩ hlive hO'.m hmi
       exact .inr (.inr ⟨b',hO'.keep (.refl G) rfl (World.putObj_heap_other hne)⟩)
 · intro j k b' x y hjk hj hk hx hy;have key:∀j,live (upd σ i (g,.row c')) j→ ∀b x,G.m j (upd σ i (g,Res.row c') j).1=some (b,x)→live σ j∧G.m j (σ j).1=some (b,x):=by
    intro j hj b x hx;by_cases h:j=i
    · subst h;rw[upd_eq,if_pos rfl] at hx;exact⟨hlive,by rw[hσ];exact hx⟩
    · rw[live_upd h] at hj;rw[upd_eq,if_neg h] at hx;exact⟨hj,hx⟩
   obtain⟨l1,m1⟩:=key j hj _ _ hx;obtain⟨l2,m2⟩:=key k hk _ _ hy;exact hI.dist j k b' x y hjk l1 l2 m1 m2
 · rintro k ⟨j,x,hj,hx⟩
   left
   by_cases h:j=i
   · subst h;rw[upd_eq,if_pos rfl] at hx;exact⟨j,x,hlive,by rw[hσ];exact hx⟩
   · rw[live_upd h] at hj;rw[upd_eq,if_neg h] at hx;exact⟨j,x,hj,hx⟩
def GS.growO(G:GS)(B d g:Nat):GS:=⟨G.K,fun i h=>if i=d∧h=g then some (B,1,0) else G.m i h⟩
theorem allocObj_ok(hI:Inv G σ w){o:Obj}(d g:Nat)(hg:G.m d g=none)(c:List AV)(h:ObjRel G c o):StepOK G σ w (G.growO w.heap.size d g) (newS σ d g c) (w.alloc o):=by
 have hle:G.le (G.growO w.heap.size d g):=⟨fun _ _ _ h=>h,fun i g' x hx=>by
  simp only[GS.growO];rw[if_neg]
  · exact hx
  · rintro⟨rfl,rfl⟩;rw[hg] at hx;cases hx⟩
 have hnew:∀o,G.K w.heap.size o=none:=fun o=>by
  cases hv:G.K w.heap.size o with
  | none=>rfl
  | some v=>exact absurd (hI.kok.lt hv) (by omega)
 have key:∀i,i≠d→live (newS σ d g c) i→ ∀b x,(G.growO w.heap.size d g).m i (newS σ d g c i).1=some (b,x)→live σ i∧G.m i (σ i).1=some (b,x):=by intro i e hi b x hx;unfold live newS at hi;rw[newS,upd_eq,if_neg e] at hx;rw[upd_eq,if_neg e] at hi;simp only[GS.growO] at hx;rw[if_neg (by rintro⟨h,_⟩;exact e h)] at hx;exact⟨hi,hx⟩
 have keyd:∀b x,(G.growO w.heap.size d g).m d (newS σ d g c d).1=some (b,x)→b=w.heap.size:=by intro b x hx;rw[newS,upd_eq,if_pos rfl] at hx;simp[GS.growO] at hx;exact hx.1.symm
 refine⟨hle,⟨hI.kok.keep fun b hb _=>alloc_old _ _ hb,?_,?_,?_⟩,⟨rfl,rfl,rfl,by show w.heap.size≤(w.heap.push _).size;simp,fun b hb _=>alloc_old _ _ hb,fun b o v h=>h,fun b hb _=>rfl⟩,?_⟩
 · intro i c' hi;by_cases e:i=d
   · subst e;rw[newS,upd_eq,if_pos rfl] at hi ⊢;cases hi;exact .inr (.inr ⟨w.heap.size,by simp[GS.growO],hnew,o,alloc_new _ _,h.mono hle⟩)
   · rw[newS,upd_eq,if_neg e] at hi ⊢;rcases hI.res i c' hi with⟨h2,h3⟩ | ⟨b,e',lim,vals',T',hR⟩ | ⟨b,hO⟩
     · left;refine⟨h2,?_⟩
       simp only[GS.growO];rw[if_neg (by rintro⟨h,_⟩;exact e h)];exact h3
     · have hb:b<w.heap.size:=(Array.getElem?_eq_some_iff.1 hR.obj).1;refine .inr (.inl ⟨b,e',lim,vals',T',⟨hle.m _ _ _ hR.m,by rw[alloc_old _ _ hb];exact hR.obj,hR.fit,hR.lim,hR.K,fun j a hj=>?_⟩⟩);obtain⟨v,hv,hr⟩:=hR.rel j a hj;exact⟨v,hv,hr.mono hle⟩
     · exact .inr (.inr ⟨b,hO.keep hle rfl (alloc_old _ _ hO.lt)⟩)
 · intro i;obtain⟨N,hN⟩:=hI.fresh i;refine⟨N+g+1,fun g' hg'=>?_⟩;simp only[GS.growO];rw[if_neg (by rintro⟨_,h⟩;omega)];exact hN _ (by omega)
 · intro i j b x y hij hi hj hx hy;by_cases ei:i=d
   · subst ei;have hb:=keyd _ _ hx;obtain⟨lj,mj⟩:=key j (Ne.symm hij) hj _ _ hy;have:=hI.lt ⟨j,y,lj,mj⟩;omega
   · obtain⟨li,mi⟩:=key i ei hi _ _ hx;by_cases ej:j=d
     · subst ej;have hb:=keyd _ _ hy;have:=hI.lt ⟨i,x,li,mi⟩;omega
     · obtain⟨lj,mj⟩:=key j ej hj _ _ hy;exact hI.dist i j b x y hij li lj mi mj
 · rintro b ⟨i,x,hi,hx⟩;by_cases e:i=d
   · subst e;exact .inr (Nat.le_of_eq (keyd _ _ hx).symm)
   · obtain⟨li,mi⟩:=key i e hi _ _ hx;exact .inl ⟨i,x,li,mi⟩
theorem growO_m{B d g:Nat}:(G.growO B d g).m d g=some (B,1,0):=by simp[GS.growO]
theorem obj_of(hI:Inv G σ w){i h b:Nat}{c:List AV}(hσ:σ i=(h,.row c))(hm:G.m i h=some (b,1,0))(hc:c≠[]):ObjOK G w i h c b:=by
 rcases hI.res i c (by rw[hσ]) with⟨h1,_⟩ | ⟨b',e,lim,vals,T,hR⟩ | ⟨b',hO⟩
 · exact absurd h1 hc
 · have:=hR.m;rw[hσ] at this;simp only at this;rw[hm] at this;cases this;have:=hR.fit;omega
 · rw[hσ] at hO;have:=hO.m;simp only at this;rw[hm] at this;cases this;exact hO
theorem mapW_inv(hI:Inv G σ w){i h:Nat}{aks avs:List AV}(hm:Rel G a va)(hx:mapW σ a=some (i,h,p,aks,avs))(hp:p):
  ∃b ks vs,va= .map (some b)∧σ i=(h,.row [.mpv aks avs])∧ObjOK G w i h [.mpv aks avs] b∧w.heap[b]?=some (mapObj ks vs)∧ks.length=vs.length∧RelL (GS.pure G.K) aks ks∧RelL (GS.pure G.K) avs vs:=by
 unfold mapW at hx;split at hx
 · rename_i i' h0;split at hx
   · rename_i h' ks0 vs0 hσ;cases hx;obtain⟨b,rfl,hmb⟩:=hm;subst hp;have hO:=obj_of hI hσ hmb (by simp);obtain⟨o,ho,hrel⟩:=hO.obj;obtain⟨ks,vs,rfl,h1,h2,h3⟩:=hrel;exact⟨b,ks,vs,rfl,hσ,hO,ho,h3,h1,h2⟩
   · cases hx
 · cases hx
theorem mapR_inv(hI:Inv G σ w){aks avs:List AV}(hm:Rel G a va)(hx:mapR σ a=some (p,aks,avs))(hp:p):
  (va= .map none∧aks=[]∧avs=[])∨ ∃b ks vs,va= .map (some b)∧w.heap[b]?=some (mapObj ks vs)∧ks.length=vs.length∧RelL (GS.pure G.K) aks ks∧RelL (GS.pure G.K) avs vs:=by
 unfold mapR at hx;split at hx
 · cases hx;exact .inl ⟨hm,rfl,rfl⟩
 · cases hx;obtain⟨b,ks,vs,rfl,h1,h2,h3⟩:=hm;obtain⟨k1,k2⟩:=hI.kok.map h1;exact .inr ⟨b,ks,vs,rfl,k1,k2,h2,h3⟩
 · rename_i i' h0;split at hx
   · rename_i h' ks0 vs0 hσ;have hW:mapW σ (.map i' h0)=some (i',h0,h0=h',ks0,vs0):=by simp only[mapW,hσ]
     cases hx;obtain⟨b,ks,vs,k1,_,_,k2,k3,k4,k5⟩:=mapW_inv hI hm hW hp;exact .inr ⟨b,ks,vs,k1,k2,k3,k4,k5⟩
   · cases hx
 · cases hx
theorem RelL.snoc{l:List AV}{vs:List Value}(h:RelL G l vs)(ha:Rel G a va):RelL G (l++[a]) (vs++[va]):=
 RelL.of_get (by simp[h.length]) fun j x hj=>by
  have hl:=h.length;rw[List.getElem?_append] at hj ⊢;split at hj
  · rw[if_pos (by omega)];exact h.get _ _ hj
  · rw[if_neg (by omega)];rw[hl];cases hk:j-l.length with
    | zero=>rw[hk] at hj;simp at hj;subst hj;exact⟨va,by simp,ha⟩
    | succ k=>rw[hk] at hj;simp at hj
theorem RelL.getD'{l:List AV}{vs:List Value}(h:RelL G l vs)(j:Nat):Rel G (l.getD j .junk) (vs.getD j undef):=by
 rw[List.getD_eq_getElem?_getD,List.getD_eq_getElem?_getD];cases hj:l[j]? with
 | none=>trivial
 | some x=> obtain⟨v,hv,hr⟩:=h.get j x hj;rw[hv];exact hr
theorem mapObj_put{ks vs:List Value}{j:Nat}{v:Value}(hl:ks.length=vs.length)(hj:j<ks.length):Obj.map ((entsV 0 ks vs).toArray.modify j fun e=>{e with val:=v }) ks.length=mapObj ks (vs.set j v):=by unfold mapObj;rw[entsV_set hl hj];simp
theorem mapObj_same{ks vs:List Value}{j:Nat}{v k:Value}(hl:ks.length=vs.length)(hj:j<ks.length)(hk:ks.getD j undef=k):Obj.map ((entsV 0 ks vs).toArray.modify j fun e=>{e with key:=k,val:=v }) ks.length=mapObj ks (vs.set j v):=by
 rw[←mapObj_put hl hj]
 congr 1
 apply Array.ext_getElem?;intro i;simp only[Array.getElem?_modify];split
 · subst i;rw[List.getElem?_toArray,entsV_get hl hj];simpa using hk.symm
 · rfl
theorem mapObj_key{ks vs:List Value}{j:Nat}{k:Value}(hl:ks.length=vs.length)(hj:j<ks.length)(hk:ks.getD j undef=k):Obj.map ((entsV 0 ks vs).toArray.modify j fun e=>{e with key:=k }) ks.length=mapObj ks vs:=by
 unfold mapObj
 congr 1
 apply Array.ext_getElem?;intro i;simp only[Array.getElem?_modify];split
 · subst i;rw[List.getElem?_toArray,entsV_get hl hj];simpa using hk.symm
 · rfl
theorem mapObj_push{ks vs:List Value}{k v:Value}(hl:ks.length=vs.length):Obj.map ((entsV 0 ks vs).toArray.push {key:=k,val:=v,born:=ks.length }) (ks.length+1)=mapObj (ks++[k]) (vs++[v]):=by unfold mapObj;rw[entsV_snoc hl];simp
theorem e_mup{t kt e:TypeId}{kk:KK}{u:AV}{σ':Sig}(hI:Inv G σ w)(ht:P.underlying t=some (.map kt e))(hk:keyKind P kt=some kk)(hm:Rel G a va)(hb:Rel G b vb)(hc:Rel G c vc)(h:mupO kk σ b c a=some (p,u,σ'))(hp:p):
  ∃w',(Instr.mapUpdate t va vb vc).run P w= .ok () w'∧u= .junk∧StepOK G σ w G σ' w':=by
 unfold mupO at h;split at h
 · rename_i i h0 q aks avs v hW hv;have hve:=forceA_eq hv;subst hve;have go:q→ ∃b ks vs,va= .map (some b)∧σ i=(h0,.row [.mpv aks avs])∧ObjOK G w i h0 [.mpv aks avs] b∧w.heap[b]?=some (mapObj ks vs)∧ks.length=vs.length∧RelL (GS.pure G.K) aks ks∧RelL (GS.pure G.K) avs vs:=fun hq=>mapW_inv hI hm hW hq;have hcn:=hc.norm;split at h
   · rename_i j hf;cases h;obtain⟨bk,ks,vs,rfl,hσ,hO,hobj,hl,h1,h2⟩:=go hp;obtain⟨f1,f2⟩:=run_findKey (P:=P) (w:=w) hk hb hl (h1.mono G.pure_le) hf;obtain⟨k1,k2,k3⟩:=f2 j rfl;refine⟨w.putObj bk (mapObj ks (vs.set j vc)),?_,rfl,putObj_ok hI hσ hO ⟨ks,vs.set j vc,rfl,h1,RelL.set h2 j hcn,by simpa using hl⟩⟩;unfold Instr.mapUpdate;rw[Sem.run_bind,run_underlying ht,Result.andThen_ok];simp only[Sem.run_bind,run_getM hobj,Result.andThen_ok,run_checkKey hk hb (h1.mono G.pure_le) hf,f1,Option.map_some];have:((((entsV 0 ks vs).toArray[j]?).map (·.key)).getD vb)=vb:=by rw[List.getElem?_toArray,entsV_get hl k1];simpa using k2
     rw[this,run_stays k3];simp only[Result.andThen_ok];rw[run_setM _ hobj,mapObj_same hl k1 k2]
   · rename_i hf;cases h;obtain⟨bk,ks,vs,rfl,hσ,hO,hobj,hl,h1,h2⟩:=go hp;obtain⟨f1,f2⟩:=run_findKey (P:=P) (w:=w) hk hb hl (h1.mono G.pure_le) hf;refine⟨w.putObj bk (mapObj (ks++[vb]) (vs++[vc])),?_,rfl,putObj_ok hI hσ hO ⟨ks++[vb],vs++[vc],rfl,h1.snoc hb.norm,h2.snoc hcn,by simp[hl]⟩⟩;unfold Instr.mapUpdate;rw[Sem.run_bind,run_underlying ht,Result.andThen_ok];simp only[Sem.run_bind,run_getM hobj,Result.andThen_ok,run_checkKey hk hb (h1.mono G.pure_le) hf,f1,Option.map_none];rw[run_setM _ hobj,mapObj_push hl]
   · cases h
 · cases h
theorem zero1_run{t:TypeId}{z:AV}(h:zero1 P t=some z):∃zv,(zeroValue t).run P w= .ok zv w∧Rel (GS.pure G.K) z zv:=by
 unfold zero1 at h;split at h
 · rename_i zv hz;split at h
   · cases h;obtain⟨i,hi,hz⟩:=Option.bind_eq_some_iff.1 hz;exact⟨zv,run_zero hi hz,ofV_rel _ _⟩
   · cases h
 · cases h
theorem upd_self{i:Nat}{x:Nat×Res}(h:σ i=x):upd σ i x=σ:=by
 funext j;rw[upd_eq];split
 · subst j;exact h.symm
 · rfl
theorem e_men{t kt e:TypeId}{kk:KK}{z u:AV}{σ':Sig}(hI:Inv G σ w)(ht:P.underlying t=some (.map kt e))(hk:keyKind P kt=some kk)(hz:zero1 P e=some z)(hm:Rel G a va)(hb:Rel G b vb)(h:menO kk z σ b a=some (p,u,σ'))(hp:p):
  ∃v' w' G',(Instr.mapEntry t va vb).run P w= .ok v' w'∧Rel G' u v'∧StepOK G σ w G' σ' w':=by
 unfold menO at h;split at h
 · rename_i i h0 q aks avs hW;have go:q→ ∃b ks vs,va= .map (some b)∧σ i=(h0,.row [.mpv aks avs])∧ObjOK G w i h0 [.mpv aks avs] b∧w.heap[b]?=some (mapObj ks vs)∧ks.length=vs.length∧RelL (GS.pure G.K) aks ks∧RelL (GS.pure G.K) avs vs:=fun hq=>mapW_inv hI hm hW hq;split at h
   · rename_i j hf;cases h;obtain⟨bk,ks,vs,rfl,hσ,hO,hobj,hl,h1,h2⟩:=go hp;obtain⟨f1,f2⟩:=run_findKey (P:=P) (w:=w) hk hb hl (h1.mono G.pure_le) hf;obtain⟨k1,k2,k3⟩:=f2 j rfl;have hst:=putObj_ok hI hσ hO (c':=[.mpv aks avs]) (o':=mapObj ks vs) ⟨ks,vs,rfl,h1,h2,hl⟩;rw[upd_self hσ] at hst;refine⟨.tuple #[vs.getD j undef,.int .i64 j],w.putObj bk (mapObj ks vs),G,?_,⟨_,rfl,_,_,rfl,(h2.mono G.pure_le).getD' j,_,_,rfl,rfl,rfl⟩,hst⟩;unfold Instr.mapEntry;rw[Sem.run_bind,run_underlying ht,Result.andThen_ok];simp only[Sem.run_bind,run_getM hobj,Result.andThen_ok,run_checkKey hk hb (h1.mono G.pure_le) hf,f1,Option.map_some];have:((((entsV 0 ks vs).toArray[j]?).map (·.key)).getD vb)=vb:=by rw[List.getElem?_toArray,entsV_get hl k1];simpa using k2
     rw[this,run_stays k3];simp only[Result.andThen_ok];rw[run_setM _ hobj,mapObj_key hl k1 k2];simp only[Result.andThen_ok,Sem.run_pure];rw[List.getElem?_toArray,entsV_get hl k1];simp[goInt]
   · rename_i hf;cases h;obtain⟨bk,ks,vs,rfl,hσ,hO,hobj,hl,h1,h2⟩:=go hp;obtain⟨f1,f2⟩:=run_findKey (P:=P) (w:=w) hk hb hl (h1.mono G.pure_le) hf;obtain⟨zv,hzv,hzr⟩:=zero1_run (P:=P) (G:=G) (w:=w) hz;refine⟨.tuple #[zv,.int .i64 ks.length],w.putObj bk (mapObj (ks++[vb]) (vs++[zv])),G,?_,⟨_,rfl,_,_,rfl,hzr.mono G.pure_le,_,_,rfl,?_,rfl⟩,putObj_ok hI hσ hO ⟨ks++[vb],vs++[zv],rfl,h1.snoc hb.norm,h2.snoc hzr,by simp[hl]⟩⟩
     · unfold Instr.mapEntry;rw[Sem.run_bind,run_underlying ht,Result.andThen_ok];simp only[Sem.run_bind,run_getM hobj,Result.andThen_ok,run_checkKey hk hb (h1.mono G.pure_le) hf,f1,Option.map_none,hzv];rw[run_setM _ hobj,mapObj_push hl];simp[goInt]
     · rw[h1.length];rfl
   · cases h
 · cases h
theorem find_born{n:Nat}:∀{ks vs:List Value} {m:Nat},ks.length=vs.length→n<ks.length→(entsV m ks vs).findIdx? (fun e=>(e.born:Int) == ((m+n:Nat):Int))=some n
 | [],_,_,_,h=>by simp at h
 | _::_,[],_,h,_=>by simp at h
 | k::ks,v::vs,m,hl,hn=>by
   simp only[entsV,List.findIdx?_cons];cases n with
   | zero=>simp
   | succ n=>
     have:((m:Int) == ((m+(n+1):Nat):Int))=false:=by rw[beq_dec];simp;omega
     rw[this];have ih:=find_born (n:=n) (m:=m+1) (show ks.length=vs.length by simpa using hl) (by simpa using hn);rw[show m+1+n=m+(n+1) by omega] at ih;rw[ih];rfl
theorem e_mst{t:TypeId}{u:AV}{σ':Sig}(hI:Inv G σ w)(hm:Rel G a va)(hb:Rel G b vb)(hc:Rel G c vc)(h:mstO σ b c a=some (p,u,σ'))(hp:p):
  ∃w',(Instr.entryStore t va vb vc).run P w= .ok () w'∧u= .junk∧StepOK G σ w G σ' w':=by
 unfold mstO at h;split at h
 · rename_i i h0 q aks avs j v hW hv;have hve:=forceA_eq hv;subst hve;cases h;obtain⟨hq,h3,h4⟩:=hp;obtain⟨bk,ks,vs,rfl,hσ,hO,hobj,hl,h1,h2⟩:=mapW_inv hI hm hW hq;simp only[Rel] at hb;subst hb;have hj:j.toNat<ks.length:=by rw[h1.length];omega
   refine⟨w.putObj bk (mapObj ks (vs.set j.toNat vc)),?_,rfl,putObj_ok hI hσ hO ⟨ks,vs.set j.toNat vc,rfl,h1,RelL.set h2 j.toNat hc.norm,by simpa using hl⟩⟩;unfold Instr.entryStore;simp only[Sem.run_bind,run_getM hobj,Result.andThen_ok,asInt,asIntOf,Sem.run_pure];have hf:=find_born (n:=j.toNat) (m:=0) hl hj;rw[show ((0+j.toNat:Nat):Int)=j by omega] at hf;have hf':(entsV 0 ks vs).toArray.findIdx? (fun e=>(e.born:Int) == j)=some j.toNat:=by simpa using hf
   rw[hf'];simp only;rw[run_setM _ hobj,mapObj_put hl hj]
 · cases h
theorem s_mlk{t kt e:TypeId}{kk:KK}{z u:AV}{ok:Bool}{σ':Sig}(hI:Inv G σ w)(ht:P.underlying t=some (.map kt e))(hk:keyKind P kt=some kk)(hz:zero1 P e=some z)(hm:Rel G a va)(hb:Rel G b vb)(h:mlkO kk z ok σ b a=some (p,u,σ'))(hp:p):
  σ'=σ∧ ∃v',(Instr.lookup t va vb ok).run P w= .ok v' w∧Rel G u v':=by
 obtain⟨zv,hzv,hzr⟩:=zero1_run (P:=P) (G:=G) (w:=w) hz;unfold mlkO at h;split at h
 · rename_i q aks avs hR;split at h
   · rename_i o hf;cases h;refine⟨rfl,?_⟩;rcases mapR_inv hI hm hR hp with⟨rfl,rfl,rfl⟩ | ⟨bk,ks,vs,rfl,hobj,hl,h1,h2⟩
     · have hn:=findA_nil hf;subst hn;obtain⟨f1,_⟩:=run_findKey (P:=P) (w:=w) (aks:=[]) (ks:=[]) (vs:=[]) hk hb rfl rfl hf;have hck:=fun e=>run_checkKey (P:=P) (w:=w) (aks:=[]) (ks:=[]) hk hb rfl hf e;have f1':(Instr.findKey kt vb []).run P w= .ok none w:=f1;refine⟨if ok=true then .tuple #[zv,.bool false] else zv,?_,?_⟩
       · unfold Instr.lookup;rw[Sem.run_bind,run_underlying ht,Result.andThen_ok];simp only[Sem.run_bind,Sem.run_pure,Result.andThen_ok,hck,f1',hzv]
       · cases ok
         · exact hzr.mono G.pure_le
         · exact⟨_,rfl,_,_,rfl,hzr.mono G.pure_le,_,_,rfl,rfl,rfl⟩
     · obtain⟨f1,f2⟩:=run_findKey (P:=P) (w:=w) hk hb hl (h1.mono G.pure_le) hf;cases o with
       | none=>
         refine⟨if ok=true then .tuple #[zv,.bool false] else zv,?_,?_⟩
         · unfold Instr.lookup;rw[Sem.run_bind,run_underlying ht,Result.andThen_ok];simp only[Sem.run_bind,run_getM hobj,Result.andThen_ok,run_checkKey hk hb (h1.mono G.pure_le) hf,f1,Option.map_none,hzv,Sem.run_pure]
         · cases ok
           · exact hzr.mono G.pure_le
           · exact⟨_,rfl,_,_,rfl,hzr.mono G.pure_le,_,_,rfl,rfl,rfl⟩
       | some j=>
         refine⟨if ok=true then .tuple #[vs.getD j undef,.bool true] else vs.getD j undef,?_,?_⟩
         · unfold Instr.lookup;rw[Sem.run_bind,run_underlying ht,Result.andThen_ok];simp only[Sem.run_bind,run_getM hobj,Result.andThen_ok,run_checkKey hk hb (h1.mono G.pure_le) hf,f1,Option.map_some,Sem.run_pure]
         · cases ok
           · exact (h2.mono G.pure_le).getD' j
           · exact⟨_,rfl,_,_,rfl,(h2.mono G.pure_le).getD' j,_,_,rfl,rfl,rfl⟩
   · cases h
 · cases h
theorem s_mln{t ty kt e:TypeId}{u:AV}{σ':Sig}(hI:Inv G σ w)(ht:P.underlying t=some (.map kt e))(hm:Rel G a va)(h:mlnO σ a=some (p,u,σ'))(hp:p):
  σ'=σ∧ ∃v',(Builtin.len_ #[t] ty #[va]).run P w= .ok v' w∧Rel G u v':=by
 unfold mlnO at h;split at h
 · rename_i q aks avs hR;cases h;refine⟨rfl,?_⟩;rcases mapR_inv hI hm hR hp with⟨rfl,rfl,rfl⟩ | ⟨bk,ks,vs,rfl,hobj,hl,h1,h2⟩
   · exact⟨.int .i64 0,by simp[Builtin.len_,run_underlying ht,Builtin.lenOf,goInt],rfl⟩
   · refine⟨.int .i64 ks.length,?_,by rw[←h1.length];rfl⟩;have:=entsV_len (n:=0) hl;simp[Builtin.len_,run_underlying ht,Builtin.lenOf,run_getM hobj,goInt,this]
 · cases h
theorem e_mkm{t kt e:TypeId}{r:Option Operand}{ρ:Operand→Value}{x:Nat→AV}{d γ:Nat}(hI:Inv G σ w)(hρ:ORel G x ρ)(hγ:G.m d γ=none)(ht:P.underlying t=some (.map kt e))(hr:isInt r=true):
  ∃v' w' G',(Instr.makeMap t (r.map ρ)).run P w= .ok v' w'∧Rel G' (.map d γ) v'∧StepOK G σ w G' (newS σ d γ [.mpv [] []]) w':=by
 have hal:=allocObj_ok hI d γ hγ [.mpv [] []] (o:= .map #[] 0) ⟨[],[],rfl,rfl,rfl,rfl⟩;refine⟨.map (some w.heap.size),w.alloc (.map #[] 0),_,?_,⟨_,rfl,growO_m⟩,hal⟩;unfold Instr.makeMap;cases r with
 | none=>simp
 | some y=>
   cases y with
   | const v=>
     cases v<;>first | (cases hr;done) | skip
     rename_i k n;have:=hρ (.const (.int k n)) (.k (.int k n)) rfl;simp only[IOpd.ev,Rel] at this;simp[this,run_underlying ht,asInt,asIntOf]
   | _=>cases hr
theorem e_rng{t kt e:TypeId}{u:AV}{σ':Sig}{d γ:Nat}(hI:Inv G σ w)(hγ:G.m d γ=none)(ht:P.underlying t=some (.map kt e))(hm:Rel G a va)(h:rngO d σ γ a=some (p,u,σ')):
  ∃v' w' G',(Instr.range t va).run P w= .ok v' w'∧Rel G' u v'∧StepOK G σ w G' σ' w':=by
 unfold rngO at h;split at h
 · cases h;simp only[Rel] at hm;subst hm;refine⟨.pointer (some ⟨w.heap.size,0,none⟩),w.alloc (.mapIter none 0 #[] 0),_,?_,⟨_,rfl,growO_m⟩,allocObj_ok hI d γ hγ [.itv [] [] []] (o:= .mapIter none 0 #[] 0) (.inl ⟨rfl,rfl,rfl,_,_,rfl⟩)⟩;simp[Instr.range,run_underlying ht]
 · rename_i aks avs;cases h;obtain⟨b,ks,vs,rfl,h1,h2,h3⟩:=hm;obtain⟨hobj,hl⟩:=hI.kok.map h1;have hf:(List.range ks.length).filter (fun j=>!(#[]:Array Nat).contains j)=List.range ks.length:=by simp
   have hg:∀l:List Value,l.length=ks.length→(List.range ks.length).map (fun j=>l.getD j undef)=l:=by
    intro l hll;apply List.ext_getElem?;intro j;rw[List.getElem?_map];by_cases hj:j<ks.length
    · rw[List.getElem?_range hj];simp[List.getElem?_eq_getElem (show j<l.length by omega)]
    · rw[List.getElem?_eq_none (by simpa using hj),List.getElem?_eq_none (by omega)];rfl
   refine⟨.pointer (some ⟨w.heap.size,0,none⟩),w.alloc (.mapIter (some b) ks.length #[] ks.length),_,?_,⟨_,rfl,growO_m⟩,allocObj_ok hI d γ hγ [.itv [] aks avs] (o:= .mapIter (some b) ks.length #[] ks.length) (.inr ⟨b,ks,vs,#[],rfl,h1,hl,?_,?_,.inl rfl⟩)⟩
   · simp[Instr.range,run_underlying ht,run_getM hobj]
   · rw[hf,hg ks rfl];exact h2
   · rw[hf,hg vs hl.symm];exact h3
 · cases h
theorem entsV_eq{ks vs:List Value}(hl:ks.length=vs.length):entsV 0 ks vs=(List.range ks.length).map fun j=>{key:=ks.getD j undef,val:=vs.getD j undef,born:=j }:=by
 apply List.ext_getElem?;intro j;rw[List.getElem?_map];by_cases hj:j<ks.length
 · rw[List.getElem?_range hj,entsV_get hl hj];simp
 · rw[List.getElem?_eq_none (by rw[entsV_len hl];omega),List.getElem?_eq_none (by simpa using hj)];rfl
theorem run_getI{r:Nat}{m:Option Nat}{s l:Nat}{seen:Array Nat}(h:w.heap[r]?=some (.mapIter m s seen l)):(getObj r).run P w= .ok (.mapIter m s seen l) w:=by simp[getObj,Sem.run,h]
theorem run_setI{r:Nat}{m:Option Nat}{s l:Nat}{seen:Array Nat}(o':Obj)(h:w.heap[r]?=some (.mapIter m s seen l)):(setObj r o').run P w= .ok () (w.putObj r o'):=by simp[setObj,Sem.run,h,World.putObj]
theorem itr_inv(hI:Inv G σ w){i h h':Nat}{cur aks avs:List AV}(hm:Rel G (.itr i h) va)(hσ:σ i=(h',.row [.itv cur aks avs]))(hp:h=h'):
  ∃b o,va= .pointer (some ⟨b,0,none⟩)∧ObjOK G w i h [.itv cur aks avs] b∧σ i=(h,.row [.itv cur aks avs])∧w.heap[b]?=some o∧ObjRel G [.itv cur aks avs] o:=by
 subst hp;obtain⟨b,rfl,hmb⟩:=hm;have hO:=obj_of hI hσ hmb (by simp);obtain⟨o,ho,hrel⟩:=hO.obj;exact⟨b,o,rfl,hO,hσ,ho,hrel⟩
theorem s_ent{u:AV}{σ':Sig}(hI:Inv G σ w)(hm:Rel G a va)(h:entO σ a=some (p,u,σ'))(hp:p):
  σ'=σ∧ ∃v',(Instr.entry va).run P w= .ok v' w∧Rel G u v':=by
 unfold entO at h;split at h
 · rename_i i h0;split at h
   · rename_i h' k v aks avs hσ;cases h;refine⟨rfl,?_⟩;obtain⟨b,o,rfl,hO,_,ho,hrel⟩:=itr_inv hI hm hσ hp;rcases hrel with⟨hc,_⟩ | ⟨m,ks,vs,seen,rfl,h1,hl,h2,h3,h4⟩
     · cases hc
     · rcases h4 with hc | ⟨j,hj,hjl,hcur⟩
       · cases hc
       · obtain⟨hobj,_⟩:=hI.kok.map h1;refine⟨.tuple #[ks.getD j undef,vs.getD j undef],?_,⟨_,rfl,hcur.mono G.pure_le⟩⟩;have hf:(entsV 0 ks vs).toArray.find? (fun e=>e.born == j)=some {key:=ks.getD j undef,val:=vs.getD j undef,born:=j }:=by
          rw[List.find?_toArray,entsV_eq hl,List.find?_map];have:(List.range ks.length).find? ((fun e:MapEntry=>e.born == j) ∘ fun j=>{key:=ks.getD j undef,val:=vs.getD j undef,born:=j })=some j:=by rw[List.find?_range_eq_some];refine⟨by simp,by simpa using hjl,fun i hi=>?_⟩;simp;omega
          rw[this];rfl
         unfold Instr.entry;simp only[Sem.run_bind,run_getI ho,Result.andThen_ok,hj,run_getM hobj,Sem.run_pure];simp[hf]
   · cases h
 · cases h
theorem range_erase{seen:Array Nat}{n c j:Nat}(h:((List.range n).filter fun j=>!seen.contains j)[c]?=some j):((List.range n).filter fun i=>!(seen.push j).contains i)=((List.range n).filter fun j=>!seen.contains j).eraseIdx c:=by
 have hnd:((List.range n).filter fun j=>!seen.contains j).Nodup:=List.nodup_range.filter _;have h1:((List.range n).filter fun i=>!(seen.push j).contains i)=((List.range n).filter fun j=>!seen.contains j).filter (fun i=>i !=j):=by
  rw[List.filter_filter]
  congr 1
  funext i
  simp only[Array.contains_push];by_cases hij:i=j
  · simp[hij]
  · simp[hij,bne,Bool.and_comm]
 rw[h1,←List.Nodup.erase_eq_filter hnd];obtain⟨hc,hcj⟩:=List.getElem?_eq_some_iff.1 h;rw[List.erase_eq_eraseIdx_of_idxOf (i:=c)];rw[←hcj];exact List.Nodup.idxOf_getElem hnd c hc
theorem eraseIdx_map{α β:Type}(f:α→β):∀(l:List α) (c:Nat),(l.map f).eraseIdx c=(l.eraseIdx c).map f
 | [],_=>rfl
 | _::_,0=>rfl
 | x::l,c+1=>by simp[eraseIdx_map f l c]
theorem RelL.eraseIdx:∀{l:List AV} {vs:List Value} (_:RelL G l vs) (c:Nat),RelL G (l.eraseIdx c) (vs.eraseIdx c)
 | [],_,h,_=>by simp only[RelL] at h;subst h;rfl
 | _::_,_,⟨v,r,rfl,_,h2⟩,0=>h2
 | _::_,_,⟨v,r,rfl,h1,h2⟩,c+1=>⟨v,_,rfl,h1,RelL.eraseIdx h2 c⟩
theorem e_nxt{ty:TypeId}{K:AV→Sig→Prop}(hI:Inv G σ w)(hm:Rel G a va)(h:∀γ,∃p u σ',nxtO σ γ a=some (p,u,σ')∧p∧K u σ'):
  ∃u σ' v' w',K u σ'∧(Instr.next va false ty).run P w= .ok v' w'∧Rel G u v'∧StepOK G σ w G σ' w'∧ ∃γ p,nxtO σ γ a=some (p,u,σ'):=by
 obtain⟨p0,u0,s0,h0,hp0,_⟩:=h 0;unfold nxtO at h0;split at h0
 · rename_i i hh;split at h0
   · rename_i h' cur aks avs hσ;have hpp:hh=h':=by split at h0<;>(cases h0;exact hp0)
     obtain⟨b,o,rfl,hO,hσ',ho,hrel⟩:=itr_inv hI hm hσ hpp;subst hpp;rcases hrel with⟨rfl,rfl,rfl,s,l,rfl⟩ | ⟨m,ks,vs,seen,rfl,h1,hl,h2,h3,h4⟩
     · obtain⟨p,u,s',k1,k2,k3⟩:=h 0;have k1':=k1;simp only[nxtO,hσ] at k1;cases k1;exact⟨_,_,.tuple #[.bool false],w,k3,by unfold Instr.next;simp only[Sem.run_bind,run_getI ho,Result.andThen_ok,Sem.run_pure],⟨_,rfl,_,_,rfl,rfl,rfl⟩,.refl hI,_,_,k1'⟩
     · obtain⟨hobj,_⟩:=hI.kok.map h1;generalize hL:(List.range ks.length).filter (fun j=>!seen.contains j)=L at*;have hlen:aks.length=L.length:=by rw[←h2.length];simp
       have hlenv:avs.length=L.length:=by rw[←h3.length];simp
       have hLlt:∀j∈L,j<ks.length:=by intro j hj;rw[←hL] at hj;simpa using (List.mem_filter.1 hj).1
       let ent:Nat→MapEntry:=fun j=>{key:=ks.getD j undef,val:=vs.getD j undef,born:=j }
       have hleft:(entsV 0 ks vs).toArray.filter (fun e=>!seen.contains e.born)=(L.map ent).toArray:=by rw[List.filter_toArray,entsV_eq hl,List.filter_map,←hL];rfl
       have hold:(L.map ent).toArray.filter (fun e=>decide (e.born<ks.length))=(L.map ent).toArray:=by
        rw[List.filter_toArray,List.filter_map]
        congr 2
        rw[List.filter_eq_self];intro j hj;exact decide_eq_true (hLlt j hj)
       have hnew:(L.map ent).toArray.filter (fun e=>decide (e.born≥ks.length))= #[]:=by
        rw[List.filter_toArray,List.filter_map];have:L.filter ((fun e:MapEntry=>decide (e.born≥ks.length)) ∘ ent)=[]:=by
         rw[List.filter_eq_nil_iff];intro j hj;have:=hLlt j hj;simp only[Function.comp,decide_eq_true_eq];show ¬ks.length≤j
         omega
        rw[this];rfl
       have hgone:(!seen.isEmpty && !(entsV 0 ks vs).toArray.isEmpty && (entsV 0 ks vs).toArray.all (fun e=>decide (e.born≥ks.length)))=false:=by
        by_cases hks:ks=[]
        · subst hks;cases vs<;>simp[entsV] at hl ⊢
        · have hpos:0<ks.length:=by cases ks<;>simp at hks ⊢
          have:(entsV 0 ks vs).toArray.all (fun e=>decide (e.born≥ks.length))=false:=by rw[List.all_toArray,List.all_eq_false];exact⟨_,List.mem_of_getElem? (entsV_get (n:=0) hl hpos),by simp;omega⟩
          rw[this];simp
       by_cases hLn:L=[]
       · subst hLn;have ha:aks=[]:=List.eq_nil_of_length_eq_zero (by simpa using hlen);subst ha;obtain⟨p,u,s',k1,k2,k3⟩:=h 0;have k1':=k1;simp only[nxtO,hσ] at k1;cases k1;refine⟨_,_,.tuple #[.bool false],w,k3,?_,⟨_,rfl,_,_,rfl,rfl,rfl⟩,.refl hI,_,_,k1'⟩;unfold Instr.next;simp only[Sem.run_bind,run_getI ho,Result.andThen_ok,run_getM hobj,hgone,Bool.false_eq_true,if_false,hleft,hold,hnew];simp[Question.forced,run_choose]
       · have hpos:0<L.length:=by cases L<;>simp at hLn ⊢
         have hcand:(if (L.map ent).toArray.isEmpty=true then #[none] else #[])++((L.map ent).toArray++ #[]).map some=((L.map ent).map some).toArray:=by rw[if_neg (by cases L<;>simp at hLn ⊢)];simp
         obtain⟨c,wc,hc,hch,hwc⟩:∃c wc,c<L.length∧(choose (.mapNext ((L.map ent).map some).toArray.size)).run P w= .ok c wc∧(wc=w∨wc=w.drew):=by
          rw[run_choose];by_cases hf:(Question.mapNext ((L.map ent).map some).toArray.size).forced=true
          · rw[if_pos hf];exact⟨0,w,hpos,rfl,.inl rfl⟩
          · rw[if_neg hf];refine⟨_,w.drew,?_,rfl,.inr rfl⟩;simp only[Question.cut];have:=Nat.mod_lt (w.tape w.drawn (.mapNext ((L.map ent).map some).toArray.size)) (y:=((L.map ent).map some).toArray.size) (by simpa using hpos)
            simpa using this
         have hIc:Inv G σ wc∧StepOK G σ w G σ wc∧wc.heap=w.heap:=by
          rcases hwc with rfl | rfl
          · exact⟨hI,.refl hI,rfl⟩
          · have:=StepOK.drew (w':=w.drew) hI rfl rfl rfl rfl;exact⟨this.inv,this,rfl⟩
         obtain⟨hIc,hstc,hheap⟩:=hIc;obtain⟨p,u,s',k1,k2,k3⟩:=h c;have k1':=k1;simp only[nxtO,hσ] at k1;have hmod:c%aks.length=c:=Nat.mod_eq_of_lt (by omega);cases haks:aks with
         | nil=>rw[haks] at hlen;simp at hlen;omega
         | cons a0 ar=>
           rw[haks] at k1;simp only at k1;rw[←haks,hmod] at k1;cases k1;have hOc:ObjOK G wc i hh [.itv cur aks avs] b:=hO.keep (.refl G) rfl (by rw[hheap]);have hLc:L[c]?=some L[c]:=List.getElem?_eq_getElem hc;have hge:∀f:Nat→Value,(L.map f).getD c undef=f L[c]:=fun f=>by simp[List.getD_eq_getElem?_getD,hc]
           have r1:Rel (GS.pure G.K) (aks.getD c .junk) (ks.getD L[c] undef):=by have:=h2.getD' c;rwa [hge] at this
           have r2:Rel (GS.pure G.K) (avs.getD c .junk) (vs.getD L[c] undef):=by have:=h3.getD' c;rwa [hge] at this
           have hst:=putObj_ok hIc hσ' hOc (c':=[.itv [aks.getD c .junk,avs.getD c .junk] (aks.eraseIdx c) (avs.eraseIdx c)]) (o':= .mapIter (some m) ks.length (seen.push L[c]) ks.length) (.inr ⟨m,ks,vs,seen.push L[c],rfl,h1,hl,by
            rw[range_erase (c:=c) (by rw[hL];exact hLc),hL,←eraseIdx_map];exact h2.eraseIdx c,by
            rw[range_erase (c:=c) (by rw[hL];exact hLc),hL,←eraseIdx_map];exact h3.eraseIdx c,.inr ⟨L[c],by simp,hLlt _ (List.getElem_mem hc),_,_,rfl,r1,_,_,rfl,r2,rfl⟩⟩                  )
           refine⟨_,_,.tuple #[.bool true,ks.getD L[c] undef,vs.getD L[c] undef],_,k3,?_,⟨_,rfl,_,_,rfl,rfl,_,_,rfl,r1.mono G.pure_le,_,_,rfl,r2.mono G.pure_le,rfl⟩,hstc.trans hst,c,_,k1'⟩;unfold Instr.next;simp only[Sem.run_bind,run_getI ho,Result.andThen_ok,run_getM hobj,hgone,Bool.false_eq_true,if_false,hleft,hold,hnew,hcand,hch];have hcc:(((L.map ent).map some).toArray)[c]?=some (some (ent L[c])):=by simp[hc]
           rw[hcc];have hoc:wc.heap[b]?=some (.mapIter (some m) ks.length seen ks.length):=by rw[hheap];exact ho
           simp only[Sem.run_bind,run_setI _ hoc,Result.andThen_ok,Sem.run_pure];rfl
   · cases h0
 · cases h0
end
end Go.Abs
