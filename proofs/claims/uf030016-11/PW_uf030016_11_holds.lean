import PyProof.Rows.All
import Wide.All
import OpenK.AllK
import Wide.FinOn
import Open.Row
import PyProof.StationsW
import PyProof.DictStraight
import PyProof.EqKinds
import PyProof.ListOps
import PyProof.CompFree
import PyProof.Cells
import PyProof.Rows.Many
import PyProof.NeKinds
import KE.KIsAll
import PyProof.ExcArgsOwn
import PyProof.ExcAttrAll.ValueError
import KE.KRevSl
import KE.KSortTup
import KE.KDictSum
import OpenK.KRaise
import PyProof.Draws
import PyProof.EnumMake
import PyProof.ZipIter
import PyProof.Rows.ZipGen
import KE.KPar
import PySem.Challenge.RW_uf030016_11
set_option Elab.async false
set_option tactic.hygienic false
set_option linter.all false
set_option bootstrap.genMatcherCode false
set_option genSizeOfSpec false
set_option genSizeOf false
set_option genInjectivity false
set_option genCtorIdx false
section
namespace Mine
theorem gZ {α:Type}{a:α}{l:List α}:(a :: l)[0]?=some a:=rfl
theorem gS {α:Type}{a:α}{l:List α}{i:Nat}:(a :: l)[i+1]?=l[i]?:=rfl
theorem sZ {α:Type}{a b:α}{l:List α}:(a :: l).set 0 b=b :: l:=rfl
theorem sS {α:Type}{a b:α}{l:List α}{i:Nat}:(a :: l).set (i+1) b=a :: l.set i b:=rfl
noncomputable section
inductive NE where
 | n (i:Nat) | c (k:Nat) | a (x y:NE) | m (k:Nat) (x:NE) | p (x:NE) (k:Nat)
inductive IE where
 | v (i:Nat) | c (k:Int) | a (x y:IE) | s (x y:IE) | m (k:Int) (x:IE) | p (x:IE) (k:Int) | g (x:IE) | t (x:NE)
inductive LF where
 | l (x y:IE) | b (x y:IE) | e (x y:IE) | L (x y:NE) | B (x y:NE) | E (x y:NE)
noncomputable def lget {α:Type} (d:α) (l:List α):Nat→α:=List.rec (fun ξ=>d) (fun x ξ f i=>Nat.rec x (fun i ξ=>f i) i) l
noncomputable def NE.den (σ:List Nat):NE→Nat
 | .n i=>lget 0 σ i
 | .c k=>k
 | .a x y=>x.den σ+y.den σ
 | .m k x=>k*x.den σ
 | .p x k=>x.den σ*k
noncomputable def IE.den (ρ:List Int) (σ:List Nat):IE→Int
 | .v i=>lget 0 ρ i
 | .c k=>k
 | .a x y=>x.den ρ σ+y.den ρ σ
 | .s x y=>x.den ρ σ-y.den ρ σ
 | .m k x=>k*x.den ρ σ
 | .p x k=>x.den ρ σ*k
 | .g x=>- x.den ρ σ
 | .t x=>((x.den σ:Nat):Int)
noncomputable def LF.den (ρ:List Int) (σ:List Nat):LF→Prop
 | .l x y=>x.den ρ σ≤y.den ρ σ
 | .b x y=>x.den ρ σ<y.den ρ σ
 | .e x y=>x.den ρ σ=y.den ρ σ
 | .L x y=>x.den σ≤y.den σ
 | .B x y=>x.den σ<y.den σ
 | .E x y=>x.den σ=y.den σ
noncomputable def vcomb (k:Int) (x y:List Int):List Int:=List.rec (fun y=>y.map (k * ·)) (fun a ξ f y=>List.rec (a :: f []) (fun b y ξ=>(a+k*b) :: f y) y) x y
noncomputable def vdot (x ρ:List Int):Int:=List.rec (fun ξ=>0) (fun a ξ f ρ=>List.rec 0 (fun y q ξ=>a*y+f q) ρ) x ρ
structure Ls where
 c:Int
 i:List Int
 n:List Int
noncomputable def vone (i:Nat):List Int:=Nat.rec [1] (fun ξ r=>0 :: r) i
noncomputable def Ls.comb (k:Int) (x y:Ls):Ls:=⟨x.c+k*y.c,vcomb k x.i y.i,vcomb k x.n y.n⟩
noncomputable def Ls.zero:Ls:=⟨0,[],[]⟩
noncomputable def ncast (σ:List Nat):List Int:=σ.map fun (n:Nat)=>(n:Int)
noncomputable def Ls.den (ρ:List Int) (σ:List Nat) (x:Ls):Int:=x.c+(vdot x.i ρ+vdot x.n (ncast σ))
noncomputable def NE.ls:NE→Ls
 | .n i=>⟨0,[],vone i⟩
 | .c k=>⟨k,[],[]⟩
 | .a x y=>.comb 1 x.ls y.ls
 | .m k x=>.comb k .zero x.ls
 | .p x k=>.comb k .zero x.ls
noncomputable def IE.ls:IE→Ls
 | .v i=>⟨0,vone i,[]⟩
 | .c k=>⟨k,[],[]⟩
 | .a x y=>.comb 1 x.ls y.ls
 | .s x y=>.comb (-1) x.ls y.ls
 | .m k x=>.comb k .zero x.ls
 | .p x k=>.comb k .zero x.ls
 | .g x=>.comb (-1) .zero x.ls
 | .t x=>x.ls
noncomputable def LF.ls:LF→Ls×Int×Bool
 | .l x y=>(.comb (-1) y.ls x.ls,0,false)
 | .b x y=>(.comb (-1) y.ls x.ls,1,false)
 | .e x y=>(.comb (-1) y.ls x.ls,0,true)
 | .L x y=>(.comb (-1) y.ls x.ls,0,false)
 | .B x y=>(.comb (-1) y.ls x.ls,1,false)
 | .E x y=>(.comb (-1) y.ls x.ls,0,true)
noncomputable def lsum (fs:List LF) (ks:List Int):Ls×Int:=List.rec (fun ξ=>(.zero,0)) (fun f ξ r ks=>List.rec (.zero,0) (fun k ks ξ=>(.comb k (r ks).1 f.ls.1,(r ks).2+k*f.ls.2.1)) ks) fs ks
noncomputable def lpos (fs:List LF) (ks:List Int):Bool:=List.rec (fun ξ=>true) (fun f ξ r ks=>List.rec true (fun k ks ξ=>(f.ls.2.2 || decide (0≤k)) && r ks) ks) fs ks
noncomputable def lok (fs:List LF) (ks:List Int):Bool:=lpos fs ks && (decide ((lsum fs ks).1.c<(lsum fs ks).2) && ((lsum fs ks).1.i.all (fun x=>decide (x=0)) && (lsum fs ks).1.n.all (fun x=>decide (x≤0))))
noncomputable def LImp (ρ:List Int) (σ:List Nat) (P:Prop):List LF→Prop
 | []=>P
 | f :: fs=>f.den ρ σ→LImp ρ σ P fs
noncomputable def LAll (ρ:List Int) (σ:List Nat):List LF→Prop
 | []=>True
 | f :: fs=>f.den ρ σ∧LAll ρ σ fs

theorem vdot_nil (x:List Int):vdot x []=0:=by cases x <;> rfl
theorem vdot_one:∀(i:Nat) (ρ:List Int),vdot (vone i) ρ=lget 0 ρ i:=by
 intro i
 induction i with
 | zero=>intro ρ;cases ρ with
  | nil=>rfl
  | cons y q=>exact (Int.add_zero _).trans (Int.one_mul y)
 | succ i ih=>intro ρ;cases ρ with
  | nil=>rfl
  | cons y q=>exact (congrArg (0*y + ·) (ih q)).trans ((congrArg (· + _) (Int.zero_mul y)).trans (Int.zero_add _))
theorem vdot_map (k:Int):∀(x ρ:List Int),vdot (x.map (k * ·)) ρ=k*vdot x ρ:=by
 intro x
 induction x with
 | nil=>intro ρ;exact (Int.mul_zero k).symm
 | cons a r ih=>intro ρ;cases ρ with
  | nil=>exact (Int.mul_zero k).symm
  | cons y q=>exact (congrArg (k*a*y + ·) (ih q)).trans ((congrArg (· + _) (Int.mul_assoc k a y)).trans (Int.mul_add ..).symm)
theorem int_comb (a k b p q:Int):(a+k*b)+(p+k*q)=(a+p)+k*(b+q):=by rw[Int.mul_add];omega
theorem vdot_comb (k:Int):∀(x y ρ:List Int),vdot (vcomb k x y) ρ=vdot x ρ+k*vdot y ρ:=by
 intro x
 induction x with
 | nil=>intro y ρ;exact (vdot_map k y ρ).trans (Int.zero_add _).symm
 | cons a r ih=>intro y ρ;cases ρ with
  | nil=>rw[vdot_nil,vdot_nil,vdot_nil,Int.mul_zero];rfl
  | cons z q=>cases y with
   | nil =>
    show a*z+vdot (vcomb k r []) q=(a*z+vdot r q)+k*0
    rw[ih];show a*z+(vdot r q+k*0)=_;rw[Int.mul_zero,Int.add_zero,Int.add_zero]
   | cons b s =>
    show (a+k*b)*z+vdot (vcomb k r s) q=(a*z+vdot r q)+k*(b*z+vdot s q)
    rw[ih,Int.add_mul,Int.mul_assoc,int_comb]
section
variable (ρ:List Int) (σ:List Nat)
theorem Ls.den_comb (k:Int) (x y:Ls):(Ls.comb k x y).den ρ σ=x.den ρ σ+k*y.den ρ σ:=by
 show (x.c+k*y.c)+(vdot (vcomb k x.i y.i) ρ+vdot (vcomb k x.n y.n) (ncast σ))=_
 rw[vdot_comb,vdot_comb,int_comb,int_comb];rfl
theorem Ls.den_c (k:Int):(Ls.mk k [] []).den ρ σ=k:=Int.add_zero k
theorem Ls.den_zc (k:Int) (y:Ls):(Ls.comb k .zero y).den ρ σ=k*y.den ρ σ:=(Ls.den_comb ρ σ k .zero y).trans (Int.zero_add _)
theorem lget_cast:∀i,lget 0 (ncast σ) i=((lget 0 σ i:Nat):Int):=by
 induction σ with
 | nil=>intro i;rfl
 | cons y q ih=>intro i;cases i with
  | zero=>rfl
  | succ i=>exact ih i
theorem NE.ok (x:NE):x.ls.den ρ σ=((x.den σ:Nat):Int):=by
 induction x with
 | n i=>exact (Int.zero_add _).trans ((Int.zero_add _).trans ((vdot_one i _).trans (lget_cast σ i)))
 | c k=>exact Ls.den_c ρ σ k
 | a x y h1 h2=>exact (Ls.den_comb ρ σ 1 _ _).trans (by rw[h1,h2,Int.one_mul];rfl)
 | m k x h=>exact (Ls.den_zc ρ σ _ _).trans (by rw[h];rfl)
 | p x k h=>exact (Ls.den_zc ρ σ _ _).trans (by rw[h,Int.mul_comm];rfl)
theorem IE.ok (x:IE):x.ls.den ρ σ=x.den ρ σ:=by
 induction x with
 | v i=>exact (Int.zero_add _).trans ((Int.add_zero _).trans (vdot_one i ρ))
 | c k=>exact Ls.den_c ρ σ k
 | a x y h1 h2=>exact (Ls.den_comb ρ σ 1 _ _).trans (by rw[h1,h2,Int.one_mul];rfl)
 | s x y h1 h2=>exact (Ls.den_comb ρ σ (-1) _ _).trans (by rw[h1,h2,Int.neg_one_mul];rfl)
 | m k x h=>exact (Ls.den_zc ρ σ _ _).trans (by rw[h];rfl)
 | p x k h=>exact (Ls.den_zc ρ σ _ _).trans (by rw[h,Int.mul_comm];rfl)
 | g x h=>exact (Ls.den_zc ρ σ _ _).trans (by rw[h,Int.neg_one_mul];rfl)
 | t x=>exact NE.ok ρ σ x
noncomputable def LSay (s:Ls×Int×Bool):Prop:=s.2.1≤s.1.den ρ σ∧(s.2.2=true→s.1.den ρ σ=s.2.1)
theorem say_i {x y:IE}{k:Int} (h:x.den ρ σ+k≤y.den ρ σ):k≤(Ls.comb (-1) y.ls x.ls).den ρ σ:=by
 rw[Ls.den_comb,IE.ok,IE.ok,Int.neg_one_mul];exact Int.le_sub_left_of_add_le h
theorem say_n {x y:NE}{k:Int} (h:((x.den σ:Nat):Int)+k≤((y.den σ:Nat):Int)):k≤(Ls.comb (-1) y.ls x.ls).den ρ σ:=by
 rw[Ls.den_comb,NE.ok,NE.ok,Int.neg_one_mul];exact Int.le_sub_left_of_add_le h
theorem LF.ok (f:LF) (h:f.den ρ σ):LSay ρ σ f.ls:=by
 cases f with
 | l x y=>exact⟨say_i ρ σ (Int.le_trans (Int.le_of_eq (Int.add_zero _)) h),nofun⟩
 | b x y=>exact⟨say_i ρ σ h,nofun⟩
 | e x y=>exact⟨say_i ρ σ (Int.le_of_eq ((Int.add_zero _).trans h)),fun ξ=>by show (Ls.comb (-1) y.ls x.ls).den ρ σ=0;rw[Ls.den_comb,IE.ok,IE.ok,Int.neg_one_mul,show x.den ρ σ=_ from h];exact Int.add_right_neg _⟩
 | L x y=>exact⟨say_n ρ σ (Int.le_trans (Int.le_of_eq (Int.add_zero _)) (Int.ofNat_le.mpr h)),nofun⟩
 | B x y=>exact⟨say_n ρ σ (Int.ofNat_le.mpr h),nofun⟩
 | E x y=>exact⟨say_n ρ σ (Int.le_of_eq ((Int.add_zero _).trans (congrArg _ h))),fun ξ=>by show (Ls.comb (-1) y.ls x.ls).den ρ σ=0;rw[Ls.den_comb,NE.ok,NE.ok,Int.neg_one_mul,show x.den σ=_ from h];exact Int.add_right_neg _⟩
theorem lsum_ok:∀(fs:List LF) (ks:List Int),lpos fs ks=true→LAll ρ σ fs→(lsum fs ks).2≤(lsum fs ks).1.den ρ σ:=by
 intro fs
 induction fs with
 | nil=>intro ks _ _;exact Int.le_refl 0
 | cons f fs ih =>
  intro ks hp hd
  cases ks with
  | nil=>exact Int.le_refl 0
  | cons k ks =>
   have hp:=Bool.and_eq_true_iff.mp hp
   obtain⟨a,b⟩:=LF.ok ρ σ f hd.1
   refine Int.le_trans (Int.add_le_add (ih ks hp.2 hd.2) ?_) (Int.le_of_eq (Ls.den_comb ρ σ k _ _).symm)
   cases e:f.ls.2.2 with
   | true=>exact Int.le_of_eq (congrArg (k * ·) (b e).symm)
   | false=>exact Int.mul_le_mul_of_nonneg_left a (of_decide_eq_true ((Bool.or_eq_true_iff.mp hp.1).resolve_left fun q=>by rw[e] at q;cases q))
theorem vdot_zero:∀x ρ:List Int,x.all (fun x=>decide (x=0))=true→vdot x ρ=0:=by
 intro x
 induction x with
 | nil=>intro ρ _;rfl
 | cons a r ih=>intro ρ h;cases ρ with
  | nil=>rfl
  | cons y q =>
   have h:=Bool.and_eq_true_iff.mp h
   show a*y+vdot r q=0
   rw[ih q h.2,of_decide_eq_true h.1,Int.zero_mul];rfl
theorem vdot_neg:∀(x:List Int) (σ:List Nat),x.all (fun x=>decide (x≤0))=true→vdot x (ncast σ)≤0:=by
 intro x
 induction x with
 | nil=>intro σ _;exact Int.le_refl 0
 | cons a r ih=>intro σ h;cases σ with
  | nil=>exact Int.le_refl 0
  | cons y q =>
   have h:=Bool.and_eq_true_iff.mp h
   exact Int.add_nonpos (Int.mul_nonpos_of_nonpos_of_nonneg (of_decide_eq_true h.1) (Int.natCast_nonneg y)) (ih q h.2)
theorem lin_no (fs:List LF) (ks:List Int) (h:lok fs ks=true) (hd:LAll ρ σ fs):False:=by
 obtain⟨h1,h⟩:=Bool.and_eq_true_iff.mp h
 obtain⟨h2,h⟩:=Bool.and_eq_true_iff.mp h
 obtain⟨h3,h4⟩:=Bool.and_eq_true_iff.mp h
 have a:=lsum_ok ρ σ fs ks h1 hd
 refine Int.not_le.mpr (of_decide_eq_true h2) (Int.le_trans a ?_)
 show _+(vdot _ ρ+vdot _ (ncast σ))≤_
 rw[vdot_zero _ ρ h3,Int.zero_add]
 exact Int.le_trans (Int.add_le_add_left (vdot_neg _ σ h4) _) (Int.le_of_eq (Int.add_zero _))
theorem limp_of {P:Prop} (fs:List LF):(LAll ρ σ fs→P)→LImp ρ σ P fs:=by
 induction fs with
 | nil=>intro h;exact h trivial
 | cons f fs ih=>intro h hf;exact ih fun q=>h ⟨hf,q⟩
end
theorem lf (ρ:List Int) (σ:List Nat) (fs:List LF) (ks:List Int) (h:lok fs ks=true):LImp ρ σ False fs:=limp_of ρ σ fs (lin_no ρ σ fs ks h)
theorem la (ρ:List Int) (σ:List Nat) (x y:IE) (fs:List LF) (ks:List Int) (h:lok (.b y x :: fs) ks=true):LImp ρ σ (x.den ρ σ≤y.den ρ σ) fs:=limp_of ρ σ fs fun q=>Int.not_lt.mp fun n=>lin_no ρ σ _ ks h ⟨n,q⟩
theorem lb (ρ:List Int) (σ:List Nat) (x y:IE) (fs:List LF) (ks:List Int) (h:lok (.l y x :: fs) ks=true):LImp ρ σ (x.den ρ σ<y.den ρ σ) fs:=limp_of ρ σ fs fun q=>Int.not_le.mp fun n=>lin_no ρ σ _ ks h ⟨n,q⟩
theorem lA (ρ:List Int) (σ:List Nat) (x y:NE) (fs:List LF) (ks:List Int) (h:lok (.B y x :: fs) ks=true):LImp ρ σ (x.den σ≤y.den σ) fs:=limp_of ρ σ fs fun q=>Nat.not_lt.mp fun n=>lin_no ρ σ _ ks h ⟨n,q⟩
theorem lB (ρ:List Int) (σ:List Nat) (x y:NE) (fs:List LF) (ks:List Int) (h:lok (.L y x :: fs) ks=true):LImp ρ σ (x.den σ<y.den σ) fs:=limp_of ρ σ fs fun q=>Nat.not_le.mp fun n=>lin_no ρ σ _ ks h ⟨n,q⟩
theorem lq (ρ:List Int) (σ:List Nat) (x y:IE) (fs:List LF) (ks js:List Int) (h:(lok (.b x y :: fs) ks && lok (.b y x :: fs) js)=true):LImp ρ σ (x.den ρ σ=y.den ρ σ) fs:=limp_of ρ σ fs fun q =>
 have h:=Bool.and_eq_true_iff.mp h
 Int.le_antisymm (Int.not_lt.mp fun n=>lin_no ρ σ _ js h.2 ⟨n,q⟩) (Int.not_lt.mp fun n=>lin_no ρ σ _ ks h.1 ⟨n,q⟩)
theorem lQ (ρ:List Int) (σ:List Nat) (x y:NE) (fs:List LF) (ks js:List Int) (h:(lok (.B x y :: fs) ks && lok (.B y x :: fs) js)=true):LImp ρ σ (x.den σ=y.den σ) fs:=limp_of ρ σ fs fun q =>
 have h:=Bool.and_eq_true_iff.mp h
 Nat.le_antisymm (Nat.not_lt.mp fun n=>lin_no ρ σ _ js h.2 ⟨n,q⟩) (Nat.not_lt.mp fun n=>lin_no ρ σ _ ks h.1 ⟨n,q⟩)
theorem em0 {a:Int} (k:Int) (h:decide (0<k)=true):0≤a % k:=Int.emod_nonneg a (Int.ne_of_gt (of_decide_eq_true h))
theorem em1 {a:Int} (k:Int) (h:decide (0<k)=true):a % k<k:=Int.emod_lt_of_pos a (of_decide_eq_true h)
theorem ed0 {a:Int} (k:Int) (h:decide (0<k)=true):k*(a / k)≤a:=Int.mul_ediv_self_le (Int.ne_of_gt (of_decide_eq_true h))
theorem ed1 {a:Int} (k:Int) (h:decide (0<k)=true):a<k*(a / k)+k:=Int.lt_mul_ediv_self_add (of_decide_eq_true h)
theorem nd0 {a:Nat} (k:Nat):k*(a / k)≤a:=Nat.mul_div_le a k
theorem nd1 {a:Nat} (k:Nat) (h:decide (0<k)=true):a<k*(a / k)+k:=Nat.lt_mul_div_succ a (of_decide_eq_true h)
theorem tn0 {a:Int}:a≤(a.toNat:Int):=Int.self_le_toNat a
theorem tnE {a:Int} (h:0≤a):(a.toNat:Int)=a:=Int.toNat_of_nonneg h
theorem tnZ {a:Int} (h:a≤0):a.toNat=0:=Int.toNat_of_nonpos h
theorem ns0 {a b:Nat}:a-b≤a:=Nat.sub_le a b
theorem ns1 {a b:Nat}:a≤a-b+b:=Nat.sub_le_iff_le_add.mp (Nat.le_refl _)
theorem nsE {a b:Nat} (h:b≤a):a-b+b=a:=Nat.sub_add_cancel h
end
end Mine
end

section
namespace Mine
open PySem (Str Addr)
noncomputable section

set_option genCtorIdx true in
set_option genInjectivity true in
inductive V where
 | none
 | bool (b:Bool)
 | int (i:Int)
 | str (s:Str)
 | tup (vs:List V)
 | ref (a:Addr)
 | ro (xs:List Int)
 | exc (c:String)
 deriving Inhabited

set_option genCtorIdx true in
set_option genInjectivity true in
inductive Ob where
 | list (xs:List V)
 | dict (kvs:List (Int×V))
 deriving Inhabited

abbrev Hp:=Addr→Option Ob
noncomputable def Hp.set (H:Hp) (a:Addr) (o:Ob):Hp:=fun b=>if b=a then some o else H b
abbrev Loc:=List (Option V)

set_option genCtorIdx true in
inductive Op where
 | add | sub | mul | fdiv | mod | pow
set_option genCtorIdx true in
inductive BF where
 | len | min2 | max2 | abs | sum | sorted | list | int
set_option genCtorIdx true in
inductive Mt where
 | append | clear | count | get | pop | reverse | popD
 deriving DecidableEq
set_option genCtorIdx true in
inductive Cm where
 | eq | ne | lt | le | gt | ge | is | isNot | isIn | notIn
inductive Cn where
 | own (c:String) | int | bool | list | tuple | valueError
inductive Tg where
 | one (i:Nat) | two (i j:Nat)
set_option genCtorIdx true in
set_option genInjectivity true in
inductive It where
 | v (x:V) | p (x y:V)

mutual
inductive Ex where
 | none | bool (b:Bool) | int (i:Int) | str (s:String)
 | var (i:Nat)
 | glob (x:String) (n:Int)
 | bin (op:Op) (a b:Ex)
 | neg (a:Ex)
 | nt (a:Ex)
 | cmp (op:Cm) (a b:Ex)
 | cmp2 (o1 o2:Cm) (a b c:Ex)
 | bop (conj:Bool) (es:Exs)
 | list (es:Exs)
 | tup (es:Exs)
 | dict0
 | idx (e i:Ex)
 | rev (e:Ex)
 | call (f:String) (es:Exs)
 | bc (f:BF) (es:Exs)
 | mt (m:Mt) (o:Ex) (es:Exs)
 | isi (e:Ex) (cs:List Cn)
 | comp (elt:Ex) (t:Tg) (src:Sr)
 | compIf (elt:Ex) (t:Tg) (src:Sr) (c:Ex)
inductive Exs where
 | nil | cons (e:Ex) (r:Exs)
inductive Sr where
 | ex (e:Ex)
 | range1 (b:Ex) | range2 (a b:Ex) | range3 (a b c:Ex)
 | enum (s:Sr)
 | zip (a b:Ex)
end

mutual
inductive St where
 | asg (i:Nat) (e:Ex)
 | asg2 (i j:Nat) (e:Ex)
 | setIt (o i v:Ex)
 | ex (e:Ex)
 | ret (e:Ex)
 | ife (c:Ex) (a b:Sts)
 | whl (c:Ex) (b:Sts)
 | for (t:Tg) (s:Sr) (b:Sts)
 | raise (c:String) (msg:String)
 | tr (b:Sts) (hs:Hs)
 | pass
inductive Sts where
 | nil | cons (s:St) (r:Sts)
inductive Hs where
 | nil | cons (c:String) (x:Option Nat) (b:Sts) (r:Hs)
end

structure Gl where
 call:String→List V→(V→Hp→Prop)→(String→Hp→Prop)→Hp→Prop
 anc:String→List String

noncomputable def Lim:Nat:=16777216
noncomputable def Sm (x:Int):Prop:=-18446744073709551616<x∧x<18446744073709551616
noncomputable def Ix (x:Int):Prop:=-4611686018427387904<x∧x<4611686018427387904

noncomputable def vk {α:Sort 1} (x:V) (d:α) (n:α) (b:Bool→α) (i:Int→α) (t:List V→α) (r:Addr→α):α:=V.casesOn (motive_1:=fun ξ=>α) x n b i (fun ξ=>d) t r (fun ξ=>d) (fun ξ=>d)
noncomputable def int1 (x:V) (K:Int→Prop):Prop:=V.casesOn (motive_1:=fun ξ=>Prop) x False (fun ξ=>False) K (fun ξ=>False) (fun ξ=>False) (fun ξ=>False) (fun ξ=>False) (fun ξ=>False)
noncomputable def tup1 (x:V) (K:List V→Prop):Prop:=V.casesOn (motive_1:=fun ξ=>Prop) x False (fun ξ=>False) (fun ξ=>False) (fun ξ=>False) K (fun ξ=>False) (fun ξ=>False) (fun ξ=>False)
noncomputable def ref1 (x:V) (K:Addr→Prop):Prop:=V.casesOn (motive_1:=fun ξ=>Prop) x False (fun ξ=>False) (fun ξ=>False) (fun ξ=>False) (fun ξ=>False) K (fun ξ=>False) (fun ξ=>False)
noncomputable def one1 {α:Type} (l:List α) (K:α→Prop):Prop:=List.casesOn (motive:=fun ξ=>Prop) l False fun x r=>List.casesOn (motive:=fun ξ=>Prop) r (K x) fun ξ ξ=>False
noncomputable def two1 {α:Type} (l:List α) (K:α→α→Prop):Prop:=List.casesOn (motive:=fun ξ=>Prop) l False fun x r=>one1 r (K x)
noncomputable def ob1 {α:Sort 1} (o:Option Ob) (d:α) (K:List V→α) (D:List (Int×V)→α):α:=Option.casesOn (motive:=fun ξ=>α) o d fun b=>Ob.casesOn (motive:=fun ξ=>α) b K D
theorem int1_inv {x:V}{K:Int→Prop} (h:int1 x K):∃a,x=.int a∧K a:=by
 cases x with
 | int a=>exact⟨a,rfl,h⟩
 | _=>exact h.elim
theorem tup1_inv {x:V}{K:List V→Prop} (h:tup1 x K):∃a,x=.tup a∧K a:=by
 cases x with
 | tup a=>exact⟨a,rfl,h⟩
 | _=>exact h.elim
theorem ref1_inv {x:V}{K:Addr→Prop} (h:ref1 x K):∃a,x=.ref a∧K a:=by
 cases x with
 | ref a=>exact⟨a,rfl,h⟩
 | _=>exact h.elim
theorem one1_inv {α:Type}{l:List α}{K:α→Prop} (h:one1 l K):∃a,l=[a]∧K a:=by
 cases l with
 | nil=>exact h.elim
 | cons a r=>cases r with
  | nil=>exact⟨a,rfl,h⟩
  | cons _ _=>exact h.elim
theorem two1_inv {α:Type}{l:List α}{K:α→α→Prop} (h:two1 l K):∃a b,l=[a,b]∧K a b:=by
 cases l with
 | nil=>exact h.elim
 | cons a r=>obtain⟨b,rfl,h⟩:=one1_inv h;exact⟨a,b,rfl,h⟩
theorem ob1_inv {o:Option Ob}{K:List V→Prop}{D:List (Int×V)→Prop} (h:ob1 o False K D):(∃xs,o=some (.list xs)∧K xs)∨(∃kvs,o=some (.dict kvs)∧D kvs):=by
 cases o with
 | none=>exact h.elim
 | some b=>cases b with
  | list xs=>exact .inl ⟨xs,rfl,h⟩
  | dict kvs=>exact .inr ⟨kvs,rfl,h⟩
theorem list1_inv {o:Option Ob}{K:List V→Prop} (h:ob1 o False K fun ξ=>False):∃xs,o=some (.list xs)∧K xs:=(ob1_inv h).elim id fun h=>h.elim fun ξ h=>h.2.elim

noncomputable def vbN (y:V):Option Bool:=V.casesOn (motive_1:=fun ξ=>Option Bool) y (some true) (fun ξ=>some false) (fun ξ=>some false) (fun ξ=>some false) (fun ξ=>some false) (fun ξ=>none) (fun ξ=>none) (fun ξ=>none)
noncomputable def vbS (y:V) (b:Bool→Option Bool) (i:Int→Option Bool) (s:Str→Option Bool):Option Bool:=V.casesOn (motive_1:=fun ξ=>Option Bool) y (some false) b i s (fun ξ=>none) (fun ξ=>none) (fun ξ=>none) (fun ξ=>none)
noncomputable def vb (x y:V):Option Bool:=V.casesOn (motive_1:=fun ξ=>Option Bool) x (vbN y) (fun a=>vbS y (fun b=>some (a == b)) (fun ξ=>none) fun ξ=>none) (fun a=>vbS y (fun ξ=>none) (fun b=>some (decide (a=b))) fun ξ=>none)
 (fun a=>vbS y (fun ξ=>none) (fun ξ=>none) fun b=>some (decide (a=b))) (fun ξ=>vbS y (fun ξ=>none) (fun ξ=>none) fun ξ=>none) (fun ξ=>none) (fun ξ=>none) (fun ξ=>none)
noncomputable def oand (a b:Option Bool):Option Bool:=Option.casesOn (motive:=fun ξ=>Option Bool) a none fun a=>Option.casesOn (motive:=fun ξ=>Option Bool) b none fun b=>some (a && b)
noncomputable def oor (a b:Option Bool):Option Bool:=Option.casesOn (motive:=fun ξ=>Option Bool) a none fun a=>Option.casesOn (motive:=fun ξ=>Option Bool) b none fun b=>some (a || b)
theorem oand_inv {a b:Option Bool}{c:Bool} (h:oand a b=some c):∃p q,a=some p∧b=some q∧c=(p && q):=by
 cases a with
 | none=>cases h
 | some p=>cases b with
  | none=>cases h
  | some q=>exact⟨p,q,rfl,rfl,(Option.some.inj h).symm⟩
theorem oor_inv {a b:Option Bool}{c:Bool} (h:oor a b=some c):∃p q,a=some p∧b=some q∧c=(p || q):=by
 cases a with
 | none=>cases h
 | some p=>cases b with
  | none=>cases h
  | some q=>exact⟨p,q,rfl,rfl,(Option.some.inj h).symm⟩
noncomputable def allEq (f:V→V→Option Bool) (xs:List V):List V→Option Bool:=List.rec (motive:=fun ξ=>List V→Option Bool) (fun ys=>List.casesOn (motive:=fun ξ=>Option Bool) ys (some true) fun ξ ξ=>some false)
 (fun x ξ r ys=>List.casesOn (motive:=fun ξ=>Option Bool) ys (some false) fun y ys=>oand (f x y) (r ys)) xs
noncomputable def veq (n:Nat):Hp→V→V→Option Bool:=Nat.rec (motive:=fun ξ=>Hp→V→V→Option Bool) (fun ξ=>vb) (fun ξ f H x y=>V.casesOn (motive_1:=fun ξ=>Option Bool) x
  (V.casesOn (motive_1:=fun ξ=>Option Bool) y (vb x y) (fun ξ=>vb x y) (fun ξ=>vb x y) (fun ξ=>vb x y) (fun ξ=>vb x y) (fun a=>ob1 (H a) none (fun ξ=>some false) fun ξ=>none) (fun ξ=>none) (fun ξ=>none))
  (fun ξ=>vb x y) (fun ξ=>vb x y) (fun ξ=>vb x y)
  (fun xs=>V.casesOn (motive_1:=fun ξ=>Option Bool) y (vb x y) (fun ξ=>none) (fun ξ=>none) (fun ξ=>none) (fun ys=>allEq (f H) xs ys) (fun ξ=>none) (fun ξ=>none) (fun ξ=>none))
  (fun a=>V.casesOn (motive_1:=fun ξ=>Option Bool) y (ob1 (H a) none (fun ξ=>some false) fun ξ=>none) (fun ξ=>none) (fun ξ=>none) (fun ξ=>none) (fun ξ=>none) (fun b=>ob1 (H a) none (fun xs=>ob1 (H b) none (fun ys=>allEq (f H) xs ys) fun ξ=>none) fun ξ=>none) (fun ξ=>none) (fun ξ=>none))
  (fun ξ=>none) (fun ξ=>none)) n
abbrev eqFuel:Nat:=8

noncomputable def okH (w:List (Addr×Ob)) (H:Hp):Prop:=∀p∈w,H p.1=some p.2

noncomputable def newL (xs:List V) (Q:V→Hp→Prop) (H:Hp):Prop:=xs.length≤Lim∧∀a,H a=none→Q (.ref a) (H.set a (.list xs))

noncomputable def wadd (x y:V) (Q:V→Hp→Prop) (H:Hp):Prop:=vk x False False (fun ξ=>False) (fun a=>int1 y fun b=>Q (.int (a+b)) H) (fun ξ=>False)
 (fun a=>ref1 y fun b=>∃xs ys,H a=some (.list xs)∧H b=some (.list ys)∧newL (xs++ys) Q H)
noncomputable def wmul (x y:V) (Q:V→Hp→Prop) (H:Hp):Prop:=vk x False False (fun ξ=>False) (fun a=>int1 y fun b=>(Sm a∨Sm b)∧Q (.int (a*b)) H) (fun ξ=>False)
 (fun a=>int1 y fun n=>∃x,H a=some (.list [x])∧(Ix n∧n≤16777216)∧newL (List.replicate n.toNat x) Q H)
noncomputable def wbin (op:Op) (x y:V) (Q:V→Hp→Prop) (H:Hp):Prop:=Op.casesOn (motive:=fun ξ=>Prop) op
 (wadd x y Q H)
 (int1 x fun a=>int1 y fun b=>Q (.int (a-b)) H)
 (wmul x y Q H)
 (int1 x fun a=>int1 y fun b=>(0<b∧b<1073741824)∧Q (.int (a / b)) H)
 (int1 x fun a=>int1 y fun b=>0<b∧Q (.int (a % b)) H)
 (int1 x fun a=>int1 y fun b=>(0≤a∧a≤10∧0≤b∧b≤20)∧Q (.int (a ^ b.toNat)) H)

noncomputable def dget (k:Int):List (Int×V)→Option V
 | []=>none
 | (j,v) :: r=>if j=k then some v else dget k r
noncomputable def dset (k:Int) (v:V):List (Int×V)→List (Int×V)
 | []=>[(k,v)]
 | (j,x) :: r=>if j=k then (j,v) :: r else (j,x) :: dset k v r
noncomputable def inL (H:Hp) (x:V) (l:List V):Option Bool:=List.rec (motive:=fun ξ=>Option Bool) (some false) (fun y ξ r=>oor (veq eqFuel H y x) r) l
noncomputable def cntB (x y:V):Option Bool:=V.casesOn (motive_1:=fun ξ=>Option Bool) x none (fun a=>vk y none none (fun b=>some (b == a)) (fun ξ=>none) (fun ξ=>none) fun ξ=>none) (fun a=>vk y none none (fun ξ=>none) (fun b=>some (b == a)) (fun ξ=>none) fun ξ=>none)
 (fun ξ=>none) (fun ξ=>none) (fun ξ=>none) (fun ξ=>none) (fun ξ=>none)
noncomputable def cntL (x:V) (l:List V):Option Nat:=List.rec (motive:=fun ξ=>Option Nat) (some 0) (fun y ξ r=>Option.casesOn (motive:=fun ξ=>Option Nat) (cntB x y) none fun b=>Option.casesOn (motive:=fun ξ=>Option Nat) r none fun n=>some (if b then n+1 else n)) l

noncomputable def nonW (x y:V) (T F:Prop):Prop:=vk y False (vk x False T (fun ξ=>False) (fun ξ=>F) (fun ξ=>F) fun ξ=>F) (fun ξ=>False) (fun ξ=>False) (fun ξ=>False) fun ξ=>False
noncomputable def wcmp (op:Cm) (x y:V) (Q:Bool→Hp→Prop) (H:Hp):Prop:=Cm.casesOn (motive:=fun ξ=>Prop) op
 (∃b,veq eqFuel H x y=some b∧Q b H)
 (∃b,veq eqFuel H x y=some b∧Q (!b) H)
 (int1 x fun a=>int1 y fun b=>Q (decide (a<b)) H)
 (int1 x fun a=>int1 y fun b=>Q (decide (a≤b)) H)
 (int1 x fun a=>int1 y fun b=>Q (decide (b<a)) H)
 (int1 x fun a=>int1 y fun b=>Q (decide (b≤a)) H)
 (nonW x y (Q true H) (Q false H))
 (nonW x y (Q false H) (Q true H))
 (ref1 y fun a=>ob1 (H a) False (fun ys=>∃b,inL H x ys=some b∧Q b H) fun kvs=>int1 x fun k=>Q (dget k kvs).isSome H)
 (ref1 y fun a=>ob1 (H a) False (fun ys=>∃b,inL H x ys=some b∧Q (!b) H) fun kvs=>int1 x fun k=>Q (dget k kvs).isNone H)

noncomputable def place (i:Int) (n:Nat):Option Nat:=if 0≤i then (if i.toNat<n then some i.toNat else none) else (if 0≤i+n then some (i+n).toNat else none)

noncomputable def itW {α:Type} (xs:List α) (i:Int) (K:α→Prop):Prop:=∃j z,Ix i∧place i xs.length=some j∧xs[j]?=some z∧K z
noncomputable def widx (x y:V) (Q:V→Hp→Prop) (H:Hp):Prop:=int1 y fun i=>V.casesOn (motive_1:=fun ξ=>Prop) x False (fun ξ=>False) (fun ξ=>False) (fun ξ=>False) (fun xs=>itW xs i fun z=>Q z H)
 (fun a=>ob1 (H a) False (fun xs=>itW xs i fun z=>Q z H) fun kvs=>∃z,dget i kvs=some z∧Q z H) (fun xs=>itW xs i fun z=>Q (.int z) H) (fun ξ=>False)

noncomputable def intsOf:List V→Option (List Int)
 | []=>some []
 | .int i :: r=>(intsOf r).map (i :: ·)
 | _ :: _=>none
noncomputable def pairV (p:Int×Int):V:=.tup [.int p.1,.int p.2]

noncomputable def lenW (x:V) (Q:V→Hp→Prop) (H:Hp):Prop:=V.casesOn (motive_1:=fun ξ=>Prop) x False (fun ξ=>False) (fun ξ=>False) (fun ξ=>False) (fun xs=>Q (.int xs.length) H)
 (fun a=>ob1 (H a) False (fun xs=>Q (.int xs.length) H) fun kvs=>Q (.int kvs.length) H) (fun xs=>Q (.int xs.length) H) (fun ξ=>False)
noncomputable def sortW (o : Option Ob) (Q : V → Hp → Prop) (H : Hp) : Prop := ob1 o False
  (fun xs => xs.length < 64 ∧ ((∃ is, intsOf xs = some is ∧ ∀ js : List Int, js.Perm is → js.Pairwise (· ≤ ·) → newL (js.map V.int) Q H) ∨
        (∃ ps : List (Int × Int), xs = ps.map pairV ∧ (ps.map (·.1)).Nodup ∧ ∀ qs : List (Int × Int), qs.Perm ps → (qs.map (·.1)).Pairwise (· ≤ ·) → newL (qs.map pairV) Q H)))
  fun kvs => kvs.length < 64 ∧ ∀ js : List Int, js.Perm (kvs.map (·.1)) → js.Pairwise (· ≤ ·) → newL (js.map V.int) Q H
noncomputable def wbc (f:BF) (vs:List V) (Q:V→Hp→Prop) (H:Hp):Prop:=BF.casesOn (motive:=fun ξ=>Prop) f
 (one1 vs fun x=>lenW x Q H)
 (two1 vs fun x y=>int1 x fun a=>int1 y fun b=>Q (.int (if b<a then b else a)) H)
 False
 (one1 vs fun x=>int1 x fun a=>Q (.int (if a<0 then -a else a)) H)
 (one1 vs fun x=>ref1 x fun a=>∃xs is,H a=some (.list xs)∧intsOf xs=some is∧Q (.int is.sum) H)
 (one1 vs fun x=>ref1 x fun a=>sortW (H a) Q H)
 (one1 vs fun x=>ref1 x fun a=>∃xs,H a=some (.list xs)∧newL xs Q H)
 False

noncomputable def popW (a:Addr) (vs:List V) (Q:V→Hp→Prop) (H:Hp):Prop:=List.casesOn (motive:=fun ξ=>Prop) vs (∃xs x,H a=some (.list (xs++[x]))∧Q x (H.set a (.list xs)))
 fun y r=>List.casesOn (motive:=fun ξ=>Prop) r False fun ξ ξ=>False
noncomputable def nil1 {α:Type} (l:List α) (P:Prop):Prop:=List.casesOn (motive:=fun ξ=>Prop) l P fun ξ ξ=>False
noncomputable def wmt (m:Mt) (o:V) (vs:List V) (Q:V→Hp→Prop) (H:Hp):Prop:=ref1 o fun a=>Mt.casesOn (motive:=fun ξ=>Prop) m
 (one1 vs fun x=>∃xs,H a=some (.list xs)∧xs.length<Lim∧Q .none (H.set a (.list (xs++[x]))))
 False
 (one1 vs fun x=>∃xs n,H a=some (.list xs)∧cntL x xs=some n∧Q (.int n) H)
 (two1 vs fun k d=>int1 k fun k=>∃kvs,H a=some (.dict kvs)∧Q ((dget k kvs).getD d) H)
 (popW a vs Q H)
 (nil1 vs (∃xs,H a=some (.list xs)∧Q .none (H.set a (.list xs.reverse))))
 False
theorem nil1_inv {α:Type}{l:List α}{P:Prop} (h:nil1 l P):l=[]∧P:=by
 cases l with
 | nil=>exact⟨rfl,h⟩
 | cons _ _=>exact h.elim

noncomputable def recv (m:Mt) (x:V) (H:Hp):Prop:=ref1 x fun a=>ob1 (H a) False (fun ξ=>m≠.get∧m≠.popD) fun ξ=>m=.get∨m=.popD

noncomputable def kindB (H:Hp) (v:V) (n b i s t l d:Bool):Option Bool:=V.casesOn (motive_1:=fun ξ=>Option Bool) v (some n) (fun ξ=>some b) (fun ξ=>some i) (fun ξ=>some s) (fun ξ=>some t) (fun a=>ob1 (H a) none (fun ξ=>some l) fun ξ=>some d) (fun ξ=>none) (fun ξ=>none)
noncomputable def excB (v:V) (K:String→Bool):Option Bool:=V.casesOn (motive_1:=fun ξ=>Option Bool) v none (fun ξ=>none) (fun ξ=>none) (fun ξ=>none) (fun ξ=>none) (fun ξ=>none) (fun ξ=>none) (fun d=>some (K d))
noncomputable def isi1 (anc:String→List String) (H:Hp) (v:V) (c:Cn):Option Bool:=Cn.casesOn (motive:=fun ξ=>Option Bool) c
 (fun c=>excB v fun d=>(anc d).contains c)
 (kindB H v false true true false false false false)
 (kindB H v false true false false false false false)
 (kindB H v false false false false false true false)
 (kindB H v false false false false true false false)
 (excB v fun ξ=>true)
noncomputable def isiAny (anc:String→List String) (H:Hp) (v:V) (l:List Cn):Option Bool:=List.rec (motive:=fun ξ=>Option Bool) (some false) (fun c ξ r=>oor (isi1 anc H v c) r) l

noncomputable def bindT (t:Tg) (it:It) (ρ:Loc):Option Loc:=Tg.casesOn (motive:=fun ξ=>Option Loc) t
 (fun i=>It.casesOn (motive:=fun ξ=>Option Loc) it (fun x=>some (ρ.set i (some x))) fun ξ ξ=>none)
 fun i j=>It.casesOn (motive:=fun ξ=>Option Loc) it (fun v=>V.casesOn (motive_1:=fun ξ=>Option Loc) v none (fun ξ=>none) (fun ξ=>none) (fun ξ=>none)
  (fun vs=>List.casesOn (motive:=fun ξ=>Option Loc) vs none fun x r=>List.casesOn (motive:=fun ξ=>Option Loc) r none fun y q=>List.casesOn (motive:=fun ξ=>Option Loc) q (some ((ρ.set i (some x)).set j (some y))) fun ξ ξ=>none)
  (fun ξ=>none) (fun ξ=>none) fun ξ=>none) fun x y=>some ((ρ.set i (some x)).set j (some y))

noncomputable def forGo (t:Tg) (w:List (Addr×Ob)) (body:Loc→(Loc→Hp→Prop)→Hp→Prop):List It→Loc→(Loc→Hp→Prop)→Hp→Prop
 | [],ρ,N,H=>okH w H∧N ρ H
 | it :: its,ρ,N,H=>okH w H∧∃ρ',bindT t it ρ=some ρ'∧body ρ' (fun ρ'' H''=>forGo t w body its ρ'' N H'') H

noncomputable def compGo (t:Tg) (w:List (Addr×Ob)) (ρ:Loc) (elt:Loc→(V→Hp→Prop)→Hp→Prop) (test:Loc→(Bool→Hp→Prop)→Hp→Prop):List It→List V→(List V→Hp→Prop)→Hp→Prop
 | [],acc,Q,H=>okH w H∧Q acc H
 | it :: its,acc,Q,H=>okH w H∧acc.length<Lim∧∃ρ',bindT t it ρ=some ρ'∧test ρ' (fun b H₁=>if b then elt ρ' (fun v H₂=>compGo t w ρ elt test its (acc++[v]) Q H₂) H₁ else compGo t w ρ elt test its acc Q H₁) H

noncomputable def rangeL (lo st:Int) (n:Nat):List It:=(List.range n).map fun (k:Nat)=>It.v (.int (lo+(k:Int)*st))
noncomputable def enumL (k:Int):List It→Option (List It)
 | []=>some []
 | .v x :: r=>(enumL (k+1) r).map (It.p (.int k) x :: ·)
 | .p _ _ :: _=>none
noncomputable def zipL:List V→List V→List It
 | x :: xs,y :: ys=>It.p x y :: zipL xs ys
 | _,_=>[]

noncomputable def asB (Q:Bool→Hp→Prop) (v:V) (H:Hp):Prop:=V.casesOn (motive_1:=fun ξ=>Prop) v False (fun b=>Q b H) (fun ξ=>False) (fun ξ=>False) (fun ξ=>False) (fun ξ=>False) (fun ξ=>False) (fun ξ=>False)
theorem asB_inv {Q:Bool→Hp→Prop}{v:V}{H:Hp} (h:asB Q v H):∃b,v=.bool b∧Q b H:=by
 cases v with
 | bool b=>exact⟨b,rfl,h⟩
 | _=>exact h.elim
noncomputable def un2 (v:V) (K:V→V→Prop):Prop:=tup1 v fun l=>two1 l K
noncomputable def setW (z x y:V) (N:Hp→Prop) (H:Hp):Prop:=ref1 x fun a=>int1 y fun k=>ob1 (H a) False
 (fun xs=>(0≤k∧k<xs.length)∧N (H.set a (.list (xs.set k.toNat z)))) fun kvs=>kvs.length<Lim∧N (H.set a (.dict (dset k z kvs)))
abbrev SK:=List It→List (Addr×Ob)→Hp→Prop
noncomputable def srcW (v:V) (K:SK) (H:Hp):Prop:=ref1 v fun a=>ob1 (H a) False (fun xs=>K (xs.map It.v) [(a,.list xs)] H) fun ξ=>False
noncomputable def turns (lo hi st:Int):Nat:=if 0<st then ((hi-lo+st-1) / st).toNat else ((lo-hi-st-1) / (-st)).toNat

noncomputable def r1W (v:V) (K:SK) (H:Hp):Prop:=int1 v fun n=>Ix n∧K (rangeL 0 1 n.toNat) [] H
noncomputable def r2W (u v:V) (K:SK) (H:Hp):Prop:=int1 u fun m=>int1 v fun n=>Ix m∧Ix n∧K (rangeL m 1 (n-m).toNat) [] H
noncomputable def r3W (u v t:V) (K:SK) (H:Hp):Prop:=int1 u fun m=>int1 v fun n=>int1 t fun st=>Ix m∧Ix n∧Ix st∧st≠0∧K (rangeL m st (turns m n st)) [] H
noncomputable def zipW (u v:V) (K:SK) (H:Hp):Prop:=ref1 u fun p=>ref1 v fun q=>∃xs ys,H p=some (.list xs)∧H q=some (.list ys)∧K (zipL xs ys) [(p,.list xs),(q,.list ys)] H
noncomputable def varW (o:Option (Option V)) (K:V→Prop):Prop:=Option.casesOn (motive:=fun ξ=>Prop) o False fun o=>Option.casesOn (motive:=fun ξ=>Prop) o False K
theorem varW_inv {o:Option (Option V)}{K:V→Prop} (h:varW o K):∃v,o=some (some v)∧K v:=by
 cases o with
 | none=>exact h.elim
 | some o=>cases o with
  | none=>exact h.elim
  | some v=>exact⟨v,rfl,h⟩

noncomputable def hW (x:Option Nat) (a:Prop) (b:Nat→Prop):Prop:=Option.casesOn (motive:=fun ξ=>Prop) x a b
mutual
noncomputable def wpE (G:Gl) (hd:Bool):Ex→Loc→(V→Hp→Prop)→(String→Hp→Prop)→Hp→Prop
 | .none,_,Q,_,H=>Q .none H
 | .bool b,_,Q,_,H=>Q (.bool b) H
 | .int i,_,Q,_,H=>Q (.int i) H
 | .str s,_,Q,_,H=>Q (.str (Str.ofString s)) H
 | .var i,ρ,Q,_,H=>varW ρ[i]? fun v=>Q v H
 | .glob _ n,_,Q,_,H=>Q (.int n) H
 | .bin op a b,ρ,Q,X,H=>wpE G hd a ρ (fun x H₁=>wpE G hd b ρ (fun y H₂=>wbin op x y Q H₂) X H₁) X H
 | .neg a,ρ,Q,X,H=>wpE G hd a ρ (fun x H₁=>int1 x fun i=>Q (.int (-i)) H₁) X H
 | .nt a,ρ,Q,X,H=>wpE G hd a ρ (asB fun b H₁=>Q (.bool (!b)) H₁) X H
 | .cmp op a b,ρ,Q,X,H=>wpE G hd a ρ (fun x H₁=>wpE G hd b ρ (fun y H₂=>wcmp op x y (fun c H₃=>Q (.bool c) H₃) H₂) X H₁) X H
 | .cmp2 o1 o2 a b c,ρ,Q,X,H=>wpE G hd a ρ (fun x H₁=>wpE G hd b ρ (fun y H₂=>wcmp o1 x y (fun r H₃=>if r then wpE G hd c ρ (fun z H₄=>wcmp o2 y z (fun r' H₅=>Q (.bool r') H₅) H₄) X H₃ else Q (.bool false) H₃) H₂) X H₁) X H
 | .bop conj es,ρ,Q,X,H=>wpB G hd conj es ρ Q X H
 | .list es,ρ,Q,X,H=>wpEs G hd es ρ (fun vs H₁=>newL vs Q H₁) X H
 | .tup es,ρ,Q,X,H=>wpEs G hd es ρ (fun vs H₁=>vs.length≤Lim∧Q (.tup vs) H₁) X H
 | .dict0,_,Q,_,H=>∀a,H a=none→Q (.ref a) (H.set a (.dict []))
 | .idx e i,ρ,Q,X,H=>wpE G hd e ρ (fun x H₁=>wpE G hd i ρ (fun y H₂=>widx x y Q H₂) X H₁) X H
 | .rev e,ρ,Q,X,H=>wpE G hd e ρ (fun x H₁=>ref1 x fun a=>∃xs,H₁ a=some (.list xs)∧newL xs.reverse Q H₁) X H
 | .call f es,ρ,Q,X,H=>hd=false∧wpEs G hd es ρ (fun vs H₁=>G.call f vs Q X H₁) X H
 | .bc f es,ρ,Q,X,H=>hd=false∧wpEs G hd es ρ (fun vs H₁=>wbc f vs Q H₁) X H
 | .mt m o es,ρ,Q,X,H=>wpE G hd o ρ (fun x H₁=>recv m x H₁∧wpEs G hd es ρ (fun vs H₂=>wmt m x vs Q H₂) X H₁) X H
 | .isi e cs,ρ,Q,X,H=>wpE G hd e ρ (fun x H₁=>∃b,isiAny G.anc H₁ x cs=some b∧Q (.bool b) H₁) X H
 | .comp elt t src,ρ,Q,X,H=>hd=false∧wpSr G hd src ρ (fun its w H₁=>compGo t w ρ (fun ρ' K H₂=>wpE G hd elt ρ' K (fun ξ ξ=>False) H₂) (fun ξ K H₂=>K true H₂) its [] (fun vs H₂=>newL vs Q H₂) H₁) X H
 | .compIf elt t src c,ρ,Q,X,H=>hd=false∧wpSr G hd src ρ (fun its w H₁=>compGo t w ρ (fun ρ' K H₂=>wpE G hd elt ρ' K (fun ξ ξ=>False) H₂) (fun ρ' K H₂=>wpE G hd c ρ' (asB K) (fun ξ ξ=>False) H₂) its [] (fun vs H₂=>newL vs Q H₂) H₁) X H
noncomputable def wpEs (G:Gl) (hd:Bool):Exs→Loc→(List V→Hp→Prop)→(String→Hp→Prop)→Hp→Prop
 | .nil,_,Q,_,H=>Q [] H
 | .cons e r,ρ,Q,X,H=>wpE G hd e ρ (fun v H₁=>wpEs G hd r ρ (fun vs H₂=>Q (v :: vs) H₂) X H₁) X H
noncomputable def wpB (G:Gl) (hd:Bool) (conj:Bool):Exs→Loc→(V→Hp→Prop)→(String→Hp→Prop)→Hp→Prop
 | .nil,_,_,_,_=>False
 | .cons e r,ρ,Q,X,H=>match r with
  | .nil=>wpE G hd e ρ Q X H
  | r=>wpE G hd e ρ (asB fun b H₁=>if b=conj then wpB G hd conj r ρ Q X H₁ else Q (.bool b) H₁) X H
noncomputable def wpSr (G:Gl) (hd:Bool):Sr→Loc→(List It→List (Addr×Ob)→Hp→Prop)→(String→Hp→Prop)→Hp→Prop
 | .ex e,ρ,K,X,H=>wpE G hd e ρ (fun v H₁=>srcW v K H₁) X H
 | .range1 b,ρ,K,X,H=>wpE G hd b ρ (fun v H₁=>r1W v K H₁) X H
 | .range2 a b,ρ,K,X,H=>wpE G hd a ρ (fun u H₁=>wpE G hd b ρ (fun v H₂=>r2W u v K H₂) X H₁) X H
 | .range3 a b c,ρ,K,X,H=>wpE G hd a ρ (fun u H₁=>wpE G hd b ρ (fun v H₂=>wpE G hd c ρ (fun t H₃=>r3W u v t K H₃) X H₂) X H₁) X H
 | .enum s,ρ,K,X,H=>wpSr G hd s ρ (fun its w H₁=>∃js,enumL 0 its=some js∧K js w H₁) X H
 | .zip a b,ρ,K,X,H=>wpE G hd a ρ (fun u H₁=>wpE G hd b ρ (fun v H₂=>zipW u v K H₂) X H₁) X H
end

mutual
noncomputable def wpS (G:Gl) (hd:Bool):St→Loc→(Loc→Hp→Prop)→(V→Hp→Prop)→(String→Loc→Hp→Prop)→Hp→Prop
 | .asg i e,ρ,N,_,X,H=>wpE G hd e ρ (fun v H₁=>N (ρ.set i (some v)) H₁) (fun c H₁=>X c ρ H₁) H
 | .asg2 i j e,ρ,N,_,X,H=>hd=false∧wpE G hd e ρ (fun v H₁=>un2 v fun x y=>N ((ρ.set i (some x)).set j (some y)) H₁) (fun c H₁=>X c ρ H₁) H
 | .setIt o i v,ρ,N,_,X,H=>wpE G hd v ρ (fun z H₁=>wpE G hd o ρ (fun x H₂=>wpE G hd i ρ (fun y H₃=>setW z x y (fun H'=>N ρ H') H₃) (fun c H'=>X c ρ H') H₂) (fun c H'=>X c ρ H') H₁) (fun c H'=>X c ρ H') H
 | .ex e,ρ,N,_,X,H=>wpE G hd e ρ (fun ξ H₁=>N ρ H₁) (fun c H₁=>X c ρ H₁) H
 | .ret e,ρ,_,R,X,H=>wpE G hd e ρ (fun v H₁=>R v H₁) (fun c H₁=>X c ρ H₁) H
 | .ife c a b,ρ,N,R,X,H=>wpE G hd c ρ (asB fun r H₁=>if r then wpSs G hd a ρ N R X H₁ else wpSs G hd b ρ N R X H₁) (fun c H₁=>X c ρ H₁) H
 | .whl c b,ρ,N,R,X,H=>∀P:Loc→Hp→Prop,(∀ρ' H',wpE G hd c ρ' (asB fun r H₁=>if r then wpSs G hd b ρ' P R X H₁ else N ρ' H₁) (fun c H₁=>X c ρ' H₁) H'→P ρ' H')→P ρ H
 | .for t s b,ρ,N,R,X,H=>hd=false∧wpSr G hd s ρ (fun its w H₁=>forGo t w (fun ρ' K H₂=>wpSs G hd b ρ' K R X H₂) its ρ N H₁) (fun c H₁=>X c ρ H₁) H
 | .raise c _,ρ,_,_,X,H=>hd=false∧X c ρ H
 | .tr b hs,ρ,N,R,X,H=>hd=false∧wpSs G hd b ρ N R (fun c ρ₁ H₁=>wpHs G c hs ρ₁ N R (X c ρ₁ H₁) H₁) H
 | .pass,ρ,N,_,_,H=>N ρ H
noncomputable def wpSs (G:Gl) (hd:Bool):Sts→Loc→(Loc→Hp→Prop)→(V→Hp→Prop)→(String→Loc→Hp→Prop)→Hp→Prop
 | .nil,ρ,N,_,_,H=>N ρ H
 | .cons s r,ρ,N,R,X,H=>wpS G hd s ρ (fun ρ₁ H₁=>wpSs G hd r ρ₁ N R X H₁) R X H
noncomputable def wpHs (G:Gl) (c:String):Hs→Loc→(Loc→Hp→Prop)→(V→Hp→Prop)→Prop→Hp→Prop
 | .nil,_,_,_,no,_=>no
 | .cons d x b r,ρ,N,R,no,H=>if (G.anc c).contains d then hW x (wpSs G true b ρ N R (fun ξ ξ ξ=>False) H)
   (fun i=>wpSs G true b (ρ.set i (some (.exc c))) (fun ρ₁ H₁=>N (ρ₁.set i none) H₁) R (fun ξ ξ ξ=>False) H)
  else wpHs G c r ρ N R no H
end

structure Fn where
 params:Nat
 nf:Nat
 slots:List String
 body:Sts

noncomputable def callN (defs:String→Option Fn) (anc:String→List String):Nat→String→List V→(V→Hp→Prop)→(String→Hp→Prop)→Hp→Prop
 | 0,_,_,_,_,_=>False
 | n+1,f,vs,Q,X,H=>Option.casesOn (motive:=fun ξ=>Prop) (defs f) False
  fun d=>vs.length=d.params∧wpSs ⟨callN defs anc n,anc⟩ false d.body ((vs.map some)++List.replicate (d.slots.length-d.params) none) (fun ξ H₁=>Q .none H₁) Q (fun c ξ H₁=>X c H₁) H

end
theorem qE_none {G hd}{ρ Q X H}:wpE G hd (.none) ρ Q X H=(Q .none H):=rfl
theorem qE_bool {G hd}{b ρ Q X H}:wpE G hd (.bool b) ρ Q X H=(Q (.bool b) H):=rfl
theorem qE_int {G hd}{i ρ Q X H}:wpE G hd (.int i) ρ Q X H=(Q (.int i) H):=rfl
theorem qE_str {G hd}{s ρ Q X H}:wpE G hd (.str s) ρ Q X H=(Q (.str (Str.ofString s)) H):=rfl
theorem qE_var {G hd}{i ρ Q X H}:wpE G hd (.var i) ρ Q X H=(varW ρ[i]? fun v=>Q v H):=rfl
theorem qE_glob {G hd}{z0 n ρ Q X H}:wpE G hd (.glob z0 n) ρ Q X H=(Q (.int n) H):=rfl
theorem qE_bin {G hd}{op a b ρ Q X H}:wpE G hd (.bin op a b) ρ Q X H=(wpE G hd a ρ (fun x H₁=>wpE G hd b ρ (fun y H₂=>wbin op x y Q H₂) X H₁) X H):=rfl
theorem qE_neg {G hd}{a ρ Q X H}:wpE G hd (.neg a) ρ Q X H=(wpE G hd a ρ (fun x H₁=>int1 x fun i=>Q (.int (-i)) H₁) X H):=rfl
theorem qE_nt {G hd}{a ρ Q X H}:wpE G hd (.nt a) ρ Q X H=(wpE G hd a ρ (asB fun b H₁=>Q (.bool (!b)) H₁) X H):=rfl
theorem qE_cmp {G hd}{op a b ρ Q X H}:wpE G hd (.cmp op a b) ρ Q X H=(wpE G hd a ρ (fun x H₁=>wpE G hd b ρ (fun y H₂=>wcmp op x y (fun c H₃=>Q (.bool c) H₃) H₂) X H₁) X H):=rfl
theorem qE_cmp2 {G hd}{o1 o2 a b c ρ Q X H}:wpE G hd (.cmp2 o1 o2 a b c) ρ Q X H=(wpE G hd a ρ (fun x H₁=>wpE G hd b ρ (fun y H₂=>wcmp o1 x y (fun r H₃=>if r then wpE G hd c ρ (fun z H₄=>wcmp o2 y z (fun r' H₅=>Q (.bool r') H₅) H₄) X H₃ else Q (.bool false) H₃) H₂) X H₁) X H):=rfl
theorem qE_bop {G hd}{conj es ρ Q X H}:wpE G hd (.bop conj es) ρ Q X H=(wpB G hd conj es ρ Q X H):=rfl
theorem qE_list {G hd}{es ρ Q X H}:wpE G hd (.list es) ρ Q X H=(wpEs G hd es ρ (fun vs H₁=>newL vs Q H₁) X H):=rfl
theorem qE_tup {G hd}{es ρ Q X H}:wpE G hd (.tup es) ρ Q X H=(wpEs G hd es ρ (fun vs H₁=>vs.length≤Lim∧Q (.tup vs) H₁) X H):=rfl
theorem qE_dict0 {G hd}{ρ Q X H}:wpE G hd (.dict0) ρ Q X H=(∀a,H a=none→Q (.ref a) (H.set a (.dict []))):=rfl
theorem qE_idx {G hd}{e i ρ Q X H}:wpE G hd (.idx e i) ρ Q X H=(wpE G hd e ρ (fun x H₁=>wpE G hd i ρ (fun y H₂=>widx x y Q H₂) X H₁) X H):=rfl
theorem qE_rev {G hd}{e ρ Q X H}:wpE G hd (.rev e) ρ Q X H=(wpE G hd e ρ (fun x H₁=>ref1 x fun a=>∃xs,H₁ a=some (.list xs)∧newL xs.reverse Q H₁) X H):=rfl
theorem qE_call {G hd}{f es ρ Q X H}:wpE G hd (.call f es) ρ Q X H=(hd=false∧wpEs G hd es ρ (fun vs H₁=>G.call f vs Q X H₁) X H):=rfl
theorem qE_bc {G hd}{f es ρ Q X H}:wpE G hd (.bc f es) ρ Q X H=(hd=false∧wpEs G hd es ρ (fun vs H₁=>wbc f vs Q H₁) X H):=rfl
theorem qE_mt {G hd}{m o es ρ Q X H}:wpE G hd (.mt m o es) ρ Q X H=(wpE G hd o ρ (fun x H₁=>recv m x H₁∧wpEs G hd es ρ (fun vs H₂=>wmt m x vs Q H₂) X H₁) X H):=rfl
theorem qE_isi {G hd}{e cs ρ Q X H}:wpE G hd (.isi e cs) ρ Q X H=(wpE G hd e ρ (fun x H₁=>∃b,isiAny G.anc H₁ x cs=some b∧Q (.bool b) H₁) X H):=rfl
theorem qE_comp {G hd}{elt t src ρ Q X H}:wpE G hd (.comp elt t src) ρ Q X H=(hd=false∧wpSr G hd src ρ (fun its w H₁=>compGo t w ρ (fun ρ' K H₂=>wpE G hd elt ρ' K (fun ξ ξ=>False) H₂) (fun ξ K H₂=>K true H₂) its [] (fun vs H₂=>newL vs Q H₂) H₁) X H):=rfl
theorem qE_compIf {G hd}{elt t src c ρ Q X H}:wpE G hd (.compIf elt t src c) ρ Q X H=(hd=false∧wpSr G hd src ρ (fun its w H₁=>compGo t w ρ (fun ρ' K H₂=>wpE G hd elt ρ' K (fun ξ ξ=>False) H₂) (fun ρ' K H₂=>wpE G hd c ρ' (asB K) (fun ξ ξ=>False) H₂) its [] (fun vs H₂=>newL vs Q H₂) H₁) X H):=rfl
theorem qEs_nil {G hd}{ρ Q X H}:wpEs G hd (.nil) ρ Q X H=(Q [] H):=rfl
theorem qEs_cons {G hd}{e r ρ Q X H}:wpEs G hd (.cons e r) ρ Q X H=(wpE G hd e ρ (fun v H₁=>wpEs G hd r ρ (fun vs H₂=>Q (v :: vs) H₂) X H₁) X H):=rfl
theorem qB_nil {G hd conj}{ρ Q X H}:wpB G hd conj (.nil) ρ Q X H=(False):=rfl
theorem qB_one {G hd conj}{e ρ Q X H}:wpB G hd conj (.cons e .nil) ρ Q X H=wpE G hd e ρ Q X H:=rfl
theorem qB_more {G hd conj}{e f r ρ Q X H}:wpB G hd conj (.cons e (.cons f r)) ρ Q X H=wpE G hd e ρ (asB fun b H₁=>if b=conj then wpB G hd conj (.cons f r) ρ Q X H₁ else Q (.bool b) H₁) X H:=rfl
theorem qSr_ex {G hd}{e ρ K X H}:wpSr G hd (.ex e) ρ K X H=(wpE G hd e ρ (fun v H₁=>srcW v K H₁) X H):=rfl
theorem qSr_range1 {G hd}{b ρ K X H}:wpSr G hd (.range1 b) ρ K X H=(wpE G hd b ρ (fun v H₁=>r1W v K H₁) X H):=rfl
theorem qSr_range2 {G hd}{a b ρ K X H}:wpSr G hd (.range2 a b) ρ K X H=(wpE G hd a ρ (fun u H₁=>wpE G hd b ρ (fun v H₂=>r2W u v K H₂) X H₁) X H):=rfl
theorem qSr_range3 {G hd}{a b c ρ K X H}:wpSr G hd (.range3 a b c) ρ K X H=(wpE G hd a ρ (fun u H₁=>wpE G hd b ρ (fun v H₂=>wpE G hd c ρ (fun t H₃=>r3W u v t K H₃) X H₂) X H₁) X H):=rfl
theorem qSr_enum {G hd}{s ρ K X H}:wpSr G hd (.enum s) ρ K X H=(wpSr G hd s ρ (fun its w H₁=>∃js,enumL 0 its=some js∧K js w H₁) X H):=rfl
theorem qSr_zip {G hd}{a b ρ K X H}:wpSr G hd (.zip a b) ρ K X H=(wpE G hd a ρ (fun u H₁=>wpE G hd b ρ (fun v H₂=>zipW u v K H₂) X H₁) X H):=rfl
theorem qS_asg {G hd}{i e ρ N R X H}:wpS G hd (.asg i e) ρ N R X H=(wpE G hd e ρ (fun v H₁=>N (ρ.set i (some v)) H₁) (fun c H₁=>X c ρ H₁) H):=rfl
theorem qS_asg2 {G hd}{i j e ρ N R X H}:wpS G hd (.asg2 i j e) ρ N R X H=(hd=false∧wpE G hd e ρ (fun v H₁=>un2 v fun x y=>N ((ρ.set i (some x)).set j (some y)) H₁) (fun c H₁=>X c ρ H₁) H):=rfl
theorem qS_setIt {G hd}{o i v ρ N R X H}:wpS G hd (.setIt o i v) ρ N R X H=(wpE G hd v ρ (fun z H₁=>wpE G hd o ρ (fun x H₂=>wpE G hd i ρ (fun y H₃=>setW z x y (fun H'=>N ρ H') H₃) (fun c H'=>X c ρ H') H₂) (fun c H'=>X c ρ H') H₁) (fun c H'=>X c ρ H') H):=rfl
theorem qS_ex {G hd}{e ρ N R X H}:wpS G hd (.ex e) ρ N R X H=(wpE G hd e ρ (fun ξ H₁=>N ρ H₁) (fun c H₁=>X c ρ H₁) H):=rfl
theorem qS_ret {G hd}{e ρ N R X H}:wpS G hd (.ret e) ρ N R X H=(wpE G hd e ρ (fun v H₁=>R v H₁) (fun c H₁=>X c ρ H₁) H):=rfl
theorem qS_ife {G hd}{c a b ρ N R X H}:wpS G hd (.ife c a b) ρ N R X H=(wpE G hd c ρ (asB fun r H₁=>if r then wpSs G hd a ρ N R X H₁ else wpSs G hd b ρ N R X H₁) (fun c H₁=>X c ρ H₁) H):=rfl
theorem qS_whl {G hd}{c b ρ N R X H}:wpS G hd (.whl c b) ρ N R X H=(∀P:Loc→Hp→Prop,(∀ρ' H',wpE G hd c ρ' (asB fun r H₁=>if r then wpSs G hd b ρ' P R X H₁ else N ρ' H₁) (fun c H₁=>X c ρ' H₁) H'→P ρ' H')→P ρ H):=rfl
theorem qS_for {G hd}{t s b ρ N R X H}:wpS G hd (.for t s b) ρ N R X H=(hd=false∧wpSr G hd s ρ (fun its w H₁=>forGo t w (fun ρ' K H₂=>wpSs G hd b ρ' K R X H₂) its ρ N H₁) (fun c H₁=>X c ρ H₁) H):=rfl
theorem qS_raise {G hd}{c z0 ρ N R X H}:wpS G hd (.raise c z0) ρ N R X H=(hd=false∧X c ρ H):=rfl
theorem qS_tr {G hd}{b hs ρ N R X H}:wpS G hd (.tr b hs) ρ N R X H=(hd=false∧wpSs G hd b ρ N R (fun c ρ₁ H₁=>wpHs G c hs ρ₁ N R (X c ρ₁ H₁) H₁) H):=rfl
theorem qS_pass {G hd}{ρ N R X H}:wpS G hd (.pass) ρ N R X H=(N ρ H):=rfl
theorem qSs_nil {G hd}{ρ N R X H}:wpSs G hd (.nil) ρ N R X H=(N ρ H):=rfl
theorem qSs_cons {G hd}{s r ρ N R X H}:wpSs G hd (.cons s r) ρ N R X H=(wpS G hd s ρ (fun ρ₁ H₁=>wpSs G hd r ρ₁ N R X H₁) R X H):=rfl
theorem qHs_nil {G c}{ρ N R no H}:wpHs G c (.nil) ρ N R no H=(no):=rfl
theorem qHs_cons {G c}{d x b r ρ N R no H}:wpHs G c (.cons d x b r) ρ N R no H=(if (G.anc c).contains d then hW x (wpSs G true b ρ N R (fun ξ ξ ξ=>False) H)
   (fun i=>wpSs G true b (ρ.set i (some (.exc c))) (fun ρ₁ H₁=>N (ρ₁.set i none) H₁) R (fun ξ ξ ξ=>False) H)
  else wpHs G c r ρ N R no H):=rfl
end Mine
end

section
namespace Mine
theorem rangeL_succ (lo st:Int) (n:Nat):rangeL lo st (n+1)=It.v (.int lo) :: rangeL (lo+st) st n:=by
 unfold rangeL
 rw[List.range_succ_eq_map,List.map_cons,List.map_map]
 congr 1
 ·simp
 ·apply List.map_congr_left
  intro k _
  simp only[Function.comp,It.v.injEq,V.int.injEq]
  rw[Int.natCast_succ,Int.add_mul];exact lq [_,_,_] [] (.a (.v 0) (.a (.v 1) (.m 1 (.v 2)))) (.a (.a (.v 0) (.v 2)) (.v 1)) [] [1] [1] rfl
theorem enumL_range (a st:Int):∀(n:Nat) (k:Int),enumL k (rangeL a st n)=some ((List.range n).map fun (j:Nat)=>It.p (.int (k+j)) (.int (a+(j:Int)*st))):=by
 intro n
 induction n generalizing a with
 | zero=>intro k;rfl
 | succ n ih =>
  intro k
  rw[rangeL_succ,enumL,ih,Option.map_some,List.range_succ_eq_map,List.map_cons,List.map_map]
  congr 2
  ·simp
  ·apply List.map_congr_left
   intro j _
   simp only[Function.comp,It.p.injEq,V.int.injEq,Int.natCast_succ,Int.add_mul]
   constructor <;> (first | exact lq [_] [_] (.a (.a (.v 0) (.c 1)) (.t (.n 0))) (.a (.v 0) (.a (.t (.n 0)) (.c 1))) [] [1] [1] rfl | exact lq [_,_,_] [] (.a (.a (.v 0) (.v 1)) (.v 2)) (.a (.v 0) (.a (.v 2) (.m 1 (.v 1)))) [] [1] [1] rfl)
end Mine
end

section
namespace Mine
open PySem PySem.Calls PyProof.Rows

structure Wd where
 prog:Program
 w:World
 base:Heap
 s₀:Shared
 cls:String→Option Addr
 scr:Addr→Prop
abbrev Wd.z (W:Wd) (z:Addr→Prop):Wd:=⟨W.prog,W.w,W.base,W.s₀,W.cls,z⟩

structure Cx where
 A:Around
 env:Env
 fenvs:List Env
 names:List String
 vis:Nat→Bool
 own:List Addr
 outer:List (Addr×(Str→Option Value))
noncomputable def Cx.frs (c:Cx):List Addr:=c.fenvs.filterMap (·.frame)
noncomputable def Cx.all (c:Cx):List Addr:=c.own++c.frs++c.outer.map (·.1)

inductive ConsR {α:Type} (us:List α) (A:α→Prop) (B:List α→Prop):Prop
 | mk (x:α) (xs:List α) (hu:us=x :: xs) (a:A x) (b:B xs)
noncomputable def Ints (is:List Int):List Value→Prop:=List.rec (motive:=fun ξ=>List Value→Prop) (fun us=>us=[]) (fun i ξ r us=>ConsR us (fun u=>∃t,u=.int i t) r) is
theorem Ints.nil:Ints [] []:=rfl
theorem Ints.cons {i:Int}{t:Tok}{is:List Int}{vs:List Value} (h:Ints is vs):Ints (i :: is) (.int i t :: vs):=⟨_,_,rfl,⟨t,rfl⟩,h⟩
inductive TupR (W:Wd) (h:Heap) (u:Value) (k:Nat) (R:List Value→Prop):Prop
 | mk (a:Addr) (o:Obj) (items:Array Value) (n:Nat) (hu:u=.ref a) (e:h.get? a=some o) (c:o.cls=.type "tuple") (d:o.data=.seq items n) (l:k≤Lim) (r:R items.toList) (z:¬W.scr a)
inductive RoR (W:Wd) (u:Value) (xs:List Int):Prop
 | mk (a:Addr) (items:Array Value) (hu:u=.ref a) (b:W.base.IsList a items) (l:xs.length≤1000) (i:Ints xs items.toList)
inductive ExcR (W:Wd) (h:Heap) (u:Value) (c:String):Prop
 | mk (a C:Addr) (o:Obj) (ws:Array Value) (hu:u=.ref a) (e:h.get? a=some o) (k:o.cls=.ref C) (d:o.data=.fields ws) (q:W.cls c=some C)
noncomputable def Rep (W:Wd) (h:Heap) (v:V):Value→Prop:=V.rec (motive_1:=fun ξ=>Value→Prop) (motive_2:=fun ξ=>List Value→Prop)
 (fun u=>u=.none) (fun b u=>u=.bool b) (fun i u=>∃t,u=.int i t) (fun s u=>∃t,u=.str s t) (fun vs r u=>TupR W h u vs.length r) (fun a u=>u=.ref a) (fun xs u=>RoR W u xs) (fun c u=>ExcR W h u c)
 (fun us=>us=[]) (fun ξ ξ a b us=>ConsR us a b) v
noncomputable def Reps (W:Wd) (h:Heap) (l:List V):List Value→Prop:=List.rec (motive:=fun ξ=>List Value→Prop) (fun us=>us=[]) (fun v ξ r us=>ConsR us (Rep W h v) r) l
section
variable {W:Wd}{h:Heap}
theorem reps_eq (l:List V):V.rec_1 (motive_1:=fun ξ=>Value→Prop) (motive_2:=fun ξ=>List Value→Prop)
 (fun u=>u=.none) (fun b u=>u=.bool b) (fun i u=>∃t,u=.int i t) (fun s u=>∃t,u=.str s t) (fun vs r u=>TupR W h u vs.length r) (fun a u=>u=.ref a) (fun xs u=>RoR W u xs) (fun c u=>ExcR W h u c)
 (fun us=>us=[]) (fun ξ ξ a b us=>ConsR us a b) l=Reps W h l:=by
 induction l with
 | nil=>rfl
 | cons v l ih=>exact congrArg (fun r us=>ConsR us (Rep W h v) r) ih
theorem Rep.none:Rep W h .none .none:=rfl
theorem Rep.bool (b:Bool):Rep W h (.bool b) (.bool b):=rfl
theorem Rep.int (i:Int) (t:Tok):Rep W h (.int i) (.int i t):=⟨t,rfl⟩
theorem Rep.str (s:Str) (t:Tok):Rep W h (.str s) (.str s t):=⟨t,rfl⟩
theorem Rep.ref (a:Addr):Rep W h (.ref a) (.ref a):=rfl
theorem Rep.tup_iff {vs:List V}{u:Value}:Rep W h (.tup vs) u=TupR W h u vs.length (Reps W h vs):=congrArg (TupR W h u vs.length) (reps_eq vs)
theorem Rep.tup {a:Addr}{o:Obj}{items:Array Value}{n:Nat}{vs:List V} (e:h.get? a=some o) (c:o.cls=.type "tuple") (d:o.data=.seq items n) (l:vs.length≤Lim) (r:Reps W h vs items.toList) (z:¬W.scr a):Rep W h (.tup vs) (.ref a) :=
 Rep.tup_iff.mpr ⟨a,o,items,n,rfl,e,c,d,l,r,z⟩
theorem Rep.tupR {vs:List V}{u:Value} (r:Rep W h (.tup vs) u):TupR W h u vs.length (Reps W h vs):=Rep.tup_iff.mp r
theorem Rep.ro {a:Addr}{items:Array Value}{xs:List Int} (b:W.base.IsList a items) (l:xs.length≤1000) (i:Ints xs items.toList):Rep W h (.ro xs) (.ref a):=⟨a,items,rfl,b,l,i⟩
theorem Rep.exc {a C:Addr}{o:Obj}{ws:Array Value}{c:String} (e:h.get? a=some o) (k:o.cls=.ref C) (d:o.data=.fields ws) (q:W.cls c=some C):Rep W h (.exc c) (.ref a):=⟨a,C,o,ws,rfl,e,k,d,q⟩
theorem Reps.nil:Reps W h [] []:=rfl
theorem Reps.cons {v:V}{x:Value}{vs:List V}{xs:List Value} (a:Rep W h v x) (b:Reps W h vs xs):Reps W h (v :: vs) (x :: xs):=⟨x,xs,rfl,a,b⟩
end

structure KeepR (W:Wd) (h h':Heap):Prop where
 tup:∀b o items n,h.get? b=some o→o.cls=.type "tuple" → o.data=.seq items n→¬W.scr b→h'.get? b=some o
 exc:∀b o C ws,h.get? b=some o→o.cls=.ref C→o.data=.fields ws→∃o' ws',h'.get? b=some o'∧o'.cls=.ref C∧o'.data=.fields ws'

theorem KeepR.refl {W:Wd} (h:Heap):KeepR W h h:=⟨fun ξ ξ ξ ξ e ξ ξ ξ=>e,fun ξ o ξ ws e c d=>⟨o,ws,e,c,d⟩⟩
theorem KeepR.of_keeps {W:Wd}{h h':Heap} (k:∀b o,h.get? b=some o→h'.get? b=some o):KeepR W h h':=⟨fun b o ξ ξ e ξ ξ ξ=>k b o e,fun b o ξ ws e c d=>⟨o,ws,k b o e,c,d⟩⟩
theorem KeepR.trans {W:Wd}{h₁ h₂ h₃:Heap} (x:KeepR W h₁ h₂) (y:KeepR W h₂ h₃):KeepR W h₁ h₃ :=
 ⟨fun b o i n e c d z=>y.tup b o i n (x.tup b o i n e c d z) c d z,fun b o C ws e c d=>let ⟨o',ws',e',c',d'⟩:=x.exc b o C ws e c d;y.exc b o' C ws' e' c' d'⟩

theorem ConsR.imp {α:Type}{us:List α}{A A':α→Prop}{B B':List α→Prop} (r:ConsR us A B) (f:∀x,A x→A' x) (g:∀l,B l→B' l):ConsR us A' B':=by
 obtain⟨x,xs,e,a,b⟩:=r
 exact⟨x,xs,e,f x a,g xs b⟩
noncomputable def NotZ (W:Wd) (z:Addr→Prop) (h:Heap):Prop:=∀b o i n,h.get? b=some o→o.cls=.type "tuple" → o.data=.seq i n→¬W.scr b→¬z b
theorem NotZ.same {W:Wd}{h:Heap}:NotZ W W.scr h:=fun ξ ξ ξ ξ ξ ξ ξ q=>q
theorem reps_mono {W W':Wd}{h h':Heap}{l:List V} (k:∀v∈l,∀x,Rep W h v x→Rep W' h' v x):∀us,Reps W h l us→Reps W' h' l us:=by
 induction l with
 | nil=>intro us r;exact r
 | cons v l ih=>intro us r;exact r.imp (k v (.head _)) (ih fun w m=>k w (.tail _ m))
theorem Rep.monoZ {W:Wd}{z:Addr→Prop}{h h':Heap} (k:KeepR W h h') (hz:NotZ W z h) {v:V}:∀ {x:Value},Rep W h v x→Rep (W.z z) h' v x:=by
 refine V.rec (motive_1:=fun v=>∀ {x:Value},Rep W h v x→Rep (W.z z) h' v x) (motive_2:=fun l=>∀v∈l,∀x,Rep W h v x→Rep (W.z z) h' v x) ?_ ?_ ?_ ?_ ?_ ?_ ?_ ?_ ?_ ?_ v
 ·intro x r;exact r
 ·intro b x r;exact r
 ·intro b x r;exact r
 ·intro b x r;exact r
 ·intro vs ih x r
  obtain⟨a,o,items,n,rfl,e,c,d,l,q,z⟩:=r.tupR
  exact .tup (k.tup _ _ _ _ e c d z) c d l (reps_mono ih _ q) (hz _ _ _ _ e c d z)
 ·intro b x r;exact r
 ·intro b x ⟨a,i,hu,b',l,n⟩;exact⟨a,i,hu,b',l,n⟩
 ·intro c x r
  obtain⟨a,C,o,ws,rfl,e,c,d,q⟩:=r
  obtain⟨_,_,e',c',d'⟩:=k.exc _ _ _ _ e c d
  exact .exc e' c' d' q
 ·intro v m;cases m
 ·intro v l a b w m x r
  cases m with
  | head=>exact a r
  | tail _ m=>exact b w m x r
theorem Rep.mono {W:Wd}{h h':Heap} (k:KeepR W h h') {v:V}{x:Value} (r:Rep W h v x):Rep W h' v x:=Rep.monoZ (z:=W.scr) k .same r
theorem Reps.monoZ {W:Wd}{z:Addr→Prop}{h h':Heap} (k:KeepR W h h') (hz:NotZ W z h) {v:List V}{x:List Value} (r:Reps W h v x):Reps (W.z z) h' v x:=reps_mono (fun ξ ξ ξ r=>r.monoZ k hz) _ r
theorem Reps.mono {W:Wd}{h h':Heap} (k:KeepR W h h') {v:List V}{x:List Value} (r:Reps W h v x):Reps W h' v x:=reps_mono (fun ξ ξ ξ r=>r.mono k) _ r

theorem Reps.length {W:Wd}{h:Heap}{vs:List V}:∀ {xs:List Value},Reps W h vs xs→vs.length=xs.length:=by
 induction vs with
 | nil=>intro xs r;cases r;rfl
 | cons v vs ih=>intro us r;obtain⟨x,xs,rfl,a,b⟩:=r;exact congrArg (· + 1) (ih b)
theorem Reps.append {W:Wd}{h:Heap}{vs vs':List V}{xs':List Value}:∀ {xs:List Value},Reps W h vs xs→Reps W h vs' xs'→Reps W h (vs++vs') (xs++xs'):=by
 induction vs with
 | nil=>intro xs r r';cases r;exact r'
 | cons v vs ih=>intro us r r';obtain⟨x,xs,rfl,a,b⟩:=r;exact .cons a (ih b r')
theorem Reps.get {W:Wd}{h:Heap}{vs:List V}:∀ {xs:List Value}{i:Nat}{v:V},Reps W h vs xs→vs[i]?=some v→∃x,xs[i]?=some x∧Rep W h v x:=by
 induction vs with
 | nil=>intro xs i v r e;cases e
 | cons w vs ih =>
  intro us i v r e
  obtain⟨x,xs,rfl,a,b⟩:=r
  cases i with
  | zero=>cases e;exact⟨x,rfl,a⟩
  | succ i=>exact ih (xs:=xs) (i:=i) b e

noncomputable def RepKV (W:Wd) (h:Heap) (l:List (Int×V)):List (Int×Value)→Prop:=List.rec (motive:=fun ξ=>List (Int×Value)→Prop) (fun us=>us=[]) (fun p ξ r us=>ConsR us (fun u=>u.1=p.1∧Rep W h p.2 u.2) r) l
theorem RepKV.nil {W:Wd}{h:Heap}:RepKV W h [] []:=rfl
theorem RepKV.cons {W:Wd}{h:Heap}{k:Int}{v:V}{x:Value}{kvs:List (Int×V)}{ys:List (Int×Value)} (a:Rep W h v x) (b:RepKV W h kvs ys):RepKV W h ((k,v) :: kvs) ((k,x) :: ys):=⟨_,_,rfl,⟨rfl,a⟩,b⟩
theorem RepKV.monoZ {W:Wd}{z:Addr→Prop}{h h':Heap} (k:KeepR W h h') (hz:NotZ W z h) {v:List (Int×V)}:∀ {x:List (Int×Value)},RepKV W h v x→RepKV (W.z z) h' v x:=by
 induction v with
 | nil=>intro x r;exact r
 | cons p v ih=>intro x r;exact r.imp (fun u a=>⟨a.1,a.2.monoZ k hz⟩) fun l b=>ih b
theorem RepKV.mono {W:Wd}{h h':Heap} (k:KeepR W h h') {v:List (Int×V)}{x:List (Int×Value)} (r:RepKV W h v x):RepKV W h' v x:=RepKV.monoZ (z:=W.scr) k .same r

inductive ListR (W:Wd) (h:Heap) (a:Addr) (vs:List V):Prop
 | mk (l:vs.length≤Lim) (items:Array Value) (n:Nat) (g:h.get? a=some { cls:=.type "list",data:=.seq items n }) (r:Reps W h vs items.toList)
inductive DictR (W:Wd) (h:Heap) (a:Addr) (kvs:List (Int×V)):Prop
 | mk (l:kvs.length≤Lim∧(a == sysModules)=false) (ys:List (Int×Value)) (d:h.DictOf (intKind W.prog W.w) a ys) (r:RepKV W h kvs ys)
noncomputable def RepO (W:Wd) (h:Heap) (a:Addr) (o:Ob):Prop:=Ob.casesOn (motive:=fun ξ=>Prop) o (ListR W h a) (DictR W h a)

theorem RepO.obj {W:Wd}{h:Heap}{a:Addr}{o:Ob} (r:RepO W h a o):∃ob,h.get? a=some ob∧(ob.cls=.type "list" ∨ ob.cls=.type "dict")∧(∀v,ob.data≠.cell v):=by
 cases o with
 | list vs=>obtain⟨_,items,n,e,_⟩:=r;exact⟨_,e,.inl rfl,fun v q=>by cases q⟩
 | dict kvs=>obtain⟨_,ys,⟨o,es,ep,e,x,d,_⟩,_⟩:=r;exact⟨o,e,.inr x.1,fun v q=>by rw[d] at q;cases q⟩

theorem RepO.atZ {W:Wd}{z:Addr→Prop}{h h':Heap}{a:Addr}{o:Ob} (r:RepO W h a o) (k:KeepR W h h') (hz:NotZ W z h) (e:∀ob,h.get? a=some ob→h'.get? a=some ob):RepO (W.z z) h' a o:=by
 cases o with
 | list vs=>obtain⟨l,items,n,q,r⟩:=r;exact⟨l,items,n,e _ q,r.monoZ k hz⟩
 | dict kvs=>obtain⟨l,ys,⟨o,es,ep,q,x⟩,r⟩:=r;exact⟨l,ys,⟨o,es,ep,e _ q,x⟩,r.monoZ k hz⟩
theorem RepO.at {W:Wd}{h h':Heap}{a:Addr}{o:Ob} (r:RepO W h a o) (k:KeepR W h h') (e:∀ob,h.get? a=some ob→h'.get? a=some ob):RepO W h' a o:=r.atZ (z:=W.scr) k .same e

inductive HasVar (W:Wd) (env:Env) (h:Heap) (m:Str→Option Value) (x:Str) (v:V):Prop
 | loc (k:env.kindOf x=some .local) (u:Value) (e:m x=some u) (r:Rep W h v u)
 | cel (k:env.kindOf x=some .cell) (cl:Addr) (o:Obj) (u:Value) (e:env.cells.lookup x=some cl) (ho:h.get? cl=some o) (hd:o.data=.cell (some u)) (r:Rep W h v u)

inductive LocOk (W:Wd) (c:Cx) (ρ:Loc) (h:Heap):Prop
 | mk (m:Str→Option Value) (n:h.Ns c.env.locals m) (v:∀i x v,c.vis i=true→c.names[i]?=some x→ρ[i]?=some (some v)→HasVar W c.env h m (Str.ofString x) v)

inductive TupAt (h:Heap) (b:Addr):Prop
 | mk (o:Obj) (items:Array Value) (n:Nat) (e:h.get? b=some o) (c:o.cls=.type "tuple") (d:o.data=.seq items n)
theorem TupAt.at {h h':Heap}{b:Addr} (t:TupAt h b) (k:∀o,h.get? b=some o→o.cls=.type "tuple" → (∃i n,o.data=.seq i n)→h'.get? b=some o):TupAt h' b:=by
 obtain⟨o,i,n,e,c,d⟩:=t;exact⟨o,i,n,k o e c ⟨i,n,d⟩,c,d⟩
structure Sim (W:Wd) (c:Cx) (P:Addr→Obj→Prop) (ρ:Loc) (H:Hp) (s:Shared):Prop where
 rest:∃h tk,s={ W.s₀ with heap:=h,toks:=tk }
 base:W.base.StaysIn s.heap
 frames:s.heap.FunFrames W.base c.fenvs
 outer:∀p∈c.outer,s.heap.Ns p.1 p.2
 loc:LocOk W c ρ s.heap
 locOwn:c.env.locals∈c.own
 ownNew:∀b∈c.own,W.base.get? b=none
 ownOut:∀b∈c.own,∀p∈c.outer,p.1≠b
 heap:∀a o,H a=some o→RepO W s.heap a o
 new:∀a o,H a=some o→W.base.get? a=none
 apart:∀a o,H a=some o→a∉c.all
 prot:∀b o,P b o→s.heap.get? b=some o
 protH:∀b o,P b o→H b=none
 protF:∀b o,P b o→b∉c.own∧b∉c.frs
 cells:∀x a,c.env.cells.lookup x=some a→∃u,s.heap.IsCell a u
 ownD:∀b,b∈c.own∨b∈c.frs→∃o,s.heap.get? b=some o∧((∃es n,o.data=.dict es n)∨(∃v,o.data=.cell v))
 scr:∀b,W.scr b→TupAt s.heap b

theorem Sim.weaken {W:Wd}{c:Cx}{P P':Addr→Obj→Prop}{ρ:Loc}{H:Hp}{s:Shared} (S:Sim W c P' ρ H s) (k:∀b o,P b o→P' b o):Sim W c P ρ H s :=
 { S with prot:=fun b o p=>S.prot b o (k b o p),protH:=fun b o p=>S.protH b o (k b o p),protF:=fun b o p=>S.protF b o (k b o p) }

noncomputable def PMax (c:Cx) (H:Hp) (h:Heap):Addr→Obj→Prop:=fun b o=>h.get? b=some o∧H b=none∧b∉c.own∧b∉c.frs

theorem Sim.max {W:Wd}{c:Cx}{P:Addr→Obj→Prop}{ρ:Loc}{H:Hp}{s:Shared} (S:Sim W c P ρ H s):Sim W c (PMax c H s.heap) ρ H s :=
 { S with prot:=fun ξ ξ p=>p.1,protH:=fun ξ ξ p=>p.2.1,protF:=fun ξ ξ p=>p.2.2 }
theorem Sim.le_max {W:Wd}{c:Cx}{P:Addr→Obj→Prop}{ρ:Loc}{H:Hp}{s:Shared} (S:Sim W c P ρ H s) (b:Addr) (o:Obj) (p:P b o):PMax c H s.heap b o :=
 ⟨S.prot b o p,S.protH b o p,S.protF b o p⟩

theorem Sim.keepR {W:Wd}{c:Cx}{P:Addr→Obj→Prop}{ρ ρ':Loc}{H H':Hp}{s s':Shared} (S:Sim W c P ρ H s) (S':Sim W c (PMax c H s.heap) ρ' H' s'):KeepR W s.heap s'.heap:=by
 have nH:∀b o,s.heap.get? b=some o→o.cls≠.type "list" → o.cls≠.type "dict" → H b=none:=fun b o e h1 h2=>by
  cases q:H b with
  | none=>rfl
  | some x =>
   obtain⟨ob,e',k,_⟩:=(S.heap b x q).obj
   rw[e] at e';cases e'
   rcases k with k | k
   ·exact absurd k h1
   ·exact absurd k h2
 refine⟨fun b o items n e k d ξ=>S'.prot b o ⟨e,nH b o e (by rw[k];decide) (by rw[k];decide),fun m=>?_,fun m=>?_⟩,fun b o C ws e k d=>⟨o,ws,S'.prot b o ⟨e,nH b o e (by rw[k];exact nofun) (by rw[k];exact nofun),fun m=>?_,fun m=>?_⟩,k,d⟩⟩
 all_goals (obtain⟨o',e',q⟩:=S.ownD b (by first | exact .inl m | exact .inr m);rw[e] at e';cases e';rcases q with ⟨_,_,q⟩ | ⟨_,q⟩ <;> rw[d] at q <;> cases q)

theorem funFrames_at {base h h':Heap}:∀ {l:List Env},h.FunFrames base l→(∀b∈l.filterMap (·.frame),∀o,h.get? b=some o→(∀vs,o.data≠.fields vs)→∃o',h'.get? b=some o'∧∀vs,o'.data≠.fields vs)→h'.FunFrames base l
 | [],_,_=>trivial
 | env :: r,⟨hk,⟨L,o,hf,hn,ho,hd⟩,hr⟩,k=>by
  have hm:∀b,b∈r.filterMap (·.frame)→b∈(env :: r).filterMap (·.frame):=fun b hb=>by rw[List.filterMap_cons,hf];exact .tail _ hb
  obtain⟨o',e,q⟩:=k L (by rw[List.filterMap_cons,hf];exact .head _) o ho hd
  exact⟨hk,⟨L,o',hf,hn,e,q⟩,funFrames_at hr fun b hb=>k b (hm b hb)⟩

theorem HasVar.monoZ {W:Wd}{z:Addr→Prop}{env:Env}{h h':Heap}{m:Str→Option Value}{x:Str}{v:V} (hv:HasVar W env h m x v) (kr:KeepR W h h') (hz:NotZ W z h)
  (kc:∀cl o u,env.cells.lookup x=some cl→h.get? cl=some o→o.data=.cell (some u)→∃o',h'.get? cl=some o'∧o'.data=o.data):HasVar (W.z z) env h' m x v:=by
 rcases hv with ⟨k,u,e,r⟩ | ⟨k,cl,o,u,e,ho,hd,r⟩
 ·exact .loc k u e (r.monoZ kr hz)
 ·obtain⟨o',ho',hd'⟩:=kc cl o u e ho hd
  exact .cel k cl o' u e ho' (hd'.trans hd) (r.monoZ kr hz)
theorem HasVar.mono {W:Wd}{env:Env}{h h':Heap}{m:Str→Option Value}{x:Str}{v:V} (hv:HasVar W env h m x v) (kr:KeepR W h h')
  (kc:∀cl o u,env.cells.lookup x=some cl→h.get? cl=some o→o.data=.cell (some u)→∃o',h'.get? cl=some o'∧o'.data=o.data):HasVar W env h' m x v:=hv.monoZ (z:=W.scr) kr .same kc

theorem Cx.mem_all_own {c:Cx}{b:Addr} (h:b∈c.own):b∈c.all:=by simp only[Cx.all,List.mem_append];exact .inl (.inl h)
theorem Cx.mem_all_frs {c:Cx}{b:Addr} (h:b∈c.frs):b∈c.all:=by simp only[Cx.all,List.mem_append];exact .inl (.inr h)
theorem Cx.mem_all_outer {c:Cx}{p:Addr×(Str→Option Value)} (h:p∈c.outer):p.1∈c.all:=by simp only[Cx.all,List.mem_append];exact .inr (List.mem_map_of_mem h)

theorem Sim.change {W:Wd}{c:Cx}{P:Addr→Obj→Prop}{ρ:Loc}{H H':Hp}{s:Shared}{h':Heap}{tk:Nat} (S:Sim W c P ρ H s) (d:Addr)
  (hd:∀o,s.heap.get? d=some o→o.cls≠.type "tuple" ∧ (∀C,o.cls≠.ref C)∧(∀v,o.data≠.cell v))
  (hnew:W.base.get? d=none) (hall:d∉c.all) (hP:∀o,¬P d o)
  (hk:∀b o,b≠d→s.heap.get? b=some o→h'.get? b=some o)
  (hH:∀b,b≠d→H' b=H b) (hO:∀o,H' d=some o→RepO W h' d o):Sim W c P ρ H' { s with heap:=h',toks:=tk }:=by
 have kr:KeepR W s.heap h':=⟨fun b o ξ ξ e k ξ ξ=>hk b o (by rintro rfl;exact (hd o e).1 k) e,fun b o C ws e k q=>⟨o,ws,hk b o (by rintro rfl;exact (hd o e).2.1 C k) e,k,q⟩⟩
 have hne:∀b,b∈c.all→b≠d:=fun b hb q=>hall (q▸hb)
 have hloc:d≠c.env.locals:=fun q=>hall (q▸Cx.mem_all_own S.locOwn)
 refine⟨?_,fun b o e=>hk b o (by rintro rfl;rw[hnew] at e;cases e) (S.base b o e),funFrames_at S.frames fun b hb o e d=>⟨o,hk b o (hne b (Cx.mem_all_frs hb)) e,d⟩,fun p hp=>?_,?_,S.locOwn,S.ownNew,S.ownOut,
  fun a o e=>?_,fun a o e=>?_,fun a o e=>?_,fun b o p=>hk b o (by rintro rfl;exact hP o p) (S.prot b o p),fun b o p=>?_,S.protF,fun x a e=>?_,fun b hb=>?_,fun b hb=>(S.scr b hb).at fun o e k ξ=>hk b o (by rintro rfl;exact (hd o e).1 k) e⟩
 ·obtain⟨h,tk',rfl⟩:=S.rest;exact⟨h',tk,rfl⟩
 ·obtain⟨o,es,ep,e,r⟩:=S.outer p hp
  exact⟨o,es,ep,hk _ _ (hne _ (Cx.mem_all_outer hp)) e,r⟩
 ·obtain⟨m,⟨o,es,ep,e,r⟩,hv⟩:=S.loc
  refine⟨m,⟨o,es,ep,hk _ _ (Ne.symm hloc) e,r⟩,fun i x v h1 h2 h3=>(hv i x v h1 h2 h3).mono kr fun cl o u ξ ho hq=>⟨o,hk _ _ (by rintro rfl;exact (hd o ho).2.2 _ hq) ho,rfl⟩⟩
 ·by_cases q:a=d
  ·subst q;exact hO o e
  ·rw[hH a q] at e;exact (S.heap a o e).at kr fun ob h=>hk a ob q h
 ·by_cases q:a=d
  ·subst q;exact hnew
  ·rw[hH a q] at e;exact S.new a o e
 ·by_cases q:a=d
  ·subst q;exact hall
  ·rw[hH a q] at e;exact S.apart a o e
 ·have q:b≠d:=by rintro rfl;exact hP o p
  rw[hH b q];exact S.protH b o p
 ·obtain⟨u,o,e1,e2⟩:=S.cells x a e
  exact⟨u,o,hk a o (by rintro rfl;exact (hd o e1).2.2 _ e2) e1,e2⟩
 ·obtain⟨o,e,q⟩:=S.ownD b hb
  exact⟨o,hk b o (hne b (hb.elim Cx.mem_all_own Cx.mem_all_frs)) e,q⟩

theorem Sim.growZ {W:Wd}{c:Cx}{P:Addr→Obj→Prop}{ρ:Loc}{H:Hp}{s:Shared}{h':Heap}{tk:Nat}{z:Addr→Prop} (S:Sim W c P ρ H s) (hz:NotZ W z s.heap) (ht:∀b,z b→TupAt h' b) (hk:∀b o,s.heap.get? b=some o→h'.get? b=some o):Sim (W.z z) c P ρ H { s with heap:=h',toks:=tk }:=by
 have kr:KeepR W s.heap h':=.of_keeps hk
 refine⟨?_,fun b o e=>hk b o (S.base b o e),funFrames_at S.frames fun b hb o e d=>⟨o,hk b o e,d⟩,fun p hp=>?_,?_,S.locOwn,S.ownNew,S.ownOut,
  fun a o e=>(S.heap a o e).atZ kr hz fun ob h=>hk a ob h,S.new,S.apart,fun b o p=>hk b o (S.prot b o p),S.protH,S.protF,fun x a e=>?_,fun b hb=>?_,ht⟩
 ·obtain⟨h,tk',rfl⟩:=S.rest;exact⟨h',tk,rfl⟩
 ·obtain⟨o,es,ep,e,r⟩:=S.outer p hp;exact⟨o,es,ep,hk _ _ e,r⟩
 ·obtain⟨m,⟨o,es,ep,e,r⟩,hv⟩:=S.loc
  exact⟨m,⟨o,es,ep,hk _ _ e,r⟩,fun i x v h1 h2 h3=>(hv i x v h1 h2 h3).monoZ kr hz fun cl o u ξ ho hq=>⟨o,hk _ _ ho,rfl⟩⟩
 ·obtain⟨u,o,e1,e2⟩:=S.cells x a e;exact⟨u,o,hk a o e1,e2⟩
 ·obtain⟨o,e,q⟩:=S.ownD b hb;exact⟨o,hk b o e,q⟩
theorem Sim.grow {W:Wd}{c:Cx}{P:Addr→Obj→Prop}{ρ:Loc}{H:Hp}{s:Shared}{h':Heap}{tk:Nat} (S:Sim W c P ρ H s) (hk:∀b o,s.heap.get? b=some o→h'.get? b=some o):Sim W c P ρ H { s with heap:=h',toks:=tk } :=
 S.growZ (z:=W.scr) .same (fun b hb=>(S.scr b hb).at fun o e ξ ξ=>hk b o e) hk
theorem Sim.down {W:Wd}{c:Cx}{P:Addr→Obj→Prop}{ρ:Loc}{H:Hp}{s:Shared}{z:Addr→Prop} (hz:∀b,W.scr b→z b) (S:Sim (W.z z) c P ρ H s):Sim W c P ρ H s :=
 S.growZ (z:=W.scr) (h':=s.heap) (tk:=s.toks) (fun ξ ξ ξ ξ ξ ξ ξ q w=>q (hz _ w)) (fun b hb=>S.scr b (hz b hb)) fun ξ ξ e=>e
theorem Sim.toks {W:Wd}{c:Cx}{P:Addr→Obj→Prop}{ρ:Loc}{H:Hp}{s:Shared} (S:Sim W c P ρ H s) (tk:Nat):Sim W c P ρ H { s with toks:=tk }:=S.grow fun ξ ξ e=>e

theorem size_none (h:Heap):h.get? h.objs.size=none:=by
 cases q:h.get? h.objs.size with
 | none=>rfl
 | some o=>exact absurd (Heap.lt_size q) (Nat.lt_irrefl _)
theorem Sim.hsize {W:Wd}{c:Cx}{P:Addr→Obj→Prop}{ρ:Loc}{H:Hp}{s:Shared} (S:Sim W c P ρ H s) {a:Addr} (h:s.heap.get? a=none):H a=none:=by
 cases q:H a with
 | none=>rfl
 | some o=>obtain⟨ob,e,_⟩:=(S.heap a o q).obj;rw[h] at e;cases e
theorem Sim.all_there {W:Wd}{c:Cx}{P:Addr→Obj→Prop}{ρ:Loc}{H:Hp}{s:Shared} (S:Sim W c P ρ H s) {a:Addr} (h:s.heap.get? a=none):a∉c.all:=fun m=>by
 simp only[Cx.all,List.mem_append] at m
 rcases m with m | m
 ·obtain⟨o,e,_⟩:=S.ownD a m;rw[h] at e;cases e
 ·obtain⟨p,hp,rfl⟩:=List.mem_map.mp m
  obtain⟨o,es,ep,e,_⟩:=S.outer p hp;rw[h] at e;cases e

theorem Sim.noScr {W:Wd}{c:Cx}{P:Addr→Obj→Prop}{ρ:Loc}{H:Hp}{s:Shared} (S:Sim W c P ρ H s) {a:Addr} (h:s.heap.get? a=none):¬W.scr a:=fun q=>by obtain⟨o,i,n,e,_⟩:=S.scr a q;rw[h] at e;cases e

theorem Sim.alloc {W:Wd}{c:Cx}{P:Addr→Obj→Prop}{ρ:Loc}{H:Hp}{s:Shared}{h':Heap}{tk:Nat}{a:Addr}{o:Ob} (S:Sim W c P ρ H s) (ha:s.heap.get? a=none)
  (hk:∀b o,s.heap.get? b=some o→h'.get? b=some o) (hO:RepO W h' a o):Sim W c P ρ (H.set a o) { s with heap:=h',toks:=tk }:=by
 refine S.change a (fun o e=>by rw[ha] at e;cases e) ?_ (S.all_there ha) (fun o p=>by rw[S.prot a o p] at ha;cases ha) (fun b o ξ e=>hk b o e) (fun b hb=>by simp [Hp.set,hb]) fun o' e=>?_
 ·cases q:W.base.get? a with
  | none=>rfl
  | some x=>rw[S.base a x q] at ha;cases ha
 ·simp only[Hp.set,if_true,Option.some.injEq] at e;subst e;exact hO

theorem Sim.write {W:Wd}{c:Cx}{P:Addr→Obj→Prop}{ρ:Loc}{H:Hp}{s:Shared}{h':Heap}{tk:Nat}{a:Addr}{o₀ o:Ob} (S:Sim W c P ρ H s) (ha:H a=some o₀)
  (hk:∀b o,b≠a→s.heap.get? b=some o→h'.get? b=some o) (hO:RepO W h' a o):Sim W c P ρ (H.set a o) { s with heap:=h',toks:=tk }:=by
 obtain⟨ob,e,k,nc⟩:=(S.heap a o₀ ha).obj
 refine S.change a (fun o' e'=>?_) (S.new a _ ha) (S.apart a _ ha) (fun o' p=>by rw[S.protH a o' p] at ha;cases ha) hk (fun b hb=>by simp [Hp.set,hb]) fun o' e'=>?_
 ·rw[e] at e';cases e'
  exact⟨by rcases k with k | k <;> rw[k] <;> decide,by rcases k with k | k <;> rw[k] <;> exact nofun,nc⟩
 ·simp only[Hp.set,if_true,Option.some.injEq] at e';subst e';exact hO

end Mine
end

section
namespace Mine
open PySem PySem.Calls PyProof.Rows PySem.SeqAt

inductive VbS (y:V) (B:Bool→Option Bool) (I:Int→Option Bool) (T:Str→Option Bool) (b:Bool):Prop
 | n (e:y=.none) (q:b=false)
 | b (c:Bool) (e:y=.bool c) (q:B c=some b)
 | i (c:Int) (e:y=.int c) (q:I c=some b)
 | s (c:Str) (e:y=.str c) (q:T c=some b)
theorem vbS_inv {y:V}{B:Bool→Option Bool}{I:Int→Option Bool}{T:Str→Option Bool}{b:Bool} (h:vbS y B I T=some b):VbS y B I T b:=by
 cases y with
 | none=>exact .n rfl (Option.some.inj h).symm
 | bool c=>exact .b c rfl h
 | int c=>exact .i c rfl h
 | str c=>exact .s c rfl h
 | _=>cases h
inductive VeqI (n:Nat) (H:Hp) (x y:V) (b:Bool):Prop
 | tt (xs ys:List V) (hx:x=.tup xs) (hy:y=.tup ys) (e:allEq (veq n H) xs ys=some b)
 | rr (a c:Addr) (xs ys:List V) (hx:x=.ref a) (hy:y=.ref c) (h1:H a=some (.list xs)) (h2:H c=some (.list ys)) (e:allEq (veq n H) xs ys=some b)
 | nr (a:Addr) (xs:List V) (hx:x=.none) (hy:y=.ref a) (h1:H a=some (.list xs)) (e:b=false)
 | rn (a:Addr) (xs:List V) (hx:x=.ref a) (hy:y=.none) (h1:H a=some (.list xs)) (e:b=false)
 | pl (e:vb x y=some b)
inductive VbI (x y:V) (b:Bool):Prop
 | n (hx:x=.none) (e:vbN y=some b)
 | bn (a:Bool) (hx:x=.bool a) (hy:y=.none) (e:b=false)
 | i0 (a:Int) (hx:x=.int a) (hy:y=.none) (e:b=false)
 | sn (a:Str) (hx:x=.str a) (hy:y=.none) (e:b=false)
 | tn (a:List V) (hx:x=.tup a) (hy:y=.none) (e:b=false)
 | bb (a c:Bool) (hx:x=.bool a) (hy:y=.bool c) (e:b=(a == c))
 | ii (a c:Int) (hx:x=.int a) (hy:y=.int c) (e:b=decide (a=c))
 | ss (a c:Str) (hx:x=.str a) (hy:y=.str c) (e:b=decide (a=c))
theorem obO_inv {o:Option Ob}{K:List V→Option Bool}{b:Bool} (h:ob1 o none K (fun ξ=>none)=some b):∃xs,o=some (.list xs)∧K xs=some b:=by
 cases o with
 | none=>cases h
 | some o=>cases o with
  | list xs=>exact⟨xs,rfl,h⟩
  | dict _=>cases h
theorem veq_succ {n:Nat}{H:Hp}{x y:V}{b:Bool} (h:veq (n+1) H x y=some b):VeqI n H x y b:=by
 cases x with
 | none=>cases y with
  | ref a=>obtain⟨xs,h1,h2⟩:=obO_inv h;exact .nr a xs rfl rfl h1 (Option.some.inj h2).symm
  | _=>exact .pl h
 | tup xs=>cases y with
  | tup ys=>exact .tt xs ys rfl rfl h
  | none=>exact .pl h
  | _=>cases h
 | ref a=>cases y with
  | none=>obtain⟨xs,h1,h2⟩:=obO_inv h;exact .rn a xs rfl rfl h1 (Option.some.inj h2).symm
  | ref c =>
   obtain⟨xs,h1,h2⟩:=obO_inv h
   obtain⟨ys,h3,h4⟩:=obO_inv h2
   exact .rr a c xs ys rfl rfl h1 h3 h4
  | _=>cases h
 | ro _=>cases h
 | exc _=>cases h
 | _=>exact .pl h
theorem vb_inv {x y:V}{b:Bool} (h:vb x y=some b):VbI x y b:=by
 cases x with
 | none=>exact .n rfl h
 | bool a =>
  cases vbS_inv h with
  | n e q=>exact .bn a rfl e q
  | b c e q=>exact .bb a c rfl e (Option.some.inj q).symm
  | i c e q=>cases q
  | s c e q=>cases q
 | int a =>
  cases vbS_inv h with
  | n e q=>exact .i0 a rfl e q
  | i c e q=>exact .ii a c rfl e (Option.some.inj q).symm
  | b c e q=>cases q
  | s c e q=>cases q
 | str a =>
  cases vbS_inv h with
  | n e q=>exact .sn a rfl e q
  | s c e q=>exact .ss a c rfl e (Option.some.inj q).symm
  | b c e q=>cases q
  | i c e q=>cases q
 | tup a =>
  cases vbS_inv h with
  | n e q=>exact .tn a rfl e q
  | b c e q=>cases q
  | i c e q=>cases q
  | s c e q=>cases q
 | _=>cases h
theorem allEq_self {f:V→V→Option Bool} (k:∀x b,f x x=some b→b=true) (xs:List V):∀ {b:Bool},allEq f xs xs=some b→b=true:=by
 induction xs with
 | nil=>intro b e;exact (Option.some.inj e).symm
 | cons z zs ih =>
  intro b e
  obtain⟨p,q,h1,h2,rfl⟩:=oand_inv e
  rw[k z p h1,ih h2];rfl
theorem vb_self {x:V}{b:Bool} (h:vb x x=some b):b=true:=by
 cases x with
 | none=>exact (Option.some.inj h).symm
 | bool a=>exact (Option.some.inj h).symm.trans (beq_self_eq_true a)
 | int a=>exact (Option.some.inj h).symm.trans (decide_eq_true rfl)
 | str a=>exact (Option.some.inj h).symm.trans (decide_eq_true rfl)
 | _=>cases h
theorem veq_self (n:Nat):∀(H:Hp) (x:V) (b:Bool),veq n H x x=some b→b=true:=by
 induction n with
 | zero=>intro H x b h;exact vb_self h
 | succ n ih =>
  intro H x b h
  cases x with
  | none=>exact vb_self (x:=.none) h
  | bool a=>exact vb_self (x:=.bool a) h
  | int a=>exact vb_self (x:=.int a) h
  | str a=>exact vb_self (x:=.str a) h
  | tup xs=>exact allEq_self (ih H) xs h
  | ref a =>
   obtain⟨xs,h1,h2⟩:=obO_inv h
   obtain⟨ys,h3,h4⟩:=obO_inv h2
   cases h1.symm.trans h3
   exact allEq_self (ih H) xs h4
  | _=>cases h
section
variable {W:Wd}{h:Heap}
theorem vb_same {x y:V}{u:Value}{b:Bool} (r:Rep W h x u) (r':Rep W h y u) (e:vb x y=some b):b=true:=by
 cases vb_inv e with
 | n hx q =>
  subst hx
  have r:u=.none:=r
  subst r
  cases y with
  | none=>exact (Option.some.inj q).symm
  | bool c=>cases r'
  | int c=>obtain⟨_,r'⟩:=r';cases r'
  | str c=>obtain⟨_,r'⟩:=r';cases r'
  | tup c=>obtain⟨_,_,_,_,r',_⟩:=r'.tupR;cases r'
  | _=>cases q
 | bn a hx hy q=>subst hx hy;cases r;cases r'
 | i0 a hx hy q=>subst hx hy;cases r';obtain⟨_,r⟩:=r;cases r
 | sn a hx hy q=>subst hx hy;cases r';obtain⟨_,r⟩:=r;cases r
 | tn a hx hy q=>subst hx hy;cases r';obtain⟨_,_,_,_,r',_⟩:=r.tupR;cases r'
 | bb a c hx hy q=>subst hx hy q;cases r;cases r';exact beq_self_eq_true a
 | ii a c hx hy q=>subst hx hy q;obtain⟨t,rfl⟩:=r;obtain⟨_,r'⟩:=r';cases r';exact decide_eq_true rfl
 | ss a c hx hy q=>subst hx hy q;obtain⟨t,rfl⟩:=r;obtain⟨_,r'⟩:=r';cases r';exact decide_eq_true rfl
theorem veq_same:∀(n:Nat) (H:Hp) (x y:V) (u:Value) (b:Bool),Rep W h x u→Rep W h y u→veq n H x y=some b→b=true:=by
 intro n
 induction n with
 | zero=>intro H x y u b r r' e;exact vb_same r r' e
 | succ n ih =>
  intro H x y u b r r' e
  have hl:∀ {us:List Value}{xs ys:List V}{b:Bool},Reps W h xs us→Reps W h ys us→allEq (veq n H) xs ys=some b→b=true:=by
   intro us xs
   induction xs generalizing us with
   | nil=>intro ys b r r' e;cases r;cases ys with
    | nil=>exact (Option.some.inj e).symm
    | cons y ys=>obtain⟨_,_,q,_,_⟩:=r';cases q
   | cons x xs ihx =>
    intro ys b r r' e
    obtain⟨z,zs,rfl,a,r⟩:=r
    cases ys with
    | nil=>cases r'
    | cons y ys =>
     obtain⟨_,_,q,a',r'⟩:=r'
     cases q
     obtain⟨p,q,h1,h2,rfl⟩:=oand_inv e
     rw[ih H x y z p a a' h1,ihx r r' h2];rfl
  cases veq_succ e with
  | tt xs ys hx hy e' =>
   subst hx hy
   obtain⟨a1,o1,i1,n1,rfl,e1,c1,d1,l1,r1⟩:=r.tupR
   obtain⟨a2,o2,i2,n2,q,e2,c2,d2,l2,r2⟩:=r'.tupR
   cases q;cases e1.symm.trans e2;cases d1.symm.trans d2
   exact hl r1 r2 e'
  | rr a c xs ys hx hy h1 h2 e'=>subst hx hy;cases r;cases r';cases h1.symm.trans h2;exact allEq_self (veq_self n H) xs e'
  | nr a xs hx hy=>subst hx hy;cases r;cases r'
  | rn a xs hx hy=>subst hx hy;cases r;cases r'
  | pl e'=>exact vb_same r r' e'
end
theorem allEq_items {f:V→V→Option Bool}{xs:List V}:∀ {ys:List V}{b:Bool},allEq f xs ys=some b→∃g:Nat→Bool,(∀(j:Nat) (x y:V),xs[j]?=some x→ys[j]?=some y→f x y=some (g j)) ∧
  b=((List.range (min xs.length ys.length)).all g && xs.length == ys.length):=by
 induction xs with
 | nil=>intro ys b h;cases ys with
  | nil=>exact⟨fun ξ=>true,(fun j x y e=>by cases e),(Option.some.inj h).symm⟩
  | cons y ys=>exact⟨fun ξ=>true,(fun j x y e=>by cases e),(Option.some.inj h).symm.trans (Bool.and_false _).symm⟩
 | cons x xs ih=>intro ys b h;cases ys with
  | nil=>exact⟨fun ξ=>true,(fun j x y ξ e=>by cases e),(Option.some.inj h).symm.trans (Bool.and_false _).symm⟩
  | cons y ys =>
   obtain⟨p,q,h1,h2,rfl⟩:=oand_inv h
   obtain⟨g,i1,i2⟩:=ih h2
   refine⟨fun j=>Nat.casesOn j p g,fun j u v hu hv=>?_,?_⟩
   ·cases j with
    | zero=>cases hu;cases hv;exact h1
    | succ j=>exact i1 j u v hu hv
   ·rw[i2,List.length_cons,List.length_cons,Nat.succ_min_succ,List.range_succ_eq_map,List.all_cons,List.all_map,←Bool.and_assoc,show (xs.length+1 == ys.length+1)=(xs.length == ys.length) from decide_eq_decide.mpr Nat.add_right_cancel_iff];rfl

section
variable {W:Wd}{A:Around}{s:Shared}{H:Hp}
theorem Reps.at {h:Heap}{xs:List V}{items:Array Value} (r:Reps W h xs items.toList) {j:Nat} (hj:j<items.size):∃x,xs[j]?=some x∧Rep W h x items[j]:=by
 have hl:j<xs.length:=by rw[r.length,Array.length_toList];exact hj
 obtain⟨u,e,q⟩:=r.get (List.getElem?_eq_getElem hl)
 cases (List.getElem?_eq_getElem (l:=items.toList) (i:=j) hj).symm.trans e
 exact⟨_,List.getElem?_eq_getElem hl,q⟩
theorem Reps.size {h:Heap}{xs:List V}{items:Array Value} (r:Reps W h xs items.toList):items.size=xs.length:=r.length.symm

theorem Rep.isTuple {h:Heap}{xs:List V}{u:Value} (r:Rep W h (.tup xs) u):∃a items,u=.ref a∧h.IsTuple a items∧xs.length≤Lim∧Reps W h xs items.toList:=by
 obtain⟨a,o,items,n,e,g,c,d,l,r⟩:=r.tupR
 exact⟨a,items,e,⟨o,g,c,n,d⟩,l,r⟩
theorem Rep.isTuple_ne {h:Heap}{xs:List V}{u:Value} (r:Rep W h (.tup xs) u):∃a,u=.ref a:=by
 obtain⟨a,_,_,_,e,_⟩:=r.tupR
 exact⟨a,e⟩

structure Eq3 (A:Around) (s:Shared) (u v:Value) (b:Bool):Prop where
 rc:RcAt A s u v b
 ne:RcNeAt A s u v (!b)
 eq:EqAt A s u v b
theorem vb_sound {x y:V}{u v:Value}{b:Bool} (r:Rep W s.heap x u) (r':Rep W s.heap y v) (e:vb x y=some b) (hu:A.units<cLine):Eq3 A s u v b:=by
 cases vb_inv e with
 | n hx q =>
  subst hx
  cases r
  cases y with
  | none=>cases q;cases r';exact⟨RcAt.none_none,RcNeAt.none_none,.same _⟩
  | bool c=>cases q;cases r';exact⟨RcAt.none_bool c,RcNeAt.none_bool c,.none_bool c⟩
  | int c=>cases q;obtain⟨t,rfl⟩:=r';exact⟨RcAt.none_int c t,RcNeAt.none_int c t,.none_int c t⟩
  | str c=>cases q;obtain⟨t,rfl⟩:=r';exact⟨RcAt.none_str c t,RcNeAt.none_str c t,.none_str c t⟩
  | tup c=>cases q;obtain⟨a,it,rfl,ht,_,_⟩:=r'.isTuple;exact⟨RcAt.none_tuple ht hu,RcNeAt.none_tuple ht hu,.none_tuple ht hu⟩
  | _=>cases q
 | bn a hx hy q=>subst hx hy q;cases r;cases r';exact⟨RcAt.bool_none a,RcNeAt.bool_none a,.bool_none a⟩
 | i0 a hx hy q=>subst hx hy q;cases r';obtain⟨t,rfl⟩:=r;exact⟨RcAt.int_none a t,RcNeAt.int_none a t,.int_none a t⟩
 | sn a hx hy q=>subst hx hy q;cases r';obtain⟨t,rfl⟩:=r;exact⟨RcAt.str_none a t,RcNeAt.str_none a t,.str_none a t⟩
 | tn a hx hy q=>subst hx hy q;cases r';obtain⟨p,it,rfl,ht,_,_⟩:=r.isTuple;exact⟨RcAt.tuple_none ht hu,RcNeAt.tuple_none ht hu,.tuple_none ht hu⟩
 | bb a c hx hy q=>subst hx hy q;cases r;cases r';exact⟨RcAt.bool_bool a c,RcNeAt.bool_bool a c,.bool_bool a c⟩
 | ii a c hx hy q =>
  subst hx hy q
  obtain⟨t,rfl⟩:=r;obtain⟨t',rfl⟩:=r'
  exact⟨RcAt.int_int a t c t',RcNeAt.int_int a t c t',.int_int a t c t'⟩
 | ss a c hx hy q =>
  subst hx hy q
  obtain⟨t,rfl⟩:=r;obtain⟨t',rfl⟩:=r'
  exact⟨RcAt.str_str a t c t',RcNeAt.str_str a t c t',.str_str a t c t'⟩
theorem veq_all (hH:∀a o,H a=some o→RepO W s.heap a o):∀(n:Nat) (A:Around) (x y:V) (u v:Value) (b:Bool),Rep W s.heap x u→Rep W s.heap y v→veq n H x y=some b→A.units+n<cLine→Eq3 A s u v b:=by
 intro n
 induction n with
 | zero=>intro A x y u v b r r' e hu;exact vb_sound r r' e hu
 | succ n ih =>
  intro A x y u v b r r' e hu
  have hx:∀ {xs ys:List V}{it jt:Array Value}{b:Bool},Reps W s.heap xs it.toList→Reps W s.heap ys jt.toList→allEq (veq n H) xs ys=some b →
    ∃f:Nat→Bool,(∀j (h1:j<it.size) (h2:j<jt.size),EqAt A.in1 s it[j] jt[j] (f j))∧b=((List.range (min it.size jt.size)).all f && it.size == jt.size):=by
   intro xs ys it jt b r1 r2 e
   obtain⟨g,i1,i2⟩:=allEq_items e
   refine⟨g,fun j h1 h2=>?_,by rw[i2,r1.size,r2.size]⟩
   obtain⟨p,e1,q1⟩:=r1.at h1
   obtain⟨q,e2,q2⟩:=r2.at h2
   exact (ih A.in1 p q _ _ _ q1 q2 (i1 j p q e1 e2) (by show A.units+1+n<cLine;exact lB [] [_,_,_] (.a (.a (.n 0) (.c 1)) (.n 1)) (.n 2) [.B (.a (.n 0) (.a (.n 1) (.c 1))) (.n 2)] [1,1] rfl hu)).eq
  have hu':A.units<cLine:=by exact lB [] [_,_,_] (.n 0) (.n 1) [.B (.a (.n 0) (.a (.n 2) (.c 1))) (.n 1)] [1,1] rfl hu
  have fin:∀ {p q:Addr},u=.ref p→v=.ref q→RcAt A s u v b→EqAt A s u v b:=fun h1 h2 R=>by
   by_cases huv:u=v
   ·subst huv;rw[veq_same (n+1) H x y u b r r' e];exact .same _
   ·subst h1;subst h2;exact .of_refs (fun z=>huv (by rw[z])) R
  cases veq_succ e with
  | tt xs ys hx' hy e' =>
   subst hx' hy
   obtain⟨p,it,hp,t1,_,r1⟩:=r.isTuple
   obtain⟨q,jt,hq,t2,_,r2⟩:=r'.isTuple
   obtain⟨f,hf,z⟩:=hx r1 r2 e'
   have R:RcAt A s u v b:=by rw[z,hp,hq];exact RcAt.tuples t1 t2 hu' hf
   exact⟨R,by rw[z,hp,hq];exact RcNeAt.tuples t1 t2 hu' hf,fin hp hq R⟩
  | rr a c xs ys hx' hy h1 h2 e' =>
   subst hx' hy
   have r:u=.ref a:=r
   have r':v=.ref c:=r'
   obtain⟨_,it,m,g1,q1⟩:=hH _ _ h1
   obtain⟨_,jt,m',g2,q2⟩:=hH _ _ h2
   obtain⟨f,hf,q⟩:=hx q1 q2 e'
   have l1:s.heap.IsList a it:=⟨_,g1,rfl,_,rfl⟩
   have l2:s.heap.IsList c jt:=⟨_,g2,rfl,_,rfl⟩
   have R:RcAt A s u v b∧RcNeAt A s u v (!b):=by
    rw[r,r']
    by_cases hs:it.size=jt.size
    ·rw[hs,beq_self_eq_true,Bool.and_true,Nat.min_self] at q
     rw[q,←hs];exact⟨RcAt.lists l1 l2 hs hu' hf,RcNeAt.lists l1 l2 hs hu' hf⟩
    ·rw[show b=false by rw[q,beq_false_of_ne hs,Bool.and_false]];exact⟨RcAt.lists_lengths l1 l2 (bne_iff_ne.mpr hs) hu',RcNeAt.lists_lengths l1 l2 (bne_iff_ne.mpr hs) hu'⟩
   exact⟨R.1,R.2,fin r r' R.1⟩
  | nr a xs hx' hy h1 q =>
   subst hx' hy q;cases r;cases r'
   obtain⟨_,it,m,g1,q1⟩:=hH _ _ h1
   have l1:s.heap.IsList a it:=⟨_,g1,rfl,_,rfl⟩
   exact⟨RcAt.none_list l1 hu',RcNeAt.none_list l1 hu',.none_list l1 hu'⟩
  | rn a xs hx' hy h1 q =>
   subst hx' hy q;cases r;cases r'
   obtain⟨_,it,m,g1,q1⟩:=hH _ _ h1
   have l1:s.heap.IsList a it:=⟨_,g1,rfl,_,rfl⟩
   exact⟨RcAt.list_none l1 hu',RcNeAt.list_none l1 hu',.list_none l1 hu'⟩
  | pl e'=>exact vb_sound r r' e' hu'
theorem veq_sound (hH:∀a o,H a=some o→RepO W s.heap a o) (n:Nat) (A:Around) (x y:V) (u v:Value) (b:Bool) (r:Rep W s.heap x u) (r':Rep W s.heap y v) (e:veq n H x y=some b) (hu:A.units+n<cLine):RcAt A s u v b∧EqAt A s u v b :=
 ⟨(veq_all hH n A x y u v b r r' e hu).rc,(veq_all hH n A x y u v b r r' e hu).eq⟩
end
end Mine
end

section
namespace Mine
open PySem PySem.Calls PyProof.Rows PySem.SeqAt

noncomputable def allN (h:Heap) (L:Addr):List (Addr×Obj):=(List.range h.objs.size).filterMap fun a=>if a=L then none else (h.get? a).map fun o=>(a,o)
theorem mem_allN {h:Heap}{L b:Addr}{o:Obj}:(b,o)∈allN h L ↔ h.get? b=some o∧b≠L:=by
 unfold allN
 rw[List.mem_filterMap]
 constructor
 ·rintro⟨a,ha,e⟩
  split at e
  ·cases e
  ·rename_i q
   cases ho:h.get? a with
   | none=>rw[ho] at e;cases e
   | some o'=>rw[ho] at e;cases e;exact⟨ho,q⟩
 ·rintro⟨e,q⟩
  exact⟨b,List.mem_range.mpr (Heap.lt_size e),by rw[if_neg q,e];rfl⟩
noncomputable def noH:Heap:={ objs:=#[] }
theorem noH_get (b:Addr):noH.get? b=none:=by
 cases q:noH.get? b with
 | none=>rfl
 | some o=>exact absurd (Heap.lt_size q) (Nat.not_lt_zero _)
theorem fr_of {h:Heap}{L:Addr}{m:Str→Option Value} (hn:h.Ns L m):Fr noH L h m:=⟨hn,(fun b o e=>by rw[noH_get] at e;exact nomatch e),Nat.zero_le _⟩
theorem news_of (h:Heap) (L:Addr):News noH L h (allN h L):=fun p hp=>by
 obtain⟨b,o⟩:=p
 obtain⟨e,q⟩:=mem_allN.mp hp
 exact⟨e,q,noH_get _⟩

section
variable {W:Wd}{c:Cx}{P:Addr→Obj→Prop}{ρ:Loc}{H:Hp}{s:Shared}{Q:V→Hp→Prop}{E:Value→Shared→Prop}

theorem Sim.names {ρ':Loc}{h':Heap}{tk:Nat}{m m':Str→Option Value} (S:Sim W c P ρ H s) (hm:s.heap.Ns c.env.locals m) (hn:h'.Ns c.env.locals m')
  (hk:∀b o,b≠c.env.locals→s.heap.get? b=some o→h'.get? b=some o)
  (hv:KeepR W s.heap h'→(∀b o v,s.heap.get? b=some o→o.data=.cell v→h'.get? b=some o)→∀i x v,c.vis i=true→c.names[i]?=some x→ρ'[i]?=some (some v)→HasVar W c.env h' m' (Str.ofString x) v) :
  Sim W c P ρ' H { s with heap:=h',toks:=tk }:=by
 obtain⟨oL,esL,epL,eL,dL,kL,fL⟩:=hm
 obtain⟨oN,esN,epN,eN,dN,kN,fN⟩:=id hn
 have nt:∀b o,s.heap.get? b=some o→(∀es n,o.data≠.dict es n)→b≠c.env.locals:=fun b o e d q=>by rw[q,eL] at e;cases e;exact d _ _ dL
 have kr:KeepR W s.heap h':=⟨fun b o i n e k d ξ=>hk b o (nt b o e (by rw[d];exact nofun)) e,fun b o C ws e k d=>⟨o,ws,hk b o (nt b o e (by rw[d];exact nofun)) e,k,d⟩⟩
 have nH:∀a o,H a=some o→a≠c.env.locals:=fun a o e q=>S.apart a o e (q▸Cx.mem_all_own S.locOwn)
 refine⟨?_,fun b o e=>hk b o (fun q=>by rw[q,S.ownNew _ S.locOwn] at e;cases e) (S.base b o e),funFrames_at S.frames fun b hb o e d=>?_,fun p hp=>?_,⟨m',hn,hv kr fun b o v e d=>hk b o (nt b o e (by rw[d];exact nofun)) e⟩,S.locOwn,S.ownNew,S.ownOut,
  fun a o e=>(S.heap a o e).at kr fun ob h=>hk a ob (nH a o e) h,S.new,S.apart,fun b o p=>hk b o (fun q=>(S.protF b o p).1 (q▸S.locOwn)) (S.prot b o p),S.protH,S.protF,fun x a e=>?_,fun b hb=>?_,fun b hb=>(S.scr b hb).at fun o e _ ⟨i,n,d⟩=>hk b o (nt b o e (by rw[d];exact nofun)) e⟩
 ·obtain⟨h,tk',rfl⟩:=S.rest;exact⟨h',tk,rfl⟩
 ·by_cases q:b=c.env.locals
  ·subst q;exact⟨oN,eN,by rw[dN];exact nofun⟩
  ·exact⟨o,hk b o q e,d⟩
 ·obtain⟨o,es,ep,e,r⟩:=S.outer p hp
  exact⟨o,es,ep,hk _ _ (S.ownOut _ S.locOwn p hp) e,r⟩
 ·obtain⟨u,o,e1,e2⟩:=S.cells x a e
  exact⟨u,o,hk a o (nt a o e1 (by rw[e2];exact nofun)) e1,e2⟩
 ·by_cases q:b=c.env.locals
  ·subst q;exact⟨oN,eN,.inl ⟨_,_,dN⟩⟩
  ·obtain⟨o,e,z⟩:=S.ownD b hb;exact⟨o,hk b o q e,z⟩

theorem Sim.growL {h':Heap}{tk:Nat}{m:Str→Option Value} (S:Sim W c P ρ H s) (hm:s.heap.Ns c.env.locals m) (hv:∀i x v,c.vis i=true→c.names[i]?=some x→ρ[i]?=some (some v)→HasVar W c.env s.heap m (Str.ofString x) v)
  (F:Fr noH c.env.locals h' m) (N:News noH c.env.locals h' (allN s.heap c.env.locals)):Sim W c P ρ H { s with heap:=h',toks:=tk } :=
 S.names hm F.ns (fun b o q e=>(N (b,o) (mem_allN.mpr ⟨e,q⟩)).1) fun kr kc i x v h1 h2 h3=>(hv i x v h1 h2 h3).mono kr fun cl o u ξ ho hd=>⟨o,kc cl o _ ho hd,rfl⟩
theorem allN_keeps {h h':Heap}{L:Addr} (N:News noH L h' (allN h L)):∀b o,b≠L→h.get? b=some o→h'.get? b=some o:=fun b o q e=>(N (b,o) (mem_allN.mpr ⟨e,q⟩)).1

theorem Sim.adopt {a:Addr}{o:Ob} (S:Sim W c P ρ H s) (hb:W.base.get? a=none) (hall:a∉c.all) (hP:∀o,¬P a o) (r:RepO W s.heap a o):Sim W c P ρ (H.set a o) s:=by
 obtain⟨ob,e,k,nc⟩:=r.obj
 refine (S.change (H':=H.set a o) (h':=s.heap) (tk:=s.toks) a (fun o' e'=>?_) hb hall hP (fun ξ ξ ξ e=>e) (fun b hb=>by simp [Hp.set,hb]) fun o' e'=>?_ :)
 ·rw[e] at e';cases e'
  exact⟨by rcases k with k | k <;> rw[k] <;> decide,by rcases k with k | k <;> rw[k] <;> exact nofun,nc⟩
 ·simp only[Hp.set,if_true,Option.some.injEq] at e';subst e';exact r
theorem Sim.fresh {a:Addr} (S:Sim W c P ρ H s) (h:s.heap.get? a=none):W.base.get? a=none∧a∉c.all∧(∀o,¬P a o)∧H a=none:=by
 refine⟨?_,S.all_there h,fun o p=>?_,S.hsize h⟩
 ·cases q:W.base.get? a with
  | none=>rfl
  | some x=>rw[S.base a x q] at h;cases h
 ·rw[S.prot a o p] at h;cases h

inductive PE (W:Wd) (c:Cx) (P:Addr→Obj→Prop) (ρ:Loc) (Q:V→Hp→Prop) (x:Value) (s':Shared):Prop
 | mk (v:V) (H':Hp) (S:Sim W c P ρ H' s') (r:Rep W s'.heap v x) (q:Q v H')

theorem rep_list {h:Heap}{a:Addr}{items:Array Value}{n:Nat}{vs:List V} (l:vs.length≤Lim) (e:h.get? a=some { cls:=.type "list",data:=.seq items n }) (r:Reps W h vs items.toList):RepO W h a (.list vs):=⟨l,items,n,e,r⟩

theorem sound_newList {xs:List V}{us:List Value} (S:Sim W c P ρ H s) (r:Reps W s.heap xs us) (h:newL xs Q H):wpAny (model W.prog W.w) c.A (newList us) (PE W c P ρ Q) E s:=by
 have hl:us.length≤sizeLine:=by have:=r.length;have:=h.1;rw[sizeLine_eq];unfold Lim at this;omega
 refine wpAny_newObj_type ?_ (by show us.toArray.size≤sizeLine;rw[List.size_toArray];exact hl)
 have hk:∀b o,s.heap.get? b=some o→(s.heap.push { cls:=.type "list",data:=.seq us.toArray }).get? b=some o:=fun b o e=>Heap.get?_push_of_some _ e
 have hn:=size_none s.heap
 exact⟨.ref s.heap.objs.size,H.set s.heap.objs.size (.list xs),S.alloc (tk:=s.toks) hn hk (rep_list h.1 (Heap.get?_push_size _ rfl) (by simpa using r.mono (.of_keeps hk))),.ref _,h.2 _ (S.hsize hn)⟩
theorem sound_newTuple {xs:List V}{us:List Value} (S:Sim W c P ρ H s) (r:Reps W s.heap xs us) (hl0:xs.length≤Lim) (h:Q (.tup xs) H):wpAny (model W.prog W.w) c.A (newTuple us) (PE W c P ρ Q) E s:=by
 have hl:us.length≤sizeLine:=by have:=r.length;rw[sizeLine_eq];unfold Lim at hl0;exact lA [] [_,_] (.n 0) (.c 16777216) [.L (.n 1) (.c 16777216),.E (.n 1) (.n 0)] [1,1,-1] rfl hl0 this
 refine wpAny_newObj_type ?_ (by show us.toArray.size≤sizeLine;rw[List.size_toArray];exact hl)
 have hk:∀b o,s.heap.get? b=some o→(s.heap.push { cls:=.type "tuple",data:=.seq us.toArray }).get? b=some o:=fun b o e=>Heap.get?_push_of_some _ e
 exact⟨.tup xs,H,S.grow (tk:=s.toks) hk,Rep.tup (Heap.get?_push_size _ rfl) rfl rfl hl0 (by simpa using r.mono (.of_keeps hk)) (S.noScr (size_none _)),h⟩
end
end Mine
end

section
namespace Mine
open PySem PySem.Calls PyProof.Rows PySem.SeqAt
section
variable {W:Wd}{c:Cx}{P:Addr→Obj→Prop}{ρ:Loc}{H:Hp}{s:Shared}{Q:V→Hp→Prop}{E:Value→Shared→Prop}

noncomputable def opOf:Op→Operator
 | .add=>.Add | .sub=>.Sub | .mul=>.Mult | .fdiv=>.FloorDiv | .mod=>.Mod | .pow=>.Pow

theorem pe_int {i:Int} (S:Sim W c P ρ H s) (h:Q (.int i) H):PE W c P ρ Q (.int i s.toks) { s with toks:=s.toks+1 }:=⟨.int i,H,S.toks _,.int i _,h⟩
theorem pe_bool {b:Bool} (S:Sim W c P ρ H s) (h:Q (.bool b) H):PE W c P ρ Q (.bool b) s:=⟨.bool b,H,S,.bool b,h⟩
theorem pe_same {v:V}{x:Value} (S:Sim W c P ρ H s) (r:Rep W s.heap v x) (h:Q v H):PE W c P ρ Q x s:=⟨v,H,S,r,h⟩

theorem sm_bits {a b:Int} (h:Sm a∨Sm b):IntMulOk a b:=by
 rcases h with h | h
 ·exact .of_left (intBits_le_64 (by have:=h.1;exact lb [_] [] (.c (-(2 ^ 64))) (.v 0) [.b (.c (-18446744073709551616)) (.v 0)] [1,1] rfl this) (by have:=h.2;exact lb [_] [] (.v 0) (.c (2 ^ 64)) [.b (.v 0) (.c 18446744073709551616)] [1,1] rfl this))
 ·exact .of_right (intBits_le_64 (by have:=h.1;exact lb [_] [] (.c (-(2 ^ 64))) (.v 0) [.b (.c (-18446744073709551616)) (.v 0)] [1,1] rfl this) (by have:=h.2;exact lb [_] [] (.v 0) (.c (2 ^ 64)) [.b (.v 0) (.c 18446744073709551616)] [1,1] rfl this))

inductive Int2 (u v:Value) (K:Int→Int→Prop):Prop
 | mk (a b:Int) (t t':Tok) (hu:u=.int a t) (hv:v=.int b t') (k:K a b)
theorem int2_inv {h:Heap}{x y:V}{u v:Value}{K:Int→Int→Prop} (k:int1 x fun a=>int1 y fun b=>K a b) (hx:Rep W h x u) (hy:Rep W h y v):Int2 u v K:=by
 obtain⟨a,rfl,k1⟩:=int1_inv k
 obtain⟨b,rfl,k2⟩:=int1_inv k1
 obtain⟨t,hx⟩:=hx
 obtain⟨t',hy⟩:=hy
 exact⟨a,b,t,t',hx,hy,k2⟩
theorem foldl_one (x:Value) (n:Nat):∀acc:Array Value,(List.foldl (fun x1 x2=>x1++x2) acc (List.replicate n #[x])).toList=acc.toList++List.replicate n x:=by
 induction n with
 | zero=>intro acc;exact (List.append_nil _).symm
 | succ n ih=>intro acc;rw[List.replicate_succ,List.foldl_cons,ih,Array.toList_append,List.append_assoc];rfl
theorem reps_replicate {h:Heap}{v:V}{x:Value} (r:Rep W h v x) (n:Nat):Reps W h (List.replicate n v) (List.replicate n x):=by
 induction n with
 | zero=>exact .nil
 | succ n ih=>exact .cons r ih

theorem bin_addL {a b:Addr}{xs ys:List V} (S:Sim W c P ρ H s) (e1:H a=some (.list xs)) (e2:H b=some (.list ys)) (h:newL (xs++ys) Q H) :
  wpAny (model W.prog W.w) c.A (binaryOp .Add (.ref a) (.ref b)) (PE W c P ρ Q) E s:=by
 obtain⟨_,it,n,g1,r1⟩:=S.heap _ _ e1
 obtain⟨_,jt,m,g2,r2⟩:=S.heap _ _ e2
 have hk:∀b o,s.heap.get? b=some o→(s.heap.push { cls:=.type "list",data:=.seq (it++jt) }).get? b=some o:=fun b o e=>Heap.get?_push_of_some _ e
 have hn:=size_none s.heap
 refine _root_.PySem.P.add_list g1 g2 ⟨.ref s.heap.objs.size,H.set s.heap.objs.size (.list (xs++ys)),S.alloc (tk:=s.toks) hn hk (rep_list h.1 (Heap.get?_push_size _ rfl) ?_),.ref _,h.2 _ (S.hsize hn)⟩ ?_
 ·rw[Array.toList_append];exact (r1.append r2).mono (.of_keeps hk)
 ·have:=h.1;rw[List.length_append] at this;rw[r1.size,r2.size,sizeLine_eq];exact this
theorem bin_mulL {a:Addr}{n:Int}{t:Tok}{x:V} (S:Sim W c P ρ H s) (e1:H a=some (.list [x])) (hn:Ix n∧n≤16777216) (h:newL (List.replicate n.toNat x) Q H) :
  wpAny (model W.prog W.w) c.A (binaryOp .Mult (.ref a) (.int n t)) (PE W c P ρ Q) E s:=by
 obtain⟨_,it,k,g1,r1⟩:=S.heap _ _ e1
 obtain⟨m,hm,hv⟩:=id S.loc
 have hit:∃z,it=#[z]∧Rep W s.heap x z:=by
  obtain⟨l⟩:=it
  obtain⟨z,_,rfl,p,q⟩:=r1
  cases q
  exact⟨z,rfl,p⟩
 obtain⟨z,rfl,rz⟩:=hit
 have hlow:-(2 ^ 63:Int)≤n:=by have h1:=hn.1.1;exact la [_] [] (.c (-(2 ^ 63))) (.v 0) [.b (.c (-4611686018427387904)) (.v 0)] [1,1] rfl h1
 have hn:=hn.2
 refine mul_list (fr_of hm) (news_of s.heap c.env.locals) g1 hlow (by exact lb [_] [] (.v 0) (.c (2 ^ 63)) [.l (.v 0) (.c 16777216)] [1,1] rfl hn) (by show 1*n.toNat≤16777216;omega) fun h' F' N'=>?_
 have N'':News noH c.env.locals h' (allN s.heap c.env.locals):=fun p hp=>N' p (.tail _ hp)
 have kr:KeepR W s.heap h':=S.keepR ((S.max).growL (tk:=s.toks) hm hv F' N'')
 have S':=S.growL (tk:=s.toks) hm hv F' N''
 refine⟨.ref s.heap.objs.size,H.set s.heap.objs.size (.list (List.replicate n.toNat x)),?_,.ref _,h.2 _ (S.hsize (size_none _))⟩
 obtain⟨f1,f2,f3,f4⟩:=S.fresh (size_none s.heap)
 refine S'.adopt f1 f2 f3 ⟨h.1,_,0,(N' _ (.head _)).1,?_⟩
 have e:(if (#[z]:Array Value).isEmpty=true then 0 else n.toNat)=n.toNat:=rfl
 rw[e,foldl_one]
 exact reps_replicate (rz.mono kr) _
theorem bin_fdiv {a b:Int}{t t':Tok} (S:Sim W c P ρ H s) (h:(0<b∧b<1073741824)∧Q (.int (a / b)) H):wpAny (model W.prog W.w) c.A (binaryOp .FloorDiv (.int a t) (.int b t')) (PE W c P ρ Q) E s:=by
 obtain⟨⟨h1,h2⟩,h⟩:=h
 refine floordiv_int (Int.ne_of_gt h1) (pe_int S ?_) (.inl (PyProof.noPylong_small (by omega)))
 rwa [Int.fdiv_eq_ediv_of_nonneg _ (Int.le_of_lt h1)]
theorem bin_mod {a b:Int}{t t':Tok} (S:Sim W c P ρ H s) (h:0<b∧Q (.int (a % b)) H):wpAny (model W.prog W.w) c.A (binaryOp .Mod (.int a t) (.int b t')) (PE W c P ρ Q) E s:=by
 obtain⟨h1,h⟩:=h
 refine mod_int' (Int.ne_of_gt h1) (pe_int S ?_)
 rwa [Int.fmod_eq_emod_of_nonneg _ (Int.le_of_lt h1)]
theorem bin_pow {a b:Int}{t t':Tok} (S:Sim W c P ρ H s) (h:(0≤a∧a≤10∧0≤b∧b≤20)∧Q (.int (a ^ b.toNat)) H):wpAny (model W.prog W.w) c.A (binaryOp .Pow (.int a t) (.int b t')) (PE W c P ρ Q) E s:=by
 obtain⟨⟨h1,h2,h3,h4⟩,h⟩:=h
 refine pow_int h3 ?_ (pe_int S h)
 have hb:Builtin.Int.intBits a≤64:=intBits_le_64 (by exact lb [_] [] (.c (-(2 ^ 64))) (.v 0) [.l (.c 0) (.v 0)] [1,1] rfl h1) (by exact lb [_] [] (.v 0) (.c (2 ^ 64)) [.l (.v 0) (.c 10)] [1,1] rfl h2)
 have hc:(Builtin.Int.intBits a:Int)*b≤64*20:=Int.mul_le_mul (by exact la [] [_] (.t (.n 0)) (.c 64) [.L (.n 0) (.c 64)] [1,1] rfl hb) h4 h3 (by exact la [] [] (.c 0) (.c 64) [] [1] rfl)
 exact la [_] [] (.v 0) (.c (2 ^ 27)) [.l (.v 0) (.m 64 (.c 20))] [1,1] rfl hc
theorem sound_bin {op:Op}{x y:V}{u v:Value} (S:Sim W c P ρ H s) (hx:Rep W s.heap x u) (hy:Rep W s.heap y v) (h:wbin op x y Q H) :
  wpAny (model W.prog W.w) c.A (binaryOp (opOf op) u v) (PE W c P ρ Q) E s:=by
 cases op with
 | add =>
  cases x with
  | int a =>
   obtain⟨b,rfl,k⟩:=int1_inv h
   obtain⟨t,rfl⟩:=hx
   obtain⟨t',rfl⟩:=hy
   exact wpAny_add_int (pe_int S k)
  | ref a =>
   obtain⟨b,rfl,xs,ys,e1,e2,k⟩:=ref1_inv h
   cases hx;cases hy
   exact bin_addL S e1 e2 k
  | _=>exact h.elim
 | sub=>obtain⟨a,b,t,t',rfl,rfl,h⟩:=int2_inv h hx hy;exact sub_int' (pe_int S h)
 | mul =>
  cases x with
  | int a =>
   obtain⟨b,rfl,k⟩:=int1_inv h
   obtain⟨t,rfl⟩:=hx
   obtain⟨t',rfl⟩:=hy
   exact mul_int (pe_int S k.2) (sm_bits k.1)
  | ref a =>
   obtain⟨n,rfl,x,e1,hn,k⟩:=int1_inv h
   cases hx
   obtain⟨t',rfl⟩:=hy
   exact bin_mulL S e1 hn k
  | _=>exact h.elim
 | fdiv=>obtain⟨a,b,t,t',rfl,rfl,h⟩:=int2_inv h hx hy;exact bin_fdiv S h
 | mod=>obtain⟨a,b,t,t',rfl,rfl,h⟩:=int2_inv h hx hy;exact bin_mod S h
 | pow=>obtain⟨a,b,t,t',rfl,rfl,h⟩:=int2_inv h hx hy;exact bin_pow S h
end
end Mine
end

section
namespace Mine
open PySem PySem.Calls PyProof.Rows PySem.SeqAt
section
variable {W:Wd}{c:Cx}{P:Addr→Obj→Prop}{ρ:Loc}{H:Hp}{s:Shared}{Q:V→Hp→Prop}{B:Bool→Hp→Prop}{E:Value→Shared→Prop}

noncomputable def cmOf:Cm→CmpOp
 | .eq=>.Eq | .ne=>.NotEq | .lt=>.Lt | .le=>.LtE | .gt=>.Gt | .ge=>.GtE | .is=>.Is | .isNot=>.IsNot | .isIn=>.In | .notIn=>.NotIn

inductive PB (W:Wd) (c:Cx) (P:Addr→Obj→Prop) (ρ:Loc) (B:Bool→Hp→Prop) (x:Value) (s':Shared):Prop
 | mk (b:Bool) (H':Hp) (e:x=.bool b) (S:Sim W c P ρ H' s') (q:B b H')
theorem pb {b:Bool} (S:Sim W c P ρ H s) (h:B b H):PB W c P ρ B (.bool b) s:=⟨b,H,rfl,S,h⟩

theorem inL_iff {x:V}{ys:List V}:∀ {b:Bool},inL H x ys=some b→(∀v∈ys,∃k,veq eqFuel H v x=some k)∧(b=true ↔ ∃v∈ys,veq eqFuel H v x=some true):=by
 induction ys with
 | nil=>intro b h;cases h;exact⟨nofun,nofun,fun⟨_,h,_⟩=>nomatch h⟩
 | cons y ys ih =>
  intro b h
  obtain⟨p,q,h1,h2,rfl⟩:=oor_inv h
  obtain⟨i1,i2⟩:=ih h2
  refine⟨fun v hv=>?_,?_⟩
  ·cases hv with
   | head=>exact⟨p,h1⟩
   | tail _ hv=>exact i1 v hv
  ·rw[Bool.or_eq_true,i2]
   constructor
   ·rintro (e | ⟨v,m,e⟩)
    ·exact⟨y,.head _,e▸h1⟩
    ·exact⟨v,.tail _ m,e⟩
   ·rintro⟨v,m,e⟩
    cases m with
    | head=>exact .inl (Option.some.inj (h1.symm.trans e))
    | tail _ m=>exact .inr ⟨v,m,e⟩
theorem Reps.mem_left {h:Heap}{xs:List V}:∀ {us:List Value}{u:Value},Reps W h xs us→u∈us→∃x∈xs,Rep W h x u:=by
 induction xs with
 | nil=>intro us u r m;cases r;cases m
 | cons x xs ih =>
  intro us u r m
  obtain⟨z,zs,rfl,a,b⟩:=r
  cases m with
  | head=>exact⟨_,.head _,a⟩
  | tail _ m=>obtain⟨x,q,r⟩:=ih b m;exact⟨x,.tail _ q,r⟩
theorem Reps.mem_right {h:Heap}{xs:List V}:∀ {us:List Value}{x:V},Reps W h xs us→x∈xs→∃u∈us,Rep W h x u:=by
 induction xs with
 | nil=>intro us u r m;cases m
 | cons x xs ih =>
  intro us u r m
  obtain⟨z,zs,rfl,a,b⟩:=r
  cases m with
  | head=>exact⟨_,.head _,a⟩
  | tail _ m=>obtain⟨x,q,r⟩:=ih b m;exact⟨x,.tail _ q,r⟩

open Classical in
noncomputable def eqItem (W:Wd) (h:Heap) (H:Hp) (ys:List V) (x:V) (y:Value):Bool:=decide (∃v∈ys,Rep W h v y∧veq eqFuel H v x=some true)
open Classical in
theorem eqItem_true {h:Heap}{ys:List V}{x:V}{y:Value}:eqItem W h H ys x y=true ↔ ∃v∈ys,Rep W h v y∧veq eqFuel H v x=some true:=by unfold eqItem;exact decide_eq_true_iff
theorem eqItem_at {ys:List V}{x:V}{u:Value}{A:Around} (hH:∀a o,H a=some o→RepO W s.heap a o) (hx:Rep W s.heap x u) (hu:A.units+8<cLine) (hk:∀v∈ys,∃k,veq eqFuel H v x=some k) {us:List Value} (r:Reps W s.heap ys us) :
  ∀y∈us,EqAt A s y u (eqItem W s.heap H ys x y):=fun y hy=>by
 obtain⟨v,hv,rv⟩:=r.mem_left hy
 obtain⟨k,hk⟩:=hk v hv
 by_cases q:∃v∈ys,Rep W s.heap v y∧veq eqFuel H v x=some true
 ·obtain⟨w,hw,rw',ew⟩:=id q
  have:eqItem W s.heap H ys x y=true:=eqItem_true.mpr q
  rw[this];exact (veq_sound hH eqFuel A w x y u true rw' hx ew hu).2
 ·have:eqItem W s.heap H ys x y=false:=Bool.eq_false_iff.mpr fun z=>q (eqItem_true.mp z)
  rw[this]
  cases k with
  | true=>exact absurd ⟨v,hv,rv,hk⟩ q
  | false=>exact (veq_sound hH eqFuel A v x y u false rv hx hk hu).2
theorem eqItem_any {ys:List V}{x:V}{b:Bool} (e:inL H x ys=some b) {it:Array Value}{h:Heap} (r:Reps W h ys it.toList):it.any (eqItem W h H ys x)=b:=by
 obtain⟨i1,i2⟩:=inL_iff e
 rw[←Array.any_toList]
 cases b with
 | true =>
  obtain⟨v,hv,ev⟩:=i2.mp rfl
  obtain⟨u,hu,ru⟩:=r.mem_right hv
  exact List.any_eq_true.mpr ⟨u,hu,eqItem_true.mpr ⟨v,hv,ru,ev⟩⟩
 | false =>
  refine List.any_eq_false.mpr fun u hu=>?_
  intro q
  obtain⟨v,hv,_,ev⟩:=eqItem_true.mp q
  have:=i2.mpr ⟨v,hv,ev⟩
  cases this

theorem RepKV.get {h:Heap}{k:Int}{kvs:List (Int×V)}:∀ {ys:List (Int×Value)},RepKV W h kvs ys→(∀v,dget k kvs=some v→∃u,valueAt ys k=some u∧Rep W h v u)∧(dget k kvs).isSome=(valueAt ys k).isSome:=by
 induction kvs with
 | nil=>intro ys r;cases r;exact⟨nofun,rfl⟩
 | cons p kvs ih =>
  intro ys r
  obtain⟨⟨j,x⟩,zs,rfl,⟨e,a⟩,b⟩:=r
  obtain⟨i,v⟩:=p
  cases (show j=i from e)
  obtain⟨i1,i2⟩:=ih b
  by_cases q:j=k
  ·subst q;simp only[dget,valueAt,List.find?_cons,if_true,decide_true,Option.map_some]
   exact⟨fun v e=>by cases e;exact⟨_,rfl,a⟩,rfl⟩
  ·simp only[dget,valueAt,List.find?_cons,q,if_false,decide_false]
   exact⟨i1,i2⟩

theorem not_sysModules (S:Sim W c P ρ H s) {a:Addr}{kvs:List (Int×V)} (e:H a=some (.dict kvs)) (hb:(W.base.get? cStatics).isSome=true):(a == sysModules)=false:=(S.heap _ _ e).1.2
theorem none_sound {x y:V}{u v:Value}{T F:Prop} (hx:Rep W s.heap x u) (hy:Rep W s.heap y v) (h:nonW x y T F):v=.none∧((u=.none∧T)∨((∃i t,u=.int i t)∨∃a,u=.ref a)∧F):=by
 cases y with
 | none =>
  refine⟨hy,?_⟩
  cases x with
  | none=>exact .inl ⟨hx,h⟩
  | int i=>obtain⟨t,e⟩:=hx;exact .inr ⟨.inl ⟨i,t,e⟩,h⟩
  | tup xs=>exact .inr ⟨.inr hx.isTuple_ne,h⟩
  | ref a=>exact .inr ⟨.inr ⟨a,hx⟩,h⟩
  | _=>exact h.elim
 | _=>exact h.elim
theorem cmp_inL {x:V}{u:Value}{a:Addr}{ys:List V}{b:Bool} (S:Sim W c P ρ H s) (hu:c.A.units+20<cLine) (hx:Rep W s.heap x u) (ea:H a=some (.list ys)) (e:inL H x ys=some b) (h:B b H) :
  wpAny (model W.prog W.w) c.A (compareOp .In u (.ref a)) (PB W c P ρ B) E s:=by
 obtain⟨_,it,n,g,r⟩:=S.heap _ _ ea
 refine in_listAt (eqItem W s.heap H _ _) ⟨_,g,rfl,_,rfl⟩ (fun z hz=>eqItem_at S.heap hx (by show c.A.units+1+8<cLine;exact lB [] [_,_] (.a (.a (.n 0) (.c 1)) (.c 8)) (.n 1) [.B (.a (.n 0) (.c 20)) (.n 1)] [1,1] rfl hu) (inL_iff e).1 r z (by simpa using hz)) ?_
 rw[eqItem_any e r];exact pb S h
theorem cmp_notInL {x:V}{u:Value}{a:Addr}{ys:List V}{b:Bool} (S:Sim W c P ρ H s) (hu:c.A.units+20<cLine) (hx:Rep W s.heap x u) (ea:H a=some (.list ys)) (e:inL H x ys=some b) (h:B (!b) H) :
  wpAny (model W.prog W.w) c.A (compareOp .NotIn u (.ref a)) (PB W c P ρ B) E s:=by
 obtain⟨_,it,n,g,r⟩:=S.heap _ _ ea
 refine notIn_listAt (eqItem W s.heap H _ _) ⟨_,g,rfl,_,rfl⟩ (fun z hz=>eqItem_at S.heap hx (by show c.A.units+1+8<cLine;exact lB [] [_,_] (.a (.a (.n 0) (.c 1)) (.c 8)) (.n 1) [.B (.a (.n 0) (.c 20)) (.n 1)] [1,1] rfl hu) (inL_iff e).1 r z (by simpa using hz)) ?_
 rw[eqItem_any e r];exact pb S h
theorem cmp_inD {k:Int}{t:Tok}{a:Addr}{kvs:List (Int×V)} (S:Sim W c P ρ H s) (hb:(W.base.get? cStatics).isSome=true) (ea:H a=some (.dict kvs)) (h:B (dget k kvs).isSome H) :
  wpAny (model W.prog W.w) c.A (compareOp .In (.int k t) (.ref a)) (PB W c P ρ B) E s:=by
 obtain⟨_,ys,hD,r⟩:=S.heap _ _ ea
 rw[(r.get (k:=k)).2] at h
 exact wpAny_in_of (intKind_is _ _ _ _) (not_sysModules S ea hb) hD.mapOf (pb (S.toks _) h)
theorem cmp_notInD {k:Int}{t:Tok}{a:Addr}{kvs:List (Int×V)} (S:Sim W c P ρ H s) (hb:(W.base.get? cStatics).isSome=true) (ea:H a=some (.dict kvs)) (h:B (dget k kvs).isNone H) :
  wpAny (model W.prog W.w) c.A (compareOp .NotIn (.int k t) (.ref a)) (PB W c P ρ B) E s:=by
 obtain⟨_,ys,hD,r⟩:=S.heap _ _ ea
 refine wpAny_notIn_of (intKind_is _ _ _ _) (not_sysModules S ea hb) hD.mapOf ?_
 rw[←(r.get (k:=k)).2,Option.not_isSome] at *
 exact pb (S.toks _) h
theorem sound_cmp {op:Cm}{x y:V}{u v:Value} (S:Sim W c P ρ H s) (hu:c.A.units+20<cLine) (hb:(W.base.get? cStatics).isSome=true) (hx:Rep W s.heap x u) (hy:Rep W s.heap y v) (h:wcmp op x y B H) :
  wpAny (model W.prog W.w) c.A (compareOp (cmOf op) u v) (PB W c P ρ B) E s:=by
 cases op with
 | eq =>
  obtain⟨b,e,h⟩:=h
  exact (veq_all S.heap eqFuel c.A x y u v b hx hy e (by unfold eqFuel;exact lB [] [_,_] (.a (.n 0) (.c 8)) (.n 1) [.B (.a (.n 0) (.c 20)) (.n 1)] [1,1] rfl hu)).rc W.prog W.w E _ (pb S h)
 | ne =>
  obtain⟨b,e,h⟩:=h
  exact (veq_all S.heap eqFuel c.A x y u v b hx hy e (by unfold eqFuel;exact lB [] [_,_] (.a (.n 0) (.c 8)) (.n 1) [.B (.a (.n 0) (.c 20)) (.n 1)] [1,1] rfl hu)).ne W.prog W.w E _ (pb S h)
 | lt=>obtain⟨a,b,t,t',rfl,rfl,k⟩:=int2_inv h hx hy;exact _root_.PySem.P.lt_int (pb S k)
 | le=>obtain⟨a,b,t,t',rfl,rfl,k⟩:=int2_inv h hx hy;exact _root_.PySem.P.le_int (pb S k)
 | gt=>obtain⟨a,b,t,t',rfl,rfl,k⟩:=int2_inv h hx hy;exact _root_.PySem.P.gt_int (pb S k)
 | ge=>obtain⟨a,b,t,t',rfl,rfl,k⟩:=int2_inv h hx hy;exact _root_.PySem.P.ge_int (pb S k)
 | is =>
  obtain⟨rfl,⟨rfl,k⟩ | ⟨⟨i,t,rfl⟩ | ⟨a,rfl⟩,k⟩⟩:=none_sound hx hy h
  ·exact is_none_none (pb S k)
  ·exact is_int_none (pb S k)
  ·exact is_ref_none (pb S k)
 | isNot =>
  obtain⟨rfl,⟨rfl,k⟩ | ⟨⟨i,t,rfl⟩ | ⟨a,rfl⟩,k⟩⟩:=none_sound hx hy h
  ·exact isnot_none_none (pb S k)
  ·exact isnot_int_none (pb S k)
  ·exact isnot_ref_none (pb S k)
 | isIn =>
  obtain⟨a,rfl,k⟩:=ref1_inv h
  cases hy
  rcases ob1_inv k with ⟨ys,ea,b,e,k⟩ | ⟨kvs,ea,k⟩
  ·exact cmp_inL S hu hx ea e k
  ·obtain⟨i,rfl,k⟩:=int1_inv k
   obtain⟨t,rfl⟩:=hx
   exact cmp_inD S hb ea k
 | notIn =>
  obtain⟨a,rfl,k⟩:=ref1_inv h
  cases hy
  rcases ob1_inv k with ⟨ys,ea,b,e,k⟩ | ⟨kvs,ea,k⟩
  ·exact cmp_notInL S hu hx ea e k
  ·obtain⟨i,rfl,k⟩:=int1_inv k
   obtain⟨t,rfl⟩:=hx
   exact cmp_notInD S hb ea k
end
end Mine
end

section
namespace Mine
open PySem PySem.Calls PyProof.Rows PySem.SeqAt
section
variable {W:Wd}{c:Cx}{P:Addr→Obj→Prop}{ρ:Loc}{H:Hp}{s:Shared}{Q:V→Hp→Prop}{B:Bool→Hp→Prop}{E:Value→Shared→Prop}

inductive Place (i:Int) (n j:Nat):Prop
 | pos (h0:0≤i) (h1:i.toNat<n) (e:j=i.toNat)
 | neg (h0:i<0) (h1:0≤i+n) (e:j=(i+n).toNat)
theorem place_inv {i:Int}{n j:Nat} (h:place i n=some j):Place i n j:=by
 by_cases h0:0≤i
 ·by_cases h1:i.toNat<n
  ·rw[place,if_pos h0,if_pos h1] at h;exact .pos h0 h1 (Option.some.inj h).symm
  ·rw[place,if_pos h0,if_neg h1] at h;cases h
 ·by_cases h1:0≤i+n
  ·rw[place,if_neg h0,if_pos h1] at h;exact .neg (Int.not_le.mp h0) h1 (Option.some.inj h).symm
  ·rw[place,if_neg h0,if_neg h1] at h;cases h
theorem place_seq {i:Int}{n j:Nat} (h:place i n=some j):seqIndex? i n=some j:=by
 unfold seqIndex?
 cases place_inv h with
 | pos h0 h1 e =>
  have e':¬i<0:=Int.not_lt.mpr h0
  simp only[e',if_false]
  rw[if_pos (by simp;exact⟨h0,lb [_] [_,_] (.v 0) (.t (.n 0)) [.B (.n 1) (.n 0),.l (.v 0) (.t (.n 1))] [1,1,1] rfl h1 (tn0 (a:=i))⟩),e]
 | neg h0 h1 e =>
  simp only[h0,if_true]
  rw[if_pos (by simp;exact⟨h1,lb [_] [_] (.a (.v 0) (.t (.n 0))) (.t (.n 0)) [.b (.v 0) (.c 0)] [1,1] rfl h0⟩),e]
theorem Ints.get {xs:List Int}:∀ {us:List Value}{j:Nat}{z:Int},Ints xs us→xs[j]?=some z→∃t,us[j]?=some (.int z t):=by
 induction xs with
 | nil=>intro us j z r e;cases e
 | cons x xs ih =>
  intro us j z r e
  obtain⟨u,vs,rfl,⟨t,rfl⟩,b⟩:=r
  cases j with
  | zero=>cases e;exact⟨t,rfl⟩
  | succ j=>exact ih (us:=vs) (j:=j) b e
theorem Ints.length {xs:List Int}:∀ {us:List Value},Ints xs us→xs.length=us.length:=by
 induction xs with
 | nil=>intro us r;cases r;rfl
 | cons x xs ih=>intro us r;obtain⟨u,vs,rfl,a,b⟩:=r;exact congrArg (· + 1) (ih b)
theorem Reps.take {h:Heap}{xs:List V}:∀ {us:List Value} (n:Nat),Reps W h xs us→Reps W h (xs.take n) (us.take n):=by
 induction xs with
 | nil=>intro us n r;cases r;rw[List.take_nil,List.take_nil];rfl
 | cons x xs ih =>
  intro us n r
  obtain⟨u,vs,rfl,a,b⟩:=r
  cases n with
  | zero=>exact .nil
  | succ n=>exact .cons a (ih n b)
theorem Reps.drop {h:Heap}{xs:List V}:∀ {us:List Value} (n:Nat),Reps W h xs us→Reps W h (xs.drop n) (us.drop n):=by
 induction xs with
 | nil=>intro us n r;cases r;rw[List.drop_nil,List.drop_nil];rfl
 | cons x xs ih =>
  intro us n r
  cases n with
  | zero=>exact r
  | succ n =>
   obtain⟨u,vs,rfl,a,b⟩:=r
   exact ih n b
theorem Reps.reverse {h:Heap}{xs:List V}:∀ {us:List Value},Reps W h xs us→Reps W h xs.reverse us.reverse:=by
 induction xs with
 | nil=>intro us r;cases r;exact .nil
 | cons x xs ih =>
  intro us r
  obtain⟨u,vs,rfl,a,b⟩:=r
  rw[List.reverse_cons,List.reverse_cons];exact (ih b).append (.cons a .nil)

theorem getItem_list_any {l:Addr}{items:Array Value}{i:Int}{t:Tok}{j:Nat}{x:Value}{Q:Value→Shared→Prop} (hl:s.heap.IsList l items) (hi:Ix i) (hj:place i items.size=some j) (hx:items[j]?=some x) (h:Q x s) :
  wpAny (model W.prog W.w) c.A (getItem (.ref l) (.int i t)) Q E s:=by
 cases place_inv hj with
 | pos h0 h1 e=>subst e;exact wpAny_getItem_list hl h0 (by have h2:=hi.2;exact lb [_] [] (.v 0) (.c (2 ^ 63)) [.b (.v 0) (.c 4611686018427387904)] [1,1] rfl h2) hx h
 | neg h0 h1 e=>subst e;exact wpAny_getItem_list_neg hl h0 (by exact la [_] [_] (.g (.t (.n 0))) (.v 0) [.l (.c 0) (.a (.v 0) (.t (.n 0)))] [1,1] rfl h1) (by have h2:=hi.1;exact la [_] [] (.c (-(2 ^ 63))) (.v 0) [.b (.c (-4611686018427387904)) (.v 0)] [1,1] rfl h2) hx h

theorem sound_idx {value slice:Expr}{x y:V}{u v:Value} (S:Sim W c P ρ H s) (hx:Rep W s.heap x u) (hy:Rep W s.heap y v) (h:widx x y Q H)
  (hs:∀o i,subscripted slice false o i=operate [o,i] (getItem o i)) :
  wpAny (model W.prog W.w) c.A (subscriptTail value slice u v) (PE W c P ρ Q) E s:=by
 obtain⟨i,rfl,k⟩:=int1_inv h
 obtain⟨t,rfl⟩:=hy
 cases x with
 | ro xs =>
  obtain⟨j,z,hi,hj,hz,k⟩:=k
  obtain⟨a,items,rfl,⟨o,g0,g1⟩,hl,r⟩:=hx
  obtain⟨t',e⟩:=r.get hz
  have hl':s.heap.IsList a items:=⟨o,S.base _ _ g0,g1⟩
  refine tail_any hl'.typeIs slot_list_getitem.lookup (getItem_list_any hl' hi (j:=j) ?_ (by rw[←Array.getElem?_toList];exact e) (pe_same S (.int z t') k)) (hs _ _)
  rw[←Array.length_toList,←r.length];exact hj
 | tup xs =>
  obtain⟨j,z,hi,hj,hz,k⟩:=k
  obtain⟨a,items,rfl,ht,hl,r⟩:=hx.isTuple
  obtain⟨w,e,rw'⟩:=r.get hz
  refine item_tupleT (l:=items.toList) ht (by have h1:=hi.1;exact la [_] [] (.c (-(2 ^ 63))) (.v 0) [.b (.c (-4611686018427387904)) (.v 0)] [1,1] rfl h1) (by have h1:=hi.2;exact lb [_] [] (.v 0) (.c (2 ^ 63)) [.b (.v 0) (.c 4611686018427387904)] [1,1] rfl h1) (j:=j) ?_ e (pe_same S rw' k) (hs _ _)
  rw[←r.length];exact place_seq hj
 | ref a =>
  cases hx
  rcases ob1_inv k with ⟨xs,ea,j,z,hi,hj,hz,k⟩ | ⟨kvs,ea,z,hz,k⟩
  ·obtain⟨_,items,n,g,r⟩:=S.heap _ _ ea
   obtain⟨w,e,rw'⟩:=r.get hz
   have hl':s.heap.IsList a items:=⟨_,g,rfl,_,rfl⟩
   refine tail_any hl'.typeIs slot_list_getitem.lookup (getItem_list_any hl' hi (j:=j) ?_ (by rw[←Array.getElem?_toList];exact e) (pe_same S rw' k)) (hs _ _)
   rw[r.size];exact hj
  ·obtain⟨_,ys,hD,r⟩:=S.heap _ _ ea
   obtain⟨w,e,rw'⟩:=(r.get (k:=i)).1 z hz
   exact tail_any hD.typeIs slot_dict_getitem.lookup (wpAny_getItem_of (intKind_is _ _ _ _) hD.mapOf e (pe_same (S.toks _) rw' k)) (hs _ _)
 | _=>exact k.elim

end
end Mine
end

section
namespace Mine
open PySem PySem.Calls PyProof.Rows PySem.SeqAt
section
variable {W:Wd}{c:Cx}{P:Addr→Obj→Prop}{ρ:Loc}{H:Hp}{s:Shared}{Q:V→Hp→Prop}{B:Bool→Hp→Prop}{E:Value→Shared→Prop}

noncomputable def bfOf:BF→Value
 | .len=>.builtin "len" | .min2=>.builtin "min" | .max2=>.builtin "max" | .abs=>.builtin "abs" | .sum=>.builtin "sum" | .sorted=>.builtin "sorted" | .list=>.type "list" | .int=>.type "int"

theorem Reps.one {h:Heap}{x:V}{us:List Value} (r:Reps W h [x] us):∃u,us=[u]∧Rep W h x u:=by
 obtain⟨u,vs,rfl,a,b⟩:=r
 cases b
 exact⟨u,rfl,a⟩
theorem Reps.two {h:Heap}{x y:V}{us:List Value} (r:Reps W h [x,y] us):∃u v,us=[u,v]∧Rep W h x u∧Rep W h y v:=by
 obtain⟨u,vs,rfl,a,b⟩:=r
 obtain⟨v,rfl,q⟩:=Reps.one b
 exact⟨u,v,rfl,a,q⟩
theorem Reps.zero {h:Heap}{us:List Value} (r:Reps W h [] us):us=[]:=r

theorem intsAre_of {h:Heap}{xs:List V}:∀ {is:List Int}{us:List Value},Reps W h xs us→intsOf xs=some is→IntsAre us is:=by
 induction xs with
 | nil=>intro is us r e;cases r;cases e;exact .nil
 | cons x xs ih =>
  intro is us r e
  obtain⟨u,vs,rfl,a,b⟩:=r
  cases x with
  | int i =>
   obtain⟨t,rfl⟩:=a
   obtain⟨js,e1,rfl⟩:=Option.map_eq_some_iff.mp e
   exact .cons i _ (ih b e1)
  | _=>cases e
theorem RepKV.length {h:Heap}{kvs:List (Int×V)}:∀ {ys:List (Int×Value)},RepKV W h kvs ys→ys.length=kvs.length:=by
 induction kvs with
 | nil=>intro ys r;cases r;rfl
 | cons p kvs ih=>intro ys r;obtain⟨u,vs,rfl,a,b⟩:=r;exact congrArg (· + 1) (ih b)

theorem bc_len {x:V}{u:Value} (S:Sim W c P ρ H s) (hb:(W.base.get? cStatics).isSome=true) (rx:Rep W s.heap x u) (h:lenW x Q H) :
  wpAny (model W.prog W.w) c.A (call (.builtin "len") [u]) (PE W c P ρ Q) E s:=by
 cases x with
 | ro xs =>
  obtain⟨a,items,rfl,⟨o,g0,g1⟩,l,i⟩:=rx
  have hl:xs.length=items.size:=i.length
  refine len_list ⟨o,S.base _ _ g0,g1⟩ (by exact lb [] [_,_] (.t (.n 0)) (.c (2 ^ 63)) [.L (.n 1) (.c 1000),.E (.n 1) (.n 0)] [1,1,-1] rfl l hl) ⟨.int _,H,S.toks _,?_,h⟩
  rw[←hl];exact .int _ _
 | tup xs =>
  obtain⟨a,it,rfl,ht,hl,ri⟩:=rx.isTuple
  have hz:=ri.size
  refine PyProof.Rows.len_tuple (items:=it) ht ?_ ⟨.int _,H,S.toks _,?_,h⟩
  ·unfold Lim at hl;exact lb [] [_,_] (.t (.n 0)) (.c (2 ^ 63)) [.L (.n 1) (.c 16777216),.E (.n 0) (.n 1)] [1,1,1] rfl hl hz
  ·rw[hz];exact .int _ _
 | ref a =>
  cases rx
  rcases ob1_inv h with ⟨xs,ea,h⟩ | ⟨kvs,ea,h⟩
  ·obtain⟨hl,it,n,g,ri⟩:=S.heap _ _ ea
   have hz:=ri.size
   refine len_list ⟨_,g,rfl,_,rfl⟩ ?_ ⟨.int _,H,S.toks _,?_,h⟩
   ·unfold Lim at hl;exact lb [] [_,_] (.t (.n 0)) (.c (2 ^ 63)) [.L (.n 1) (.c 16777216),.E (.n 0) (.n 1)] [1,1,1] rfl hl hz
   ·rw[hz];exact .int _ _
  ·obtain⟨⟨hl,_⟩,ys,hD,ri⟩:=S.heap _ _ ea
   have hz:=ri.length
   refine call_len_dict (not_sysModules S ea hb) hD ?_ ⟨.int _,H,S.toks _,?_,h⟩
   ·unfold Lim at hl;exact lb [] [_,_] (.t (.n 0)) (.c (2 ^ 63)) [.L (.n 1) (.c 16777216),.E (.n 0) (.n 1)] [1,1,1] rfl hl hz
   ·rw[hz];exact .int _ _
 | _=>exact h.elim
theorem bc_sum {a:Addr}{xs:List V}{is:List Int} (S:Sim W c P ρ H s) (hh:c.A.handled=none) (ea:H a=some (.list xs)) (ei:intsOf xs=some is) (h:Q (.int is.sum) H) :
  wpAny (model W.prog W.w) c.A (call (.builtin "sum") [.ref a]) (PE W c P ρ Q) E s:=by
 obtain⟨hl,it,n,g,ri⟩:=S.heap _ _ ea
 have hI:=intsAre_of ri ei
 have hA:AllInts it:=by have:=hI.allInts;simpa using this
 obtain⟨ys,rfl⟩:=hA.items
 refine sum_intListG hh ⟨_,g,rfl,_,rfl⟩ fun h' tk t' hk=>⟨.int _,H,S.grow hk,?_,h⟩
 rw[preSum_eq,List.take_of_length_le (by simp),←nums_intItems,hI.numsOf]
 exact .int _ _
theorem bc_list {a:Addr}{xs:List V} (S:Sim W c P ρ H s) (ea:H a=some (.list xs)) (h:newL xs Q H) :
  wpAny (model W.prog W.w) c.A (call (.type "list") [.ref a]) (PE W c P ρ Q) E s:=by
 obtain⟨hl,it,n,g,ri⟩:=S.heap _ _ ea
 refine call_list_seq _ (.inl rfl) g rfl rfl (fun h' c' hk hD=>?_) ?_
 ·have hn:=size_none s.heap
  exact⟨.ref _,H.set _ _,S.alloc (tk:=s.toks) hn hk (rep_list h.1 hD (ri.mono (.of_keeps hk))),.ref _,h.2 _ (S.hsize hn)⟩
 ·rw[ri.size,sizeLine_eq];exact h.1
theorem bc_min {a b:Int}{t t':Tok} (S:Sim W c P ρ H s) (hh:c.A.handled=none) (h:Q (.int (if b<a then b else a)) H) :
  wpAny (model W.prog W.w) c.A (call (.builtin "min") [.int a t,.int b t']) (PE W c P ρ Q) E s:=by
 refine min_two_ints hh fun h' tk hk=>⟨.int _,H,S.grow hk,?_,h⟩
 by_cases q:b<a
 ·rw[if_pos q,if_pos q];exact .int _ _
 ·rw[if_neg q,if_neg q];exact .int _ _
theorem sound_bc {f:BF}{xs:List V}{us:List Value} (hf:f≠.sorted) (S:Sim W c P ρ H s) (hh:c.A.handled=none) (hb:(W.base.get? cStatics).isSome=true) (r:Reps W s.heap xs us) (h:wbc f xs Q H) :
  wpAny (model W.prog W.w) c.A (call (bfOf f) us) (PE W c P ρ Q) E s:=by
 cases f with
 | len =>
  obtain⟨x,rfl,k⟩:=one1_inv h
  obtain⟨u,rfl,rx⟩:=r.one
  exact bc_len S hb rx k
 | min2 =>
  obtain⟨x,y,rfl,k⟩:=two1_inv h
  obtain⟨u,v,rfl,rx,ry⟩:=r.two
  obtain⟨a,b,t,t',rfl,rfl,k⟩:=int2_inv k rx ry
  exact bc_min S hh k
 | max2=>exact h.elim
 | abs =>
  obtain⟨x,rfl,k⟩:=one1_inv h
  obtain⟨u,rfl,rx⟩:=r.one
  obtain⟨a,rfl,k⟩:=int1_inv k
  obtain⟨t,rfl⟩:=rx
  exact call_abs_int fun u tk=>⟨.int _,H,S.toks _,.int _ _,k⟩
 | sum =>
  obtain⟨x,rfl,k⟩:=one1_inv h
  obtain⟨u,rfl,rx⟩:=r.one
  obtain⟨a,rfl,ys,is,ea,ei,k⟩:=ref1_inv k
  cases rx
  exact bc_sum S hh ea ei k
 | sorted=>exact absurd rfl hf
 | list =>
  obtain⟨x,rfl,k⟩:=one1_inv h
  obtain⟨u,rfl,rx⟩:=r.one
  obtain⟨a,rfl,ys,ea,k⟩:=ref1_inv k
  cases rx
  exact bc_list S ea k
 | int=>exact h.elim
end
end Mine
end

section
namespace Mine
open PySem PySem.Calls PyProof.Rows PySem.SeqAt
section
variable {W:Wd}{c:Cx}{P:Addr→Obj→Prop}{ρ:Loc}{H:Hp}{s:Shared}{Q:V→Hp→Prop}{B:Bool→Hp→Prop}{E:Value→Shared→Prop}

noncomputable def mtId:Mt→String
 | .append => "list.append" | .clear => "list.clear" | .count => "list.count" | .get => "dict.get" | .pop => "list.pop" | .reverse => "list.reverse" | .popD => "dict.pop"
noncomputable def mtName:Mt→String
 | .append => "append" | .clear => "clear" | .count => "count" | .get => "get" | .pop => "pop" | .reverse => "reverse" | .popD => "pop"

theorem upd_list {h:Heap}{a:Addr}{it:Array Value}{n:Nat} (g:h.get? a=some { cls:=.type "list",data:=.seq it n }) (f:Array Value→Array Value) :
  (h.update a (Obj.mapSeq f)).get? a=some { cls:=.type "list",data:=.seq (f it) (if (f it).size == it.size then n else n+1) }:=Heap.get?_update_self _ g rfl
theorem upd_keep {h:Heap}{a:Addr} (f:Obj→Obj):∀b o,b≠a→h.get? b=some o→(h.update a f).get? b=some o:=fun b o hb e=>(Heap.get?_update_other h f (Ne.symm hb)).trans e

theorem upd_keepR {W:Wd}{h:Heap}{a:Addr}{it:Array Value}{n:Nat} (g:h.get? a=some { cls:=.type "list",data:=.seq it n }) (f:Obj→Obj):KeepR W h (h.update a f):=by
 refine⟨fun b o i m e k d ξ=>upd_keep _ b o ?_ e,fun b o C ws e k d=>⟨o,ws,upd_keep _ b o ?_ e,k,d⟩⟩
 ·rintro rfl;rw[g] at e;cases e;exact absurd (show Value.type "list" = Value.type "tuple" from k) (by decide)
 ·rintro rfl;rw[g] at e;cases e;exact absurd k (by exact nofun)

theorem Sim.writeL {a:Addr}{o₀:Ob}{xs:List V}{it:Array Value}{n:Nat} (S:Sim W c P ρ H s) (ha:H a=some o₀) (g:s.heap.get? a=some { cls:=.type "list",data:=.seq it n }) (f:Array Value→Array Value) (hl:xs.length≤Lim) (r:Reps W s.heap xs (f it).toList) :
  Sim W c P ρ (H.set a (.list xs)) { s with heap:=s.heap.update a (Obj.mapSeq f) }:=by
 refine S.write (tk:=s.toks) ha (upd_keep _) (rep_list hl (upd_list g f) (r.mono (upd_keepR g _)))

theorem Reps.erase {h:Heap}{xs:List V}:∀ {us:List Value} (n:Nat),Reps W h xs us→Reps W h (xs.eraseIdx n) (us.eraseIdx n):=by
 induction xs with
 | nil=>intro us n r;cases r;rw[List.eraseIdx_nil,List.eraseIdx_nil];rfl
 | cons x xs ih =>
  intro us n r
  obtain⟨u,vs,rfl,a,b⟩:=r
  cases n with
  | zero=>exact b
  | succ n=>exact .cons a (ih n b)

noncomputable def eqV (u v:Value):Bool:=(match u with | .int a _=>(match v with | .int b _=>a == b | _=>false) | .bool a=>(match v with | .bool b=>a == b | _=>false) | _=>false)
theorem cntB_spec {h:Heap}{x y:V}{u v:Value}{b:Bool} (rx:Rep W h x u) (ry:Rep W h y v) (e:cntB x y=some b):(∀A s,EqAt A s v u (eqV v u))∧eqV v u=b:=by
 cases x with
 | bool a =>
  cases rx
  cases y with
  | bool c=>cases ry;cases e;exact⟨fun A s=>EqAt.bool_bool _ _,rfl⟩
  | _=>cases e
 | int a =>
  obtain⟨t,rfl⟩:=rx
  cases y with
  | int c=>obtain⟨t',rfl⟩:=ry;cases e;exact⟨fun A s=>EqAt.int_int _ _ _ _,rfl⟩
  | _=>cases e
 | _=>cases e
theorem cntL_inv {x y:V}{ys:List V}{n:Nat} (e:cntL x (y :: ys)=some n):∃b m,cntB x y=some b∧cntL x ys=some m∧n=if b then m+1 else m:=by
 have e:Option.casesOn (motive:=fun ξ=>Option Nat) (cntB x y) none (fun b=>Option.casesOn (motive:=fun ξ=>Option Nat) (cntL x ys) none fun n=>some (if b then n+1 else n))=some n:=e
 cases p:cntB x y with
 | none=>rw[p] at e;cases e
 | some b=>cases q:cntL x ys with
  | none=>rw[p,q] at e;cases e
  | some m=>rw[p,q] at e;exact⟨b,m,rfl,rfl,(Option.some.inj e).symm⟩
theorem cntL_spec {h:Heap}{x:V}{u:Value} (rx:Rep W h x u) {ys:List V}:∀ {us:List Value}{n:Nat},Reps W h ys us→cntL x ys=some n→(∀A s,∀y∈us,EqAt A s y u (eqV y u))∧n=us.countP (fun y=>eqV y u):=by
 induction ys with
 | nil=>intro us n r e;cases r;cases e;exact⟨fun ξ ξ y hy=>(by cases hy),rfl⟩
 | cons y ys ih =>
  intro us n r e
  obtain⟨v,vs,rfl,a,b⟩:=r
  obtain⟨k,m,e1,e2,rfl⟩:=cntL_inv e
  obtain⟨i1,i2⟩:=ih b e2
  obtain⟨j1,j2⟩:=cntB_spec rx a e1
  refine⟨fun A s y hy=>?_,?_⟩
  ·cases hy with
   | head=>exact j1 A s
   | tail _ hy=>exact i1 A s y hy
  ·rw[List.countP_cons,←i2,j2];cases k <;> rfl

theorem mt_append {a:Addr}{v:Value}{x:V}{ys:List V} (S:Sim W c P ρ H s) (rv:Rep W s.heap x v) (ea:H a=some (.list ys)) (hz:ys.length<Lim) (h:Q .none (H.set a (.list (ys++[x])))) :
  wpAny (model W.prog W.w) c.A (call (.builtin "list.append") [.ref a,v]) (PE W c P ρ Q) E s:=by
 obtain⟨hl,it,n,g,ri⟩:=S.heap _ _ ea
 refine call_meets F.slot_list_append ⟨_,g,rfl⟩ F.entry_list_append (F.args_list_append_2 _ _) (list_append a it n v ?_) ⟨g,⟨.none,_,S.writeL ea g (·.push v) ?_ ?_,.none,h⟩⟩
 ·rw[ri.size,sizeLine_eq];exact hl
 ·rw[List.length_append];exact hz
 ·rw[Array.toList_push];exact ri.append (.cons rv .nil)
theorem mt_reverse {a:Addr}{ys:List V} (S:Sim W c P ρ H s) (ea:H a=some (.list ys)) (h:Q .none (H.set a (.list ys.reverse))) :
  wpAny (model W.prog W.w) c.A (call (.builtin "list.reverse") [.ref a]) (PE W c P ρ Q) E s:=by
 obtain⟨hl,it,n,g,ri⟩:=S.heap _ _ ea
 refine call_meets F.slot_list_reverse ⟨_,g,rfl⟩ F.entry_list_reverse (F.args_list_reverse_1 _) (AutoSeq1.list_reverse_list_0 a it n ?_) ⟨g,⟨.none,_,S.writeL ea g (fun x=>x.reverse) ?_ ?_,.none,h⟩⟩
 ·rw[ri.size,sizeLine_eq];exact hl
 ·rw[List.length_reverse];exact hl
 ·rw[Array.toList_reverse];exact ri.reverse
theorem mt_pop0 {a:Addr}{ys:List V}{y:V} (S:Sim W c P ρ H s) (ea:H a=some (.list (ys++[y]))) (h:Q y (H.set a (.list ys))) :
  wpAny (model W.prog W.w) c.A (call (.builtin "list.pop") [.ref a]) (PE W c P ρ Q) E s:=by
 obtain⟨hl,it,n,g,ri⟩:=S.heap _ _ ea
 have hsz:it.size=ys.length+1:=by rw[ri.size,List.length_append];rfl
 obtain⟨v,ev,rv⟩:=ri.get (i:=ys.length) (v:=y) (by simp)
 refine call_meets F.slot_list_pop ⟨_,g,rfl⟩ F.entry_list_pop (F.args_list_pop_1 _) (PySem.MeetsSeq.list_pop_last a it n v ?_ ?_) ⟨g,⟨y,_,S.writeL ea g (fun xs=>xs.eraseIdxIfInBounds (it.size-1)) ?_ ?_,rv.mono (upd_keepR g _),h⟩⟩
 ·rw[hsz,←Array.getElem?_toList];exact ev
 ·rw[ri.size,sizeLine_eq];exact hl
 ·rw[List.length_append] at hl;exact Nat.le_of_succ_le hl
 ·have e:(it.eraseIdxIfInBounds (it.size-1)).toList=it.toList.eraseIdx (it.size-1):=by simp [Array.eraseIdxIfInBounds,hsz]
  rw[e]
  have:=ri.erase (it.size-1)
  rw[hsz,Nat.add_sub_cancel,List.eraseIdx_append_of_length_le (Nat.le_refl _)] at this
  rw[hsz,Nat.add_sub_cancel]
  simpa using this
theorem mt_count {a:Addr}{x:V}{v:Value}{ys:List V}{k:Nat} (S:Sim W c P ρ H s) (rv:Rep W s.heap x v) (ea:H a=some (.list ys)) (ek:cntL x ys=some k) (h:Q (.int k) H) :
  wpAny (model W.prog W.w) c.A (call (.builtin "list.count") [.ref a,v]) (PE W c P ρ Q) E s:=by
 obtain⟨hl,it,n,g,ri⟩:=S.heap _ _ ea
 obtain⟨i1,i2⟩:=cntL_spec rv ri ek
 refine call_meets F.slot_list_count ⟨_,g,rfl⟩ F.entry_list_count (F.args_list_count_2 _ _) (list_countAt a it n none #[] v (fun y=>eqV y v)) ⟨g,fun y hy=>i1 _ _ y (by simpa using hy),⟨.int k,H,S.toks _,?_,h⟩⟩
 rw[i2];exact .int _ _
theorem mt_get {a:Addr}{k:Int}{t:Tok}{d:V}{w:Value}{kvs:List (Int×V)} (S:Sim W c P ρ H s) (hb:(W.base.get? cStatics).isSome=true) (rd:Rep W s.heap d w) (ea:H a=some (.dict kvs)) (h:Q ((dget k kvs).getD d) H) :
  wpAny (model W.prog W.w) c.A (call (.builtin "dict.get") [.ref a,.int k t,w]) (PE W c P ρ Q) E s:=by
 obtain⟨⟨hl,_⟩,ys,hD,ri⟩:=S.heap _ _ ea
 refine call_meetsIn F.slot_dict_get hD.typeIs F.entry_dict_get (F.args_dict_get_3 _ _ _) (meets_dict_get_default (intKind W.prog W.w) a (intKind_is _ _ k _) (not_sysModules S ea hb) w) ⟨_,hD.mapOf,⟨_,H,S.toks _,?_,h⟩⟩
 obtain⟨p1,p2⟩:=ri.get (k:=k)
 cases q:dget k kvs with
 | none =>
  rw[q] at p2
  have:valueAt ys k=none:=by cases z:valueAt ys k with | none=>rfl | some _=>rw[z] at p2;cases p2
  rw[this];exact rd
 | some v=>obtain⟨u,e,ru⟩:=p1 v q;rw[e];exact ru
theorem sound_mt {m:Mt}{x:V}{xs:List V}{u:Value}{us:List Value} (hm:m≠.popD) (S:Sim W c P ρ H s) (hu:c.A.units+20<cLine) (hb:(W.base.get? cStatics).isSome=true) (rx:Rep W s.heap x u) (r:Reps W s.heap xs us) (h:wmt m x xs Q H) :
  wpAny (model W.prog W.w) c.A (call (.builtin (mtId m)) (u :: us)) (PE W c P ρ Q) E s:=by
 obtain⟨a,rfl,k⟩:=ref1_inv h
 cases rx
 cases m with
 | append =>
  obtain⟨y,rfl,ys,ea,hz,k⟩:=one1_inv k
  obtain⟨v,rfl,rv⟩:=r.one
  exact mt_append S rv ea hz k
 | clear=>exact k.elim
 | count =>
  obtain⟨y,rfl,ys,n,ea,ek,k⟩:=one1_inv k
  obtain⟨v,rfl,rv⟩:=r.one
  exact mt_count S rv ea ek k
 | get =>
  obtain⟨i,d,rfl,k⟩:=two1_inv k
  obtain⟨v,w,rfl,rv,rd⟩:=r.two
  obtain⟨i,rfl,kvs,ea,k⟩:=int1_inv k
  obtain⟨t,rfl⟩:=rv
  exact mt_get S hb rd ea k
 | pop =>
  cases xs with
  | nil =>
   obtain⟨ys,y,ea,k⟩:=k
   cases r
   exact mt_pop0 S ea k
  | cons y ys=>cases ys with
   | nil=>exact k.elim
   | cons _ _=>exact k.elim
 | reverse =>
  obtain⟨rfl,ys,ea,k⟩:=nil1_inv k
  cases r
  exact mt_reverse S ea k
 | popD=>exact absurd rfl hm
end
end Mine
end

section
namespace Mine
open PySem PySem.W PySem.Calls PyProof.Rows
section
variable {prog:Program}{w:World}{A:Around}{E:Value→Shared→Prop}{s:Shared}{K:Frag}{a D:Addr}{o:Obj}

theorem looks_ty {M:Model}{h:Heap} (hx:h.get? a=some o) (hc:o.cls=.ref D):Looks M h (typeOf (.ref a)) (.ref D):=hc▸(Looks.ld hx).andThen .now

theorem check_ga {M:Model}{nameV:Value}{Q:Unit→Shared→Prop} (X:K.In s.heap) (hmB:mroIn K D (.type "BaseException")=some true)
  (hx:s.heap.get? a=some o) (hc:o.cls=.ref D) (hq:Q () s):wpAny M A (checkBuiltinCall "BaseException.__getattribute__" ⟨[.ref a,nameV],[]⟩) Q E s:=by
 have hk:builtinKind "BaseException.__getattribute__" = some .slot:=by decide +kernel
 have hsplit:splitId "BaseException.__getattribute__" = some ("BaseException", "__getattribute__"):=by decide +kernel
 have ha:=F.args_bexc_ga (.ref a) nameV
 obtain⟨hh,g,d,t,os⟩:=s
 have L0:=looks_ty (M:=M) hx hc
 have L1:=looks_mroIn (M:=M) X hmB
 have LI:Looks M hh (isInstance (.ref a) (.type "BaseException")) true:=L0.andThen L1
 simp only[checkBuiltinCall,hk,hsplit]
 refine wpAny_bind (LI.at ?_)

 repeat lk

 exact hq

open Builtin Builtin.ObjectAttr Builtin.Getset_descriptor in
theorem class_get' {tp:Value}{R:Result→Shared→Prop} (X:K.In s.heap) (L0:Looks (model prog w) s.heap (typeOf (.ref a)) (.ref D)) (hm:mroIn K D (.type "object")=some true)
  (h:R (.ok (.ret (.ref D))) s):codeAny (model prog w) A (.call (.builtin "getset_descriptor.__get__") ⟨[.builtin "object.__class__",.ref a,tp],[]⟩) R s:=by
 obtain⟨hh,g,dr,t,os⟩:=s
 have L1:=looks_mroIn (M:=model prog w) X hm
 refine codeAny_call_builtin KF.slot_gs.plain KF.entry_gs (KF.slot_gs.check _ _ _ _ _ _ _ _ KF.type_class (KF.args_gs _ _ _) ?_)
 unfold Builtin.«getset_descriptor.__get__» descrGet
 rw[dga_obj]
 refine wpAny_bind (wpAny_pure ?_)
 unfold descrGetter descrCheckInstance descrNameAndClass isInstance
 simp only[KF.owner_class]
 repeat lk
 refine⟨Code.quiet_builtin _ (by decide +kernel),codeAny_builtin KF.entry_class ?_⟩
 unfold Builtin.«object.__class__» shownTypeOf
 repeat lk
 exact h

theorem exc_class {Q:Option Value→Shared→Prop} (X:K.In s.heap) (hx:s.heap.get? a=some o) (hc:o.cls=.ref D)
  (hga:findIn K (.ref D) "__getattribute__" = some (some (.builtin "BaseException.__getattribute__"))) (hgn:findIn K (.ref D) "__getattr__" = some none)
  (ha:findIn K (.ref D) "__class__" = some (some (.builtin "object.__class__"))) (hn:specialIn K (.builtin "object.__class__") "__get__" = some (some (.builtin "getset_descriptor.__get__")))
  (htk:takesIn K (.builtin "object.__class__")=some true) (hm:mroIn K D (.type "object")=some true) (hmB:mroIn K D (.type "BaseException")=some true)
  (h:Q (some (.ref D)) { s with toks:=s.toks+1 }):wpAny (model prog w) A (getAttr? (.ref a) "__class__") Q E s:=by
 obtain⟨hh,g,d,t,os⟩:=s
 have L0:=looks_ty (M:=model prog w) hx hc
 have L1:=looks_findIn (M:=model prog w) X hga
 have L2:=looks_findIn (M:=model prog w) X hgn
 have L3:=looks_findIn (M:=model prog w) X ha
 unfold getAttr? getAttrBy? getAttrBy
 refine wpAny_bind (wpAny_mkText (wpAny_bind (wpAny_attempt (wpAny_holding (wpAny_bind (L0.at (wpAny_bind (L1.at ?_))))))))
 show wpAny _ _ (getAttrByItsOwn _ _ _ _ _ _) _ _ _
 unfold getAttrByItsOwn
 refine wpAny_bind (Looks.at (show Looks _ _ (hookBefore (.ref D)) none from L2) ?_)
 refine wpAny_bind (wpAny_attempt (wpAny_holding ?_))
 show wpAny _ _ (boundAndCalled (.builtin "BaseException.__getattribute__") (.ref a) _) _ _ _
 unfold boundAndCalled
 rw[PySem.F.attr_ValueError.ga.bind]
 refine wpAny_bind (wpAny_pure (wpAny_call ?_))
 refine codeAny_call_builtin PySem.F.attr_ValueError.ga.plain F.entry_bexc_ga (check_ga (K:=K) X hmB hx hc ?_)
 have L5:=looks_specialIn (M:=model prog w) X hn
 have L6:=looks_takesIn (M:=model prog w) X htk
 have L4:Looks (model prog w) hh (Builtin.ObjectAttr.find (.ref a) (.ref D) "__class__") (.bind (.builtin "getset_descriptor.__get__") (.builtin "object.__class__")):=by
  refine L3.andThen ?_
  refine Looks.andThen (show Looks (model prog w) hh (Builtin.ObjectAttr.getOf (some (.builtin "object.__class__"))) (some (.builtin "getset_descriptor.__get__")) from L5) ?_
  refine Looks.andThen (show Looks (model prog w) hh (Builtin.ObjectAttr.dataDescriptor? (some (.builtin "object.__class__")) (some (.builtin "getset_descriptor.__get__"))) (some (.builtin "getset_descriptor.__get__",.builtin "object.__class__")) from L6.andThen .now) (Looks.tag .now)

 unfold Builtin.«object.__getattribute__»
 repeat lk
 refine wpAny_run (c:=Code.call (Value.builtin "getset_descriptor.__get__") ⟨[Value.builtin "object.__class__",Value.ref a,Value.ref D],[]⟩) (h:=none) ?_
 refine class_get' (K:=K) X (looks_ty hx hc) hm ?_
 exact wpAny_pure (wpAny_pure (handed_on rfl (wpAny_pure h)))

structure ExcCls (K:Frag) (D:Addr):Prop where
 cls:(clsIn K D).isSome=true
 ty:typeIn K (.ref D)=some (.type "type")
 ga:findIn K (.ref D) "__getattribute__" = some (some (.builtin "BaseException.__getattribute__"))
 gn:findIn K (.ref D) "__getattr__" = some none
 ca:findIn K (.ref D) "__class__" = some (some (.builtin "object.__class__"))
 get:specialIn K (.builtin "object.__class__") "__get__" = some (some (.builtin "getset_descriptor.__get__"))
 takes:takesIn K (.builtin "object.__class__")=some true
 obj:mroIn K D (.type "object")=some true
 base:mroIn K D (.type "BaseException")=some true

set_option tactic.hygienic true in
theorem kitx_exc (Z:ExcCls K D):KitX K (.ref a) (.ref D) (fun h=>∃o,h.get? a=some o∧o.cls=.ref D) where
 ty:=fun _ _ _ ⟨o,h1,h2⟩=>looks_ty h1 h2
 it:=fun ξ ξ X ξ=>by
  obtain⟨cdD,hcD⟩:=Option.isSome_iff_exists.mp Z.cls
  unfold clsIn at hcD
  split at hcD
  ·rename_i c' d' cd' sl' ho
   intro A' Q' E' s' k q
   unfold isType loadHead
   exact wpAny_bind (wpAny_loadPart (k _ _ (X _ _ ho)) (wpAny_pure q))
  ·cases hcD
 ne:=fun h tp dd its n sl X htp=>by
  obtain⟨cdD,hcD⟩:=Option.isSome_iff_exists.mp Z.cls
  refine Bool.eq_false_iff.mpr fun q=>?_
  have e:D=tp:=Value.ref.inj (beq_iff_eq.mp q)
  subst e
  unfold clsIn at hcD
  split at hcD
  ·rename_i c' d' cd' sl' ho
   have z:=(X _ _ ho).symm.trans htp
   cases z
  ·cases hcD
 ca:=fun X ⟨o,h1,h2⟩ k=>exc_class X h1 h2 Z.ga Z.gn Z.ca Z.get Z.takes Z.obj Z.base k
end
noncomputable def isiTy (t n:String):Bool:=(t == n) || (t == "bool" && n == "int")
end Mine
end

section
namespace Mine
open PySem PySem.Calls PyProof.Rows PySem.SeqAt

structure Kc where
 sc:Scope
 names:List String
 vis:Nat→Bool
 gint:List (String×Int)
 fns:List String
 cls:List String
 inC:Bool
noncomputable def Kc.var (K:Kc) (i:Nat) (x:Str):Bool:=K.vis i && (match K.names[i]? with | some y=>Str.ofString y == x | none=>false) && !(x == ("__debug__" : Str))
noncomputable def Kc.gl (K:Kc) (x:Str):Bool:=(K.sc.names.lookup x == some .globalImplicit) && !(x == ("__debug__" : Str))
noncomputable def Kc.tgt (K:Kc) (i:Nat) (x:Str):Bool:=K.vis i && (match K.names[i]? with | some y=>Str.ofString y == x | none=>false) && (K.sc.names.lookup x == some .local || (K.sc.names.lookup x == some .cell && !K.inC))
noncomputable def Tg.slots:Tg→List Nat
 | .one i=>[i] | .two i j=>[i,j]
noncomputable def cOk (K:Kc) (scope:Scope) (t:Tg):Bool :=
 scope.kind == .function && scope.names.all (fun y=>y.2 != .cell && (y.2 != .local || scope.names.lookup y.1 == some .local) && (y.2 != .free || K.sc.names.lookup y.1 == some .cell)) &&
  (List.range K.names.length).all (fun i=>match K.names[i]? with | some x=>(match scope.names.lookup (Str.ofString x) with | some .local=>t.slots.contains i | _=>true) | none=>true)

noncomputable def bfName:BF→String
 | .len => "len" | .min2 => "min" | .max2 => "max" | .abs => "abs" | .sum => "sum" | .sorted => "sorted" | .list => "list" | .int => "int"
noncomputable def cnName:Cn→Option String
 | .own _=>none | .int=>some "int" | .bool=>some "bool" | .list=>some "list" | .tuple=>some "tuple" | .valueError=>some "ValueError"

noncomputable def relabelS (scope outer:Scope):Scope :=
 { scope with names:=scope.names.map fun (n,k)=>if (k == .free && outer.kind == .function && outer.names.lookup n == some .cell) then (n,.cell) else (n,k) }
noncomputable def Kc.comp (K:Kc) (scope:Scope):Kc :=
 { K with sc:=relabelS scope K.sc,vis:=fun i=>match K.names[i]? with | some y=>(match scope.names.lookup (Str.ofString y) with | some .local=>true | some .free=>K.vis i && (K.sc.names.lookup (Str.ofString y) == some .cell) | _=>false) | none=>false,inC:=true }

inductive MCn (K:Kc):Cn→Expr→Prop
 | own {c x p}:x=Str.ofString c→K.gl x=true→K.cls.contains c=true→MCn K (.own c) (.Name x p)
 | ty {c n x p}:cnName c=some n→x=Str.ofString n→K.gl x=true→MCn K c (.Name x p)
inductive MCns (K:Kc):List Cn→List Expr→Prop
 | nil:MCns K [] []
 | cons {c x cs xs}:MCn K c x→MCns K cs xs→MCns K (c :: cs) (x :: xs)
inductive MTg (K:Kc):Tg→Expr→Prop
 | one {i x p}:K.tgt i x=true→MTg K (.one i) (.Name x p)
 | two {i j x y p q k pos}:K.tgt i x=true→K.tgt j y=true→MTg K (.two i j) (.Tuple [.Name x p,.Name y q] k pos)

noncomputable def kids (x:Expr):List Expr:=Expr.casesOn (motive_1:=fun ξ=>List Expr) x (fun ξ vs ξ=>vs) (fun ξ ξ ξ=>[]) (fun l ξ r ξ=>[l,r]) (fun ξ e ξ=>[e]) (fun ξ ξ ξ ξ=>[]) (fun a b c ξ=>[a,b,c]) (fun ξ ξ ξ=>[]) (fun ξ ξ ξ=>[]) (fun e gs ξ ξ=>e :: List.casesOn (motive:=fun ξ=>List Expr) gs [] fun g ξ=>g.target :: g.iter :: g.ifs)
 (fun ξ ξ ξ ξ=>[]) (fun ξ ξ ξ ξ ξ=>[]) (fun ξ ξ ξ ξ=>[]) (fun ξ ξ=>[]) (fun ξ ξ=>[]) (fun ξ ξ=>[]) (fun l ξ rs ξ=>l :: rs) (fun f as ξ ξ=>f :: as) (fun ξ ξ ξ ξ=>[]) (fun ξ ξ=>[]) (fun ξ ξ ξ=>[]) (fun v ξ ξ=>[v]) (fun v s ξ=>[v,s]) (fun ξ ξ=>[]) (fun ξ ξ=>[]) (fun es ξ=>es) (fun es ξ ξ=>es)
 (fun a b c ξ=>a.toList++(b.toList++c.toList))
noncomputable def kOf (x:Expr):Nat:=Expr.casesOn (motive_1:=fun ξ=>Nat) x (fun ξ ξ ξ=>0) (fun ξ ξ ξ=>0) (fun ξ ξ ξ ξ=>0) (fun ξ ξ ξ=>0) (fun ξ ξ ξ ξ=>0) (fun ξ ξ ξ ξ=>0) (fun ξ ξ ξ=>0) (fun ξ ξ ξ=>0) (fun ξ ξ ξ ξ=>0)
 (fun ξ ξ ξ ξ=>0) (fun ξ ξ ξ ξ ξ=>0) (fun ξ ξ ξ ξ=>0) (fun ξ ξ=>0) (fun ξ ξ=>0) (fun ξ ξ=>0) (fun ξ ξ ξ ξ=>0) (fun ξ ξ ξ ξ=>0) (fun ξ ξ ξ ξ=>0) (fun ξ ξ=>0) (fun ξ k ξ=>k) (fun ξ ξ ξ=>0) (fun ξ ξ ξ=>0) (fun ξ ξ=>0) (fun ξ ξ=>0) (fun ξ ξ=>0) (fun ξ k ξ=>k) (fun ξ ξ ξ ξ=>0)
noncomputable def scOf (x:Expr) (d:Scope):Scope:=Expr.casesOn (motive_1:=fun ξ=>Scope) x (fun ξ ξ ξ=>d) (fun ξ ξ ξ=>d) (fun ξ ξ ξ ξ=>d) (fun ξ ξ ξ=>d) (fun ξ ξ ξ ξ=>d) (fun ξ ξ ξ ξ=>d) (fun ξ ξ ξ=>d) (fun ξ ξ ξ=>d) (fun ξ ξ s ξ=>s)
 (fun ξ ξ ξ ξ=>d) (fun ξ ξ ξ ξ ξ=>d) (fun ξ ξ ξ ξ=>d) (fun ξ ξ=>d) (fun ξ ξ=>d) (fun ξ ξ=>d) (fun ξ ξ ξ ξ=>d) (fun ξ ξ ξ ξ=>d) (fun ξ ξ ξ ξ=>d) (fun ξ ξ=>d) (fun ξ ξ ξ=>d) (fun ξ ξ ξ=>d) (fun ξ ξ ξ=>d) (fun ξ ξ=>d) (fun ξ ξ=>d) (fun ξ ξ=>d) (fun ξ ξ ξ=>d) (fun ξ ξ ξ ξ=>d)
noncomputable def kdOf (x:Expr) (s l t c o:Bool):Bool:=Expr.casesOn (motive_1:=fun ξ=>Bool) x (fun ξ ξ ξ=>o) (fun ξ ξ ξ=>o) (fun ξ ξ ξ ξ=>o) (fun ξ ξ ξ=>o) (fun ξ ξ ξ ξ=>o) (fun ξ ξ ξ ξ=>o) (fun ξ ξ ξ=>o) (fun ξ ξ ξ=>s) (fun ξ ξ ξ ξ=>l)
 (fun ξ ξ ξ ξ=>s) (fun ξ ξ ξ ξ ξ=>s) (fun ξ ξ ξ ξ=>o) (fun ξ ξ=>o) (fun ξ ξ=>o) (fun ξ ξ=>o) (fun ξ ξ ξ ξ=>o) (fun ξ ξ ξ ξ=>c) (fun ξ ξ ξ ξ=>o) (fun ξ ξ=>o) (fun ξ ξ ξ=>o) (fun ξ ξ ξ=>o) (fun ξ ξ ξ=>o) (fun ξ ξ=>s) (fun ξ ξ=>o) (fun ξ ξ=>o) (fun ξ ξ ξ=>t) (fun ξ ξ ξ ξ=>s)
structure Pl (x:Expr):Prop where
 star:∀xs env,starEach (x :: xs) env=(false,eval x env) :: starEach xs env
 sub:∀o i,subscripted x false o i=operate [o,i] (getItem o i)
 fold:∀env v,foldedSetIterable x env v=pure v
 mark:∀o,behindInMarks o x=false
 set:∀a b p n env,swapsWith x (some (.Subscript a b p)) n env=pure false
theorem pl_of {x:Expr} (h:kdOf x false true true true true=true):Pl x:=by
 cases x <;> first | exact⟨fun ξ ξ=>rfl,fun ξ ξ=>rfl,fun ξ ξ=>rfl,fun ξ=>rfl,fun ξ ξ ξ ξ ξ=>rfl⟩ | cases h
theorem sw_of {x:Expr} (h:kdOf x false false true true true=true) (t:Option Expr) (n:Nat) (env:Env):swapsWith x t n env=pure false:=by
 cases x <;> first | rfl | cases h
theorem tup_sw {ts:List Expr}{k:Nat}{p:Pos}{x:Expr} (h:kdOf x false true false true true=true) (n:Nat) (env:Env):swapsWithSole [.Tuple ts k p] x n env=pure false∧swappedStores [.Tuple ts k p] x env=pure none:=by
 cases x <;> first | exact⟨rfl,rfl⟩ | cases h
theorem ab_of {x:Expr} (h:kdOf x true true true false true=true) (y:Str) (env:Env) (w:Sem Value):attributeBase x y env w=w:=by
 cases x <;> first | rfl | cases h
noncomputable section
noncomputable def dX:Expr:=.List [] ⟨0,0,0,0⟩
noncomputable def kid (i:Nat) (x:Expr):Expr:=(kids x).getD i dX
noncomputable def Kc.nm (K:Kc) (i:Nat):Str:=Str.ofString (K.names.getD i "")
abbrev EM:=Kc→Expr→Bool×Expr
abbrev EMs:=Kc→List Expr→Bool×List Expr
noncomputable def m0 (c:Const):EM:=fun ξ x=>(true,.Constant c (kOf x) x.pos)
noncomputable def m1 (f:Expr→Pos→Expr) (a:EM):EM:=fun K x=>((a K (kid 0 x)).1,f (a K (kid 0 x)).2 x.pos)
noncomputable def m2 (f:Expr→Expr→Pos→Expr) (a b:EM):EM:=fun K x=>((a K (kid 0 x)).1 && (b K (kid 1 x)).1,f (a K (kid 0 x)).2 (b K (kid 1 x)).2 x.pos)
noncomputable def m3 (f:Expr→Expr→Expr→Pos→Expr) (a b d:EM):EM:=fun K x=>((a K (kid 0 x)).1 && ((b K (kid 1 x)).1 && (d K (kid 2 x)).1),f (a K (kid 0 x)).2 (b K (kid 1 x)).2 (d K (kid 2 x)).2 x.pos)
noncomputable def mL (f:List Expr→Expr→Expr) (es:EMs):EM:=fun K x=>((es K (kids x)).1,f (es K (kids x)).2 x)
noncomputable def mn:EMs:=fun ξ ξ=>(true,[])
noncomputable def mc (a:EM) (r:EMs):EMs:=fun K xs=>((a K (xs.getD 0 dX)).1 && (r K xs.tail).1,(a K (xs.getD 0 dX)).2 :: (r K xs.tail).2)
noncomputable def mC (f:String) (b:Kc→Bool) (es:EMs):EM:=fun K x=>((K.gl (Str.ofString f) && b K) && (!(es K (kids x).tail).2.isEmpty && (es K (kids x).tail).1),.Call (.Name (Str.ofString f) (kid 0 x).pos) (es K (kids x).tail).2 [] x.pos)
noncomputable def mM (m:Mt) (a:EM) (es:EMs):EM:=fun K x=>((decide (m≠.popD) && ((kid 0 x).pos.endLine == x.pos.line && kdOf (a K (kid 0 (kid 0 x))).2 true true true false true)) && (Nat.blt (es K (kids x).tail).2.length 29 && ((a K (kid 0 (kid 0 x))).1 && (es K (kids x).tail).1)),.Call (.Attribute (a K (kid 0 (kid 0 x))).2 (Str.ofString (mtName m)) (kid 0 x).pos) (es K (kids x).tail).2 [] x.pos)
noncomputable def cnS (c:Cn):String:=Cn.casesOn (motive:=fun ξ=>String) c (fun c=>c) "int" "bool" "list" "tuple" "ValueError"
noncomputable def cnB (K:Kc) (c:Cn):Bool:=K.gl (Str.ofString (cnS c)) && Cn.casesOn (motive:=fun ξ=>Bool) c (fun c=>K.cls.contains c) true true true true true
noncomputable def cnX (c:Cn):EM:=fun K x=>(cnB K c,.Name (Str.ofString (cnS c)) x.pos)
noncomputable def cnL (cs:List Cn):EMs:=List.rec (motive:=fun ξ=>EMs) mn (fun c ξ r=>mc (cnX c) r) cs
noncomputable def cnsX (cs:List Cn):EM:=List.casesOn (motive:=fun ξ=>EM) cs (fun ξ x=>(false,x)) fun c r=>List.casesOn (motive:=fun ξ=>EM) r (cnX c) fun ξ ξ=>mL (fun es x=>.Tuple es (kOf x) x.pos) (cnL cs)
noncomputable def cnsB (cs:List Cn) (_:Kc):Bool:=Nat.blt cs.length 1002
noncomputable def tgX (t:Tg):EM:=Tg.casesOn (motive:=fun ξ=>EM) t (fun i K x=>(K.tgt i (K.nm i),.Name (K.nm i) x.pos)) fun i j K x=>(K.tgt i (K.nm i) && K.tgt j (K.nm j),.Tuple [.Name (K.nm i) (kid 0 x).pos,.Name (K.nm j) (kid 1 x).pos] (kOf x) x.pos)
noncomputable def mP (t:Tg) (a s:EM) (ds:EMs):EM:=fun K x=>((!K.inC && cOk K (scOf x K.sc) t) && ((tgX t (K.comp (scOf x K.sc)) (kid 1 x)).1 && ((s K (kid 2 x)).1 && ((a (K.comp (scOf x K.sc)) (kid 0 x)).1 && (ds (K.comp (scOf x K.sc)) ((kids x).drop 3)).1))),
 .ListComp (a (K.comp (scOf x K.sc)) (kid 0 x)).2 [⟨(tgX t (K.comp (scOf x K.sc)) (kid 1 x)).2,(s K (kid 2 x)).2,(ds (K.comp (scOf x K.sc)) ((kids x).drop 3)).2,0⟩] (scOf x K.sc) x.pos)
noncomputable def enB (s:Sr):Bool:=Sr.casesOn (motive_3:=fun ξ=>Bool) s
 (ex:=fun ξ=>false)
 (range1:=fun ξ=>false)
 (range2:=fun ξ ξ=>false)
 (range3:=fun ξ ξ ξ=>true)
 (enum:=fun ξ=>false)
 (zip:=fun ξ ξ=>false)
noncomputable def encE (e:Ex):EM:=Ex.rec (motive_1:=fun ξ=>EM) (motive_2:=fun ξ=>EMs) (motive_3:=fun ξ=>EM)
 (none:=m0 .none)
 (bool:=fun b=>m0 (.bool b))
 (int:=fun i=>m0 (.int i))
 (str:=fun s=>m0 (.str (Str.ofString s)))
 (var:=fun i K x=>(K.var i (K.nm i),.Name (K.nm i) x.pos))
 (glob:=fun y n K x=>(K.gl (Str.ofString y) && (K.gint.lookup y == some n),.Name (Str.ofString y) x.pos))
 (bin:=fun op ξ ξ=>m2 fun l r=>.BinOp l (opOf op) r)
 (neg:=fun ξ=>m1 (.UnaryOp .USub))
 (nt:=fun ξ=>m1 (.UnaryOp .Not))
 (cmp:=fun op ξ ξ=>m2 fun l r=>.Compare l [cmOf op] [r])
 (cmp2:=fun o1 o2 ξ ξ ξ=>m3 fun l r t=>.Compare l [cmOf o1,cmOf o2] [r,t])
 (bop:=fun j ξ=>mL fun es x=>.BoolOp (Bool.casesOn (motive:=fun ξ=>BoolOp) j .Or .And) es x.pos)
 (list:=fun ξ=>mL fun es x=>.List es x.pos)
 (tup:=fun ξ=>mL fun es x=>.Tuple es (kOf x) x.pos)
 (dict0:=fun ξ x=>(true,.Dict [] [] x.pos))
 (idx:=fun ξ ξ=>m2 .Subscript)
 (rev:=fun ξ a=>m2 .Subscript a (m1 (fun y=>.Slice none none (some y)) (m1 (.UnaryOp .USub) (m0 (.int 1)))))
 (call:=fun f ξ=>mC f fun K=>K.fns.contains f)
 (bc:=fun f ξ=>mC (bfName f) fun ξ=>true)
 (mt:=fun m ξ ξ=>mM m)
 (isi:=fun ξ cs a=>mC "isinstance" (cnsB cs) (mc a (mc (cnsX cs) mn)))
 (comp:=fun ξ t ξ a s=>mP t a s mn)
 (compIf:=fun ξ t ξ ξ a s d=>mP t a s (mc d mn))
 (nil:=mn)
 (cons:=fun ξ ξ=>mc)
 (ex:=fun ξ a=>a)
 (range1:=fun ξ a=>mC "range" (fun ξ=>true) (mc a mn))
 (range2:=fun ξ ξ a b=>mC "range" (fun ξ=>true) (mc a (mc b mn)))
 (range3:=fun ξ ξ ξ a b d=>mC "range" (fun ξ=>true) (mc a (mc b (mc d mn))))
 (enum:=fun s i=>mC "enumerate" (fun ξ=>enB s) (mc i mn))
 (zip:=fun ξ ξ a b=>mC "zip" (fun ξ=>true) (mc a (mc b mn)))
 e
noncomputable def encEs (e:Exs):EMs:=Exs.rec (motive_1:=fun ξ=>EM) (motive_2:=fun ξ=>EMs) (motive_3:=fun ξ=>EM)
 (none:=m0 .none)
 (bool:=fun b=>m0 (.bool b))
 (int:=fun i=>m0 (.int i))
 (str:=fun s=>m0 (.str (Str.ofString s)))
 (var:=fun i K x=>(K.var i (K.nm i),.Name (K.nm i) x.pos))
 (glob:=fun y n K x=>(K.gl (Str.ofString y) && (K.gint.lookup y == some n),.Name (Str.ofString y) x.pos))
 (bin:=fun op ξ ξ=>m2 fun l r=>.BinOp l (opOf op) r)
 (neg:=fun ξ=>m1 (.UnaryOp .USub))
 (nt:=fun ξ=>m1 (.UnaryOp .Not))
 (cmp:=fun op ξ ξ=>m2 fun l r=>.Compare l [cmOf op] [r])
 (cmp2:=fun o1 o2 ξ ξ ξ=>m3 fun l r t=>.Compare l [cmOf o1,cmOf o2] [r,t])
 (bop:=fun j ξ=>mL fun es x=>.BoolOp (Bool.casesOn (motive:=fun ξ=>BoolOp) j .Or .And) es x.pos)
 (list:=fun ξ=>mL fun es x=>.List es x.pos)
 (tup:=fun ξ=>mL fun es x=>.Tuple es (kOf x) x.pos)
 (dict0:=fun ξ x=>(true,.Dict [] [] x.pos))
 (idx:=fun ξ ξ=>m2 .Subscript)
 (rev:=fun ξ a=>m2 .Subscript a (m1 (fun y=>.Slice none none (some y)) (m1 (.UnaryOp .USub) (m0 (.int 1)))))
 (call:=fun f ξ=>mC f fun K=>K.fns.contains f)
 (bc:=fun f ξ=>mC (bfName f) fun ξ=>true)
 (mt:=fun m ξ ξ=>mM m)
 (isi:=fun ξ cs a=>mC "isinstance" (cnsB cs) (mc a (mc (cnsX cs) mn)))
 (comp:=fun ξ t ξ a s=>mP t a s mn)
 (compIf:=fun ξ t ξ ξ a s d=>mP t a s (mc d mn))
 (nil:=mn)
 (cons:=fun ξ ξ=>mc)
 (ex:=fun ξ a=>a)
 (range1:=fun ξ a=>mC "range" (fun ξ=>true) (mc a mn))
 (range2:=fun ξ ξ a b=>mC "range" (fun ξ=>true) (mc a (mc b mn)))
 (range3:=fun ξ ξ ξ a b d=>mC "range" (fun ξ=>true) (mc a (mc b (mc d mn))))
 (enum:=fun s i=>mC "enumerate" (fun ξ=>enB s) (mc i mn))
 (zip:=fun ξ ξ a b=>mC "zip" (fun ξ=>true) (mc a (mc b mn)))
 e
noncomputable def encR (e:Sr):EM:=Sr.rec (motive_1:=fun ξ=>EM) (motive_2:=fun ξ=>EMs) (motive_3:=fun ξ=>EM)
 (none:=m0 .none)
 (bool:=fun b=>m0 (.bool b))
 (int:=fun i=>m0 (.int i))
 (str:=fun s=>m0 (.str (Str.ofString s)))
 (var:=fun i K x=>(K.var i (K.nm i),.Name (K.nm i) x.pos))
 (glob:=fun y n K x=>(K.gl (Str.ofString y) && (K.gint.lookup y == some n),.Name (Str.ofString y) x.pos))
 (bin:=fun op ξ ξ=>m2 fun l r=>.BinOp l (opOf op) r)
 (neg:=fun ξ=>m1 (.UnaryOp .USub))
 (nt:=fun ξ=>m1 (.UnaryOp .Not))
 (cmp:=fun op ξ ξ=>m2 fun l r=>.Compare l [cmOf op] [r])
 (cmp2:=fun o1 o2 ξ ξ ξ=>m3 fun l r t=>.Compare l [cmOf o1,cmOf o2] [r,t])
 (bop:=fun j ξ=>mL fun es x=>.BoolOp (Bool.casesOn (motive:=fun ξ=>BoolOp) j .Or .And) es x.pos)
 (list:=fun ξ=>mL fun es x=>.List es x.pos)
 (tup:=fun ξ=>mL fun es x=>.Tuple es (kOf x) x.pos)
 (dict0:=fun ξ x=>(true,.Dict [] [] x.pos))
 (idx:=fun ξ ξ=>m2 .Subscript)
 (rev:=fun ξ a=>m2 .Subscript a (m1 (fun y=>.Slice none none (some y)) (m1 (.UnaryOp .USub) (m0 (.int 1)))))
 (call:=fun f ξ=>mC f fun K=>K.fns.contains f)
 (bc:=fun f ξ=>mC (bfName f) fun ξ=>true)
 (mt:=fun m ξ ξ=>mM m)
 (isi:=fun ξ cs a=>mC "isinstance" (cnsB cs) (mc a (mc (cnsX cs) mn)))
 (comp:=fun ξ t ξ a s=>mP t a s mn)
 (compIf:=fun ξ t ξ ξ a s d=>mP t a s (mc d mn))
 (nil:=mn)
 (cons:=fun ξ ξ=>mc)
 (ex:=fun ξ a=>a)
 (range1:=fun ξ a=>mC "range" (fun ξ=>true) (mc a mn))
 (range2:=fun ξ ξ a b=>mC "range" (fun ξ=>true) (mc a (mc b mn)))
 (range3:=fun ξ ξ ξ a b d=>mC "range" (fun ξ=>true) (mc a (mc b (mc d mn))))
 (enum:=fun s i=>mC "enumerate" (fun ξ=>enB s) (mc i mn))
 (zip:=fun ξ ξ a b=>mC "zip" (fun ξ=>true) (mc a (mc b mn)))
 e
noncomputable def prS {α:Type} (x:Stmt) (k:List Expr→List Stmt→List Stmt→List ExceptHandler→α):α:=Stmt.casesOn (motive_2:=fun ξ=>α) x (fun ξ ξ ξ ξ ξ ξ ξ ξ ξ ξ=>k [] [] [] []) (fun ξ ξ ξ ξ ξ ξ ξ ξ ξ ξ=>k [] [] [] []) (fun ξ ξ ξ ξ ξ ξ ξ ξ ξ ξ ξ=>k [] [] [] []) (fun v ξ=>k v.toList [] [] []) (fun ξ ξ=>k [] [] [] []) (fun ts v ξ=>k (v :: ts) [] [] [])
 (fun ξ ξ ξ ξ ξ ξ ξ=>k [] [] [] []) (fun ξ ξ ξ ξ=>k [] [] [] []) (fun ξ ξ ξ ξ ξ=>k [] [] [] []) (fun t i b ξ ξ=>k [i,t] b [] []) (fun ξ ξ ξ ξ ξ=>k [] [] [] []) (fun t b ξ ξ=>k [t] b [] []) (fun t b e ξ=>k [t] b e []) (fun ξ ξ ξ=>k [] [] [] []) (fun ξ ξ ξ=>k [] [] [] []) (fun ξ ξ ξ=>k [] [] [] []) (fun e ξ ξ=>k e.toList [] [] []) (fun b h ξ ξ ξ=>k [] b [] h)
 (fun ξ ξ ξ ξ ξ=>k [] [] [] []) (fun ξ ξ ξ=>k [] [] [] []) (fun ξ ξ=>k [] [] [] []) (fun ξ ξ ξ ξ=>k [] [] [] []) (fun ξ ξ=>k [] [] [] []) (fun ξ ξ=>k [] [] [] []) (fun v ξ=>k [v] [] [] []) (fun ξ=>k [] [] [] []) (fun ξ=>k [] [] [] []) (fun ξ=>k [] [] [] [])
noncomputable def kidS (i:Nat) (x:Stmt):Expr:=prS x fun a ξ ξ ξ=>a.getD i dX
noncomputable def bdS (x:Stmt):List Stmt:=prS x fun ξ b ξ ξ=>b
noncomputable def elS (x:Stmt):List Stmt:=prS x fun ξ ξ b ξ=>b
noncomputable def hdS (x:Stmt):List ExceptHandler:=prS x fun ξ ξ ξ h=>h
noncomputable def htS (h:ExceptHandler):Expr:=ExceptHandler.casesOn (motive_4:=fun ξ=>Expr) h fun t ξ ξ ξ=>t.getD dX
noncomputable def hbS (h:ExceptHandler):List Stmt:=ExceptHandler.casesOn (motive_4:=fun ξ=>List Stmt) h fun ξ ξ b ξ=>b
abbrev SM:=Stmt→Bool×Stmt
abbrev SMs:=List Stmt→Bool×List Stmt
abbrev HMs:=List ExceptHandler→Bool×List ExceptHandler
noncomputable def swB (K:Kc) (t:Str) (pp:Pos) (v:Expr):Bool:=(if K.sc.kind.isAnnotationScope then ScopeKind.function else K.sc.kind) == .function && K.sc.names.lookup t == some .local && pp.line == v.pos.line && !((scOf v K.sc).names.any fun (n,k)=>n == t && (k == .local || k == .cell))
section
variable (K:Kc)
noncomputable def sAsg (i:Nat) (e:EM):SM:=fun x=>(K.tgt i (K.nm i) && ((e K (kidS 0 x)).1 && (kdOf (e K (kidS 0 x)).2 false false true true true || swB K (K.nm i) (kidS 1 x).pos (e K (kidS 0 x)).2)),.Assign [.Name (K.nm i) (kidS 1 x).pos] (e K (kidS 0 x)).2 x.pos)
noncomputable def sUn (t e:EM):SM:=fun x=>((t K (kidS 1 x)).1 && ((e K (kidS 0 x)).1 && kdOf (e K (kidS 0 x)).2 false true false true true),.Assign [(t K (kidS 1 x)).2] (e K (kidS 0 x)).2 x.pos)
noncomputable def sSet (t v:EM):SM:=fun x=>((v K (kidS 0 x)).1 && (t K (kidS 1 x)).1,.Assign [(t K (kidS 1 x)).2] (v K (kidS 0 x)).2 x.pos)
noncomputable def sEx (e:EM):SM:=fun x=>((e K (kidS 0 x)).1 && kdOf (e K (kidS 0 x)).2 false false true true true,.Expr (e K (kidS 0 x)).2 x.pos)
noncomputable def sRet (e:EM) (f:Expr→Pos→Stmt):SM:=fun x=>((e K (kidS 0 x)).1,f (e K (kidS 0 x)).2 x.pos)
noncomputable def sIf (c:EM) (a b:SMs):SM:=fun x=>((c K (kidS 0 x)).1 && ((a (bdS x)).1 && (b (elS x)).1),.If (c K (kidS 0 x)).2 (a (bdS x)).2 (b (elS x)).2 x.pos)
noncomputable def sWh (c:EM) (b:SMs):SM:=fun x=>((c K (kidS 0 x)).1 && (b (bdS x)).1,.While (c K (kidS 0 x)).2 (b (bdS x)).2 [] x.pos)
noncomputable def sFor (t s:EM) (b:SMs):SM:=fun x=>((t K (kidS 1 x)).1 && ((s K (kidS 0 x)).1 && (b (bdS x)).1),.For (t K (kidS 1 x)).2 (s K (kidS 0 x)).2 (b (bdS x)).2 [] x.pos)
noncomputable def sTry (b:SMs) (h:HMs):SM:=fun x=>((b (bdS x)).1 && (!(h (hdS x)).2.isEmpty && (h (hdS x)).1),.Try (b (bdS x)).2 (h (hdS x)).2 [] [] x.pos)
noncomputable def sCons (a:SM) (r:SMs):SMs:=fun xs=>((a (xs.getD 0 default)).1 && (r xs.tail).1,(a (xs.getD 0 default)).2 :: (r xs.tail).2)
noncomputable def hCons (d:String) (o:Option Nat) (b:SMs) (r:HMs):HMs:=fun hs=>(((K.gl (Str.ofString d) && K.cls.contains d) && (Option.casesOn (motive:=fun ξ=>Bool) o true fun i=>K.tgt i (K.nm i) && K.sc.names.lookup (K.nm i) == some .local)) && ((!(b (hbS (hs.getD 0 default))).2.isEmpty && (b (hbS (hs.getD 0 default))).1) && (r hs.tail).1),
 .ExceptHandler (some (.Name (Str.ofString d) (htS (hs.getD 0 default)).pos)) (Option.casesOn (motive:=fun ξ=>Option Str) o none fun i=>some (K.nm i)) (b (hbS (hs.getD 0 default))).2 (hs.getD 0 default).pos :: (r hs.tail).2)
noncomputable def encS (e:St):SM:=St.rec (motive_1:=fun ξ=>SM) (motive_2:=fun ξ=>SMs) (motive_3:=fun ξ=>HMs)
 (asg:=fun i e=>sAsg K i (encE e))
 (asg2:=fun i j e=>sUn K (tgX (.two i j)) (encE e))
 (setIt:=fun o i v=>sSet K (m2 .Subscript (encE o) (encE i)) (encE v))
 (ex:=fun e=>sEx K (encE e))
 (ret:=fun e=>sRet K (encE e) fun x=>.Return (some x))
 (ife:=fun c ξ ξ a b=>sIf K (encE c) a b)
 (whl:=fun c ξ b=>sWh K (encE c) b)
 («for»:=fun t s ξ b=>sFor K (tgX t) (encR s) b)
 (raise:=fun k msg=>sRet K (mC k (fun K=>K.cls.contains k) (mc (m0 (.str (Str.ofString msg))) mn)) fun x=>.Raise (some x) none)
 (tr:=fun ξ ξ b h=>sTry b h)
 (pass:=fun x=>(true,.Pass x.pos))
 (fun ξ=>(true,[])) (fun ξ ξ=>sCons) (fun ξ=>(true,[])) (fun d o ξ ξ=>hCons K d o) e
noncomputable def encSs (e:Sts):SMs:=Sts.rec (motive_1:=fun ξ=>SM) (motive_2:=fun ξ=>SMs) (motive_3:=fun ξ=>HMs)
 (asg:=fun i e=>sAsg K i (encE e))
 (asg2:=fun i j e=>sUn K (tgX (.two i j)) (encE e))
 (setIt:=fun o i v=>sSet K (m2 .Subscript (encE o) (encE i)) (encE v))
 (ex:=fun e=>sEx K (encE e))
 (ret:=fun e=>sRet K (encE e) fun x=>.Return (some x))
 (ife:=fun c ξ ξ a b=>sIf K (encE c) a b)
 (whl:=fun c ξ b=>sWh K (encE c) b)
 («for»:=fun t s ξ b=>sFor K (tgX t) (encR s) b)
 (raise:=fun k msg=>sRet K (mC k (fun K=>K.cls.contains k) (mc (m0 (.str (Str.ofString msg))) mn)) fun x=>.Raise (some x) none)
 (tr:=fun ξ ξ b h=>sTry b h)
 (pass:=fun x=>(true,.Pass x.pos))
 (fun ξ=>(true,[])) (fun ξ ξ=>sCons) (fun ξ=>(true,[])) (fun d o ξ ξ=>hCons K d o) e
noncomputable def encH (e:Hs):HMs:=Hs.rec (motive_1:=fun ξ=>SM) (motive_2:=fun ξ=>SMs) (motive_3:=fun ξ=>HMs)
 (asg:=fun i e=>sAsg K i (encE e))
 (asg2:=fun i j e=>sUn K (tgX (.two i j)) (encE e))
 (setIt:=fun o i v=>sSet K (m2 .Subscript (encE o) (encE i)) (encE v))
 (ex:=fun e=>sEx K (encE e))
 (ret:=fun e=>sRet K (encE e) fun x=>.Return (some x))
 (ife:=fun c ξ ξ a b=>sIf K (encE c) a b)
 (whl:=fun c ξ b=>sWh K (encE c) b)
 («for»:=fun t s ξ b=>sFor K (tgX t) (encR s) b)
 (raise:=fun k msg=>sRet K (mC k (fun K=>K.cls.contains k) (mc (m0 (.str (Str.ofString msg))) mn)) fun x=>.Raise (some x) none)
 (tr:=fun ξ ξ b h=>sTry b h)
 (pass:=fun x=>(true,.Pass x.pos))
 (fun ξ=>(true,[])) (fun ξ ξ=>sCons) (fun ξ=>(true,[])) (fun d o ξ ξ=>hCons K d o) e
end
end
theorem nem_of {α:Type}{xs:List α} (h:(!xs.isEmpty)=true):xs.isEmpty=false:=by rwa [Bool.not_eq_true'] at h
theorem an {a b:Bool} (h:(a && b)=true):a=true∧b=true:=Bool.and_eq_true_iff.mp h
theorem cn_ok {K:Kc}{c:Cn}{p:Pos} (h:cnB K c=true):MCn K c (.Name (Str.ofString (cnS c)) p):=by
 cases c with
 | own c=>exact .own rfl (an h).1 (an h).2
 | _=>exact .ty rfl rfl (an h).1
theorem cnl_ok {K:Kc}{cs:List Cn}:∀ {xs:List Expr},(cnL cs K xs).1=true→MCns K cs (cnL cs K xs).2:=by
 induction cs with
 | nil=>intro xs _;exact .nil
 | cons c cs ih=>intro xs h;exact .cons (cn_ok (an h).1) (ih (an h).2)
theorem tg_ok {K:Kc}{t:Tg}{x:Expr} (h:(tgX t K x).1=true):MTg K t (tgX t K x).2:=by
 cases t with
 | one i=>exact .one h
 | two i j=>exact .two (an h).1 (an h).2
noncomputable def NSs (xs:List Expr):Prop:=∀pos env,(backTo pos (starEach xs env)).any (·.1)=false
theorem nss_cons {x:Expr}{xs:List Expr} (h:Pl x) (r:NSs xs):NSs (x :: xs):=fun pos env=>by rw[h.star];exact r pos env

structure Tx (W:Wd) where
 G:Addr
 B:Addr
 mg:Str→Option Value
 mb:Str→Option Value
 hG:W.base.Ns G mg
 hB:W.base.Ns B mb
 mods:(W.base.get? cStatics).isSome=true
 gint:List (String×Int)
 hgint:∀x n,gint.lookup x=some n→∃t,mg (Str.ofString x)=some (.int n t)
 fns:List String
 hfns:∀f,fns.contains f=true→∃a o fd,mg (Str.ofString f)=some (.ref a)∧W.base.get? a=some o∧o.data=.func fd
 cls:List String
 frag:PySem.W.Frag
 hfrag:frag.In W.base
 anc:String→List String
 kty:∀t∈["NoneType", "bool", "int", "str", "tuple", "list", "dict"],∀n∈["int", "bool", "list", "tuple"],PySem.W.kitOne frag (.type t) (.type n)=some (isiTy t n)
 kown:∀d D c C,W.cls d=some D→W.cls c=some C→PySem.W.kitOne frag (.ref D) (.ref C)=some ((anc d).contains c)
 kval:∀d D,W.cls d=some D→PySem.W.kitOne frag (.ref D) (.type "ValueError")=some true
 kcl:∀d D,W.cls d=some D→ExcCls frag D
 ksub:∀d D c C,W.cls d=some D→W.cls c=some C→PySem.W.subIn frag (.ref D) (.ref C)=some ((anc d).contains c)
 own:∀f,cls.contains f=true→∃C,W.cls f=some C∧OwnCls (Str.ofString f) C [.type "ValueError",.type "Exception",.type "BaseException",.type "object"] "ValueError.__new__" mg W.base
 cns:∀c n,cnName c=some n→mg (Str.ofString n)=none∧mb (Str.ofString n)=some (.type n)
 bfs:∀f:BF,mg (Str.ofString (bfName f))=none∧mb (Str.ofString (bfName f))=some (bfOf f)
 isi:mg (Str.ofString "isinstance")=none∧mb (Str.ofString "isinstance")=some (.builtin "isinstance")
 rng:mg (Str.ofString "range")=none∧mb (Str.ofString "range")=some (.type "range")
 enm:mg (Str.ofString "enumerate")=none∧mb (Str.ofString "enumerate")=some (.type "enumerate")
 zip:mg (Str.ofString "zip")=none∧mb (Str.ofString "zip")=some (.type "zip")

abbrev Tx.z {W:Wd} (T:Tx W) (z:Addr→Prop):Tx (W.z z):=⟨T.G,T.B,T.mg,T.mb,T.hG,T.hB,T.mods,T.gint,T.hgint,T.fns,T.hfns,T.cls,T.frag,T.hfrag,T.anc,T.kty,T.kown,T.kval,T.kcl,T.ksub,T.own,T.cns,T.bfs,T.isi,T.rng,T.enm,T.zip⟩
theorem Tx.hcls {W:Wd} (T:Tx W) (f:String) (h:T.cls.contains f=true):∃C,T.mg (Str.ofString f)=some (.ref C)∧W.cls f=some C:=let ⟨C,e,O⟩:=T.own f h;⟨C,O.bound,e⟩
structure CxOk {W:Wd} (T:Tx W) (c:Cx) (K:Kc) (hd:Bool):Prop where
 sc:c.env.scope=K.sc
 kind:K.sc.kind=.function
 names:c.names=K.names
 vis:c.vis=K.vis
 gint:K.gint=T.gint
 fns:K.fns=T.fns
 cls:K.cls=T.cls
 glob:c.env.globals=T.G
 bi:c.env.builtins=T.B
 hand:hd=false→c.A.handled=none
 units:c.A.units+20<cLine
 frames:c.A.frames=some c.fenvs
 inj:∀(i j:Nat) (x y:String),c.names[i]?=some x→c.names[j]?=some y→Str.ofString x=Str.ofString y→i=j
 cellOwn:∀x a,c.env.cells.lookup x=some a→K.inC=false→a∈c.own
 cellFr:∀x a,c.env.cells.lookup x=some a→a∉c.frs
 cellKind:∀x,c.env.kindOf x=some .cell→∃a,c.env.cells.lookup x=some a
 cellInj:∀x y a,c.env.cells.lookup x=some a→c.env.cells.lookup y=some a→x=y

theorem CxOk.z {W:Wd}{T:Tx W}{c:Cx}{K:Kc}{hd:Bool} (C:CxOk T c K hd) (z:Addr→Prop):CxOk (T.z z) c K hd :=
 ⟨C.sc,C.kind,C.names,C.vis,C.gint,C.fns,C.cls,C.glob,C.bi,C.hand,C.units,C.frames,C.inj,C.cellOwn,C.cellFr,C.cellKind,C.cellInj⟩

section
variable {W:Wd}{c:Cx}{P:Addr→Obj→Prop}{ρ:Loc}{H:Hp}{s:Shared}{Q:V→Hp→Prop}{X:String→Hp→Prop}

inductive FlyT (W:Wd) (P:Addr→Obj→Prop) (f:Option Addr) (h:Heap) (a:Addr) (vs:Array Value):Prop
 | mk (T:Addr) (oT:Obj) (ts:Array Value) (fl:Value) (t1:vs[1]?=some (.ref T)) (t2:T≠a) (t3:W.base.get? T=none) (t4:∀o,¬P T o) (t5:h.get? T=some oT) (t6:oT.data=.fields ts) (t7:ts[3]?=some fl) (t8:fl=.none∨∃L,f=some L∧fl=rawInt L)
inductive Fly (W:Wd) (P:Addr→Obj→Prop) (f:Option Addr) (h:Heap) (e:Value) (k:String):Prop
 | mk (a C:Addr) (oe:Obj) (vs:Array Value) (a0:Value) (h1:e=.ref a) (h2:W.cls k=some C) (h3:h.get? a=some oe) (h4:oe.cls=.ref C) (h5:oe.data=.fields vs) (h6:vs[0]?=some a0) (h7:W.base.get? a=none) (h8:∀o,¬P a o) (h9:vs[1]?=some .none∨FlyT W P f h a vs)
theorem Fly.weaken {P':Addr→Obj→Prop}{f:Option Addr}{h:Heap}{e:Value}{k:String} (x:Fly W P' f h e k) (q:∀b o,P b o→P' b o):Fly W P f h e k:=by
 obtain⟨a,C,oe,vs,a0,h1,h2,h3,h4,h5,h6,h7,h8,h9⟩:=x
 refine⟨a,C,oe,vs,a0,h1,h2,h3,h4,h5,h6,h7,fun o p=>h8 o (q _ _ p),h9.imp id ?_⟩
 rintro⟨T,oT,ts,fl,t1,t2,t3,t4,t5,t6,t7,t8⟩
 exact⟨T,oT,ts,fl,t1,t2,t3,fun o p=>t4 o (q _ _ p),t5,t6,t7,t8⟩

theorem Fly.down {z:Addr→Prop}{f:Option Addr}{h:Heap}{e:Value}{k:String} (x:Fly (W.z z) P f h e k):Fly W P f h e k:=by
 obtain⟨a,C,oe,vs,a0,h1,h2,h3,h4,h5,h6,h7,h8,h9⟩:=x
 refine⟨a,C,oe,vs,a0,h1,h2,h3,h4,h5,h6,h7,h8,h9.imp id ?_⟩
 rintro⟨T,oT,ts,fl,t1,t2,t3,t4,t5,t6,t7,t8⟩
 exact⟨T,oT,ts,fl,t1,t2,t3,t4,t5,t6,t7,t8⟩

inductive EX (W:Wd) (c:Cx) (P:Addr→Obj→Prop) (ρ:Loc) (X:String→Hp→Prop) (e:Value) (s':Shared):Prop
 | mk (k:String) (H':Hp) (S:Sim W c P ρ H' s') (F:Fly W P c.env.frame s'.heap e k) (x:X k H')
theorem EX.weaken {P':Addr→Obj→Prop}{e:Value}{s':Shared} (h:EX W c P' ρ X e s') (q:∀b o,P b o→P' b o):EX W c P ρ X e s' :=
 let ⟨k,H',S,F,x⟩:=h;⟨k,H',S.weaken q,F.weaken q,x⟩

noncomputable def SE (W:Wd) (c:Cx) (G:Gl) (hd:Bool) (e:Ex) (x:Expr):Prop:=∀(P:Addr→Obj→Prop) (ρ:Loc) (H:Hp) (s:Shared) (Q:V→Hp→Prop) (X:String→Hp→Prop),Sim W c P ρ H s→wpE G hd e ρ Q X H→wpAny (model W.prog W.w) c.A (eval x c.env) (PE W c P ρ Q) (EX W c P ρ X) s
noncomputable def ST (W:Wd) (c:Cx) (G:Gl) (hd:Bool) (e:Ex) (x:Expr):Prop:=∀(P:Addr→Obj→Prop) (ρ:Loc) (H:Hp) (s:Shared) (B:Bool→Hp→Prop) (X:String→Hp→Prop),Sim W c P ρ H s→wpE G hd e ρ (asB B) X H →
 wpAny (model W.prog W.w) c.A (isTrue x c.env (eval x c.env)) (fun b s'=>∃H',Sim W c P ρ H' s'∧B b H') (EX W c P ρ X) s
noncomputable def SEs (W:Wd) (c:Cx) (G:Gl) (hd:Bool) (es:Exs) (xs:List Expr):Prop:=∀(P:Addr→Obj→Prop) (ρ:Loc) (H:Hp) (s:Shared) (Q:List V→Hp→Prop) (X:String→Hp→Prop) (pos:Pos),Sim W c P ρ H s→wpEs G hd es ρ Q X H →
 wpAny (model W.prog W.w) c.A (spliced (backTo pos (starEach xs c.env))) (fun us s'=>∃vs H',Sim W c P ρ H' s'∧Reps W s'.heap vs us∧Q vs H') (EX W c P ρ X) s

theorem SE.max {G:Gl}{hd:Bool}{e:Ex}{x:Expr} (h:SE W c G hd e x) (S:Sim W c P ρ H s) (w:wpE G hd e ρ Q X H) :
  wpAny (model W.prog W.w) c.A (eval x c.env) (fun u s'=>KeepR W s.heap s'.heap∧PE W c P ρ Q u s') (EX W c P ρ X) s :=
 wpAny_mono (h _ ρ H s Q X S.max w) (fun u s' ⟨v,H',S',r,q⟩=>⟨S.keepR S',v,H',S'.weaken S.le_max,r,q⟩) fun ξ ξ x=>x.weaken S.le_max

theorem SE.two {G:Gl}{hd:Bool}{a b:Ex}{l r:Expr} (ha:SE W c G hd a l) (hb:SE W c G hd b r) {R:V→V→Hp→Prop} (S:Sim W c P ρ H s) (w:wpE G hd a ρ (fun x H₁=>wpE G hd b ρ (fun y H₂=>R x y H₂) X H₁) X H) :
  wpAny (model W.prog W.w) c.A (eval l c.env) (fun u s₁=>wpAny (model W.prog W.w) c.A (eval r c.env) (fun v s₂=>∃x y H₂,Sim W c P ρ H₂ s₂∧Rep W s₂.heap x u∧Rep W s₂.heap y v∧R x y H₂) (EX W c P ρ X) s₁) (EX W c P ρ X) s :=
 wpAny_mono (ha P ρ H s _ X S w) (fun u s₁ ⟨x,H₁,S₁,rx,w₁⟩=>wpAny_mono (hb.max S₁ w₁) (fun v s₂ ⟨k,y,H₂,S₂,ry,q⟩=>⟨x,y,H₂,S₂,rx.mono k,ry,q⟩) fun ξ ξ x=>x) fun ξ ξ x=>x

theorem Sim.gl {T:Tx W}{K:Kc}{hd:Bool} (S:Sim W c P ρ H s) (C:CxOk T c K hd):s.heap.Ns c.env.globals T.mg:=by rw[C.glob];exact T.hG.at' fun o e=>S.base _ _ e
theorem Sim.bi {T:Tx W}{K:Kc}{hd:Bool} (S:Sim W c P ρ H s) (C:CxOk T c K hd):s.heap.Ns c.env.builtins T.mb:=by rw[C.bi];exact T.hB.at' fun o e=>S.base _ _ e

theorem Kc.gl_spec {K:Kc}{x:Str} (h:K.gl x=true):K.sc.names.lookup x=some .globalImplicit∧(x == ("__debug__" : Str))=false:=by
 unfold Kc.gl at h
 simp only[Bool.and_eq_true,beq_iff_eq,Bool.not_eq_true'] at h
 exact h
theorem Kc.tgt_kind {K:Kc}{i:Nat}{x:Str} (h:K.tgt i x=true):K.sc.names.lookup x=some .local∨(K.sc.names.lookup x=some .cell∧K.inC=false):=by
 unfold Kc.tgt at h
 simp only[Bool.and_eq_true,Bool.or_eq_true,beq_iff_eq,Bool.not_eq_true'] at h
 exact h.2
set_option tactic.hygienic true in
theorem Kc.at_spec {K:Kc}{i:Nat}{x:Str} (h:(K.vis i && (match K.names[i]? with | some y=>Str.ofString y == x | none=>false))=true):K.vis i=true∧∃y,K.names[i]?=some y∧Str.ofString y=x:=by
 simp only[Bool.and_eq_true] at h
 obtain⟨h1,h2⟩:=h
 split at h2
 ·rename_i y e;exact⟨h1,y,e,by simpa using h2⟩
 ·cases h2
theorem Kc.tgt_spec {K:Kc}{i:Nat}{x:Str} (h:K.tgt i x=true):K.vis i=true∧∃y,K.names[i]?=some y∧Str.ofString y=x:=by
 unfold Kc.tgt at h
 rw[Bool.and_eq_true] at h
 exact Kc.at_spec h.1
theorem Kc.var_spec {K:Kc}{i:Nat}{x:Str} (h:K.var i x=true):K.vis i=true∧(∃y,K.names[i]?=some y∧Str.ofString y=x)∧(x == ("__debug__" : Str))=false:=by
 unfold Kc.var at h
 simp only[Bool.and_eq_true,Bool.not_eq_true'] at h
 obtain⟨⟨h1,h2⟩,h3⟩:=h
 obtain⟨a,b⟩:=Kc.at_spec (K:=K) (i:=i) (x:=x) (by simp only[Bool.and_eq_true];exact⟨h1,h2⟩)
 exact⟨a,b,h3⟩

theorem CxOk.kindF {T:Tx W}{K:Kc}{hd:Bool} (C:CxOk T c K hd):c.env.scope.kind=.function:=by rw[C.sc];exact C.kind
theorem CxOk.kindG {T:Tx W}{K:Kc}{hd:Bool} (C:CxOk T c K hd) {x:Str} (h:K.gl x=true):c.env.kindOf x=some .globalImplicit:=by unfold Env.kindOf;rw[C.sc];exact (Kc.gl_spec h).1

noncomputable def GOk {W:Wd} (T:Tx W) (G:Gl) (A:Around):Prop:=∀(c:Cx) (K:Kc),c.A=A→CxOk T c K false→∀(f:String) (vs:List V) (us:List Value) (P:Addr→Obj→Prop) (ρ:Loc) (H:Hp) (s:Shared) (Q:V→Hp→Prop) (X:String→Hp→Prop) (a:Addr),
 Sim W c P ρ H s→Reps W s.heap vs us→T.mg (Str.ofString f)=some (.ref a)→G.call f vs Q X H→wpAny (model W.prog W.w) c.A (call (.ref a) us) (PE W c P ρ Q) (EX W c P ρ X) s

theorem sound_global {T:Tx W}{K:Kc}{hd:Bool}{x:Str}{v:Value}{p:Pos}{E:Value→Shared→Prop}{Q:Value→Shared→Prop} (C:CxOk T c K hd) (S:Sim W c P ρ H s) (g:K.gl x=true) (e:T.mg x=some v) (h:Q v s) :
  wpAny (model W.prog W.w) c.A (eval (.Name x p) c.env) Q E s:=Name_function_global C.kindF (C.kindG g) (loadGlobal_global (S.gl C) e h) (Kc.gl_spec g).2
theorem sound_builtin {T:Tx W}{K:Kc}{hd:Bool}{x:Str}{v:Value}{p:Pos}{E:Value→Shared→Prop}{Q:Value→Shared→Prop} (C:CxOk T c K hd) (S:Sim W c P ρ H s) (g:K.gl x=true) (e:T.mg x=none∧T.mb x=some v) (h:Q v s) :
  wpAny (model W.prog W.w) c.A (eval (.Name x p) c.env) Q E s:=Name_function_global C.kindF (C.kindG g) (loadGlobal_builtin (S.gl C) e.1 (S.bi C) e.2 h) (Kc.gl_spec g).2

theorem sound_var {T:Tx W}{K:Kc}{hd:Bool}{G:Gl}{i:Nat}{x:Str}{p:Pos} (C:CxOk T c K hd) (g:K.var i x=true):SE W c G hd (.var i) (.Name x p):=by
 intro P ρ H s Q X S w
 obtain⟨h1,⟨y,h2,rfl⟩,h3⟩:=Kc.var_spec g
 obtain⟨v,e,w⟩:=varW_inv (qE_var.mp w)
 obtain⟨m,hn,hv⟩:=S.loc
 rcases hv i y v (by rw[C.vis];exact h1) (by rw[C.names];exact h2) e with ⟨k,u,hu,r⟩ | ⟨k,cl,o,u,hc,ho,hd,r⟩
 ·exact wpAny_Name (wpAny_loadName_local C.kindF k hn hu (pe_same S r w)) h3
 ·exact wpAny_Name (wpAny_loadName_cell C.kindF k hc ⟨o,ho,hd⟩ (pe_same S r w)) h3
end
end Mine
end

section
namespace Mine
open PySem PySem.Calls PyProof.Rows PySem.SeqAt
section
variable {W:Wd}{T:Tx W}{c:Cx}{K:Kc}{hd:Bool}{G:Gl}

theorem se_const {k p}:SE W c G hd .none (.Constant .none k p):=fun P ρ H s Q X S w=>Constant_none (pe_same S .none w)
theorem se_bool {b k p}:SE W c G hd (.bool b) (.Constant (.bool b) k p):=fun P ρ H s Q X S w=>Constant_bool (pe_same S (.bool b) w)
theorem se_int {i k p}:SE W c G hd (.int i) (.Constant (.int i) k p):=fun P ρ H s Q X S w=>wpAny_Constant_int (pe_int S w)
theorem se_str {x k p}:SE W c G hd (.str x) (.Constant (.str (Str.ofString x)) k p):=fun P ρ H s Q X S w=>Constant_str ⟨_,H,S.toks _,.str _ _,w⟩
theorem se_glob {x n p} (C:CxOk T c K hd) (g:K.gl (Str.ofString x)=true) (e:K.gint.lookup x=some n):SE W c G hd (.glob x n) (.Name (Str.ofString x) p):=fun P ρ H s Q X S w=>by
 obtain⟨t,h⟩:=T.hgint x n (C.gint▸e)
 exact sound_global C S g h (pe_same S (.int n t) w)
theorem se_bin {op a b l r p} (ha:SE W c G hd a l) (hb:SE W c G hd b r):SE W c G hd (.bin op a b) (.BinOp l (opOf op) r p):=fun P ρ H s Q X S w=>by
 replace w:=qE_bin.mp w
 exact wpAny_BinOp (wpAny_mono (ha.two hb S w) (fun u s₁ h₁=>wpAny_mono h₁ (fun v s₂ ⟨x,y,H₂,S₂,rx,ry,q⟩=>sound_bin S₂ rx ry q) fun ξ ξ x=>x) fun ξ ξ x=>x)
theorem se_neg {a x p} (ha:SE W c G hd a x):SE W c G hd (.neg a) (.UnaryOp .USub x p):=fun P ρ H s Q X S w=>by
 replace w:=qE_neg.mp w
 refine UnaryOp_ (wpAny_mono (ha P ρ H s _ X S w) (fun u s₁ hx=>?_) fun ξ ξ x=>x)
 obtain⟨v,H₁,S₁,r,q⟩:=hx
 obtain⟨i,rfl,q'⟩:=int1_inv q
 obtain⟨t,rfl⟩:=r
 exact neg_int (pe_int S₁ q')
theorem truthy_of {E:Value→Shared→Prop}{P:Addr→Obj→Prop}{ρ:Loc}{s:Shared}{u:Value}{B:Bool→Hp→Prop}{R:Bool→Shared→Prop} (h:PE W c P ρ (asB B) u s) (k:∀b H',u=.bool b→Sim W c P ρ H' s→B b H'→R b s):wpAny (model W.prog W.w) c.A (truthy u) R E s:=by
 obtain⟨v,H',S,r,q⟩:=h
 obtain⟨b,rfl,q'⟩:=asB_inv q
 cases r
 exact wpAny_truthy_bool (k _ H' rfl S q')
theorem se_nt {a x p} (ha:SE W c G hd a x):SE W c G hd (.nt a) (.UnaryOp .Not x p):=fun P ρ H s Q X S w=>by
 replace w:=qE_nt.mp w
 exact UnaryOp_ (wpAny_mono (ha P ρ H s _ X S w) (fun u s₁ h=>not_of (truthy_of h fun b H' ξ S' q=>pe_bool S' q)) fun ξ ξ x=>x)
theorem pb_pe {P:Addr→Obj→Prop}{ρ:Loc}{s:Shared}{u:Value}{Q:V→Hp→Prop} (h:PB W c P ρ (fun b H'=>Q (.bool b) H') u s):PE W c P ρ Q u s:=by
 obtain⟨b,H',rfl,S,q⟩:=h;exact pe_bool S q
theorem se_cmp {op a b l r p} (C:CxOk T c K hd) (hm:behindInMarks (cmOf op) r=false) (ha:SE W c G hd a l) (hb:SE W c G hd b r):SE W c G hd (.cmp op a b) (.Compare l [cmOf op] [r] p):=fun P ρ H s Q X S w=>by
 replace w:=qE_cmp.mp w
 exact wpAny_Compare1 (wpAny_mono (ha.two hb S w) (fun u s₁ h₁=>wpAny_mono h₁ (fun v s₂ ⟨x,y,H₂,S₂,rx,ry,q⟩=>wpAny_mono (sound_cmp S₂ C.units T.mods rx ry q) (fun ξ ξ z=>pb_pe z) fun ξ ξ x=>x) fun ξ ξ x=>x) fun ξ ξ x=>x) hm
theorem st_cmp {op a b l r p} (C:CxOk T c K hd) (hm:behindInMarks (cmOf op) r=false) (ha:SE W c G hd a l) (hb:SE W c G hd b r):ST W c G hd (.cmp op a b) (.Compare l [cmOf op] [r] p):=fun P ρ H s B X S w=>by
 replace w:=qE_cmp.mp w
 refine wpAny_isTrue_Compare1 (wpAny_mono (ha.two hb S w) (fun u s₁ h₁=>wpAny_mono h₁ (fun v s₂ ⟨x,y,H₂,S₂,rx,ry,q⟩=>wpAny_mono (sound_cmp (B:=fun b H'=>asB B (.bool b) H') S₂ C.units T.mods rx ry q) (fun t s₃ z=>?_) fun ξ ξ x=>x) fun ξ ξ x=>x) fun ξ ξ x=>x) hm
 obtain⟨b,H',rfl,S₃,q⟩:=z
 exact wpAny_truthy_bool ⟨H',S₃,q⟩
theorem st_plain {e x} (h:SE W c G hd e x) (he:∀whole,isTrue x c.env whole=(do let v ←whole;standAt x.pos;holding [v] (truthy v))):ST W c G hd e x:=fun P ρ H s B X S w =>
 isTrue_plain (wpAny_mono (h P ρ H s _ X S w) (fun u s₁ h₁=>truthy_of h₁ fun b H' ξ S' q=>⟨H',S',q⟩) fun ξ ξ x=>x) (he _)
theorem st_nt {a x p} (ha:ST W c G hd a x):ST W c G hd (.nt a) (.UnaryOp .Not x p):=fun P ρ H s B X S w=>by
 replace w:=qE_nt.mp w
 exact isTrue_not (ha P ρ H s _ X S w)
theorem se_cmp2 {o1 o2 a b d l r t p} (C:CxOk T c K hd) (hm:lastMarks [cmOf o1,cmOf o2] [r,t]=false) (ha:SE W c G hd a l) (hb:SE W c G hd b r) (hc:SE W c G hd d t):SE W c G hd (.cmp2 o1 o2 a b d) (.Compare l [cmOf o1,cmOf o2] [r,t] p):=fun P ρ H s Q X S w=>by
 replace w:=qE_cmp2.mp w
 refine Compare_chain (wpAny_mono (ha.two hb S w) (fun u s₁ h₁=>chain_link (wpAny_mono h₁ (fun v s₂ ⟨x,y,H₂,S₂,rx,ry,q⟩=>wpAny_mono (sound_cmp S₂.max C.units T.mods rx ry q) (fun z s₃ hz=>?_) fun ξ ξ x=>x) fun ξ ξ x=>x)) fun ξ ξ x=>x) hm
 obtain⟨b',H₃,rfl,S₃,q⟩:=hz
 have ry':=ry.mono (S₂.keepR S₃)
 have S₃:=S₃.weaken S₂.le_max
 refine wpAny_truthy_bool ?_
 cases b' with
 | false=>simpa using pe_bool S₃ (by simpa using q)
 | true =>
  simp only[if_true] at q ⊢
  refine chain_last (wpAny_mono (hc.max S₃ q) (fun w s₄ hx=>?_) fun ξ ξ x=>x)
  obtain⟨k,z,H₄,S₄,rz,q⟩:=hx
  exact wpAny_mono (sound_cmp S₄ C.units T.mods (ry'.mono k) rz q) (fun ξ ξ z=>pb_pe z) fun ξ ξ x=>x
theorem st_cmp2 {o1 o2 a b d l r t p} (C:CxOk T c K hd) (hm:lastMarks [cmOf o1,cmOf o2] [r,t]=false) (ha:SE W c G hd a l) (hb:SE W c G hd b r) (hc:SE W c G hd d t):ST W c G hd (.cmp2 o1 o2 a b d) (.Compare l [cmOf o1,cmOf o2] [r,t] p):=fun P ρ H s B X S w=>by
 replace w:=qE_cmp2.mp w
 refine isTrue_chain (wpAny_mono (ha.two hb S w) (fun u s₁ h₁=>test_link (wpAny_mono h₁ (fun v s₂ ⟨x,y,H₂,S₂,rx,ry,q⟩=>wpAny_mono (sound_cmp S₂.max C.units T.mods rx ry q) (fun z s₃ hz=>?_) fun ξ ξ x=>x) fun ξ ξ x=>x)) fun ξ ξ x=>x) hm
 obtain⟨b',H₃,rfl,S₃,q⟩:=hz
 have ry':=ry.mono (S₂.keepR S₃)
 have S₃:=S₃.weaken S₂.le_max
 refine wpAny_truthy_bool ?_
 cases b' with
 | false=>exact⟨H₃,S₃,by simpa [asB] using q⟩
 | true =>
  simp only[if_true] at q ⊢
  refine test_last (wpAny_mono (hc.max S₃ q) (fun w s₄ hx=>?_) fun ξ ξ x=>x)
  obtain⟨k,z,H₄,S₄,rz,q⟩:=hx
  refine wpAny_mono (sound_cmp (B:=fun b H'=>asB B (.bool b) H') S₄ C.units T.mods (ry'.mono k) rz q) (fun t s₅ z=>?_) fun ξ ξ x=>x
  obtain⟨b,H',rfl,S₅,q⟩:=z
  exact wpAny_truthy_bool ⟨H',S₅,q⟩
theorem ses_nil:SEs W c G hd .nil []:=fun P ρ H s Q X pos S w=>spliced_nil ⟨[],H,S,.nil,by simpa [qEs_nil,qEs_cons] using w⟩
theorem ses_cons {e r x xs} (he:∀ys env,starEach (x :: ys) env=(false,eval x env) :: starEach ys env) (h1:SE W c G hd e x) (h2:SEs W c G hd r xs):SEs W c G hd (.cons e r) (x :: xs):=fun P ρ H s Q X pos S w=>by
 replace w:=qEs_cons.mp w
 rw[he]
 refine spliced_cons (wpAny_mono (h1 P ρ H s _ X S w) (fun u s₁ hx=>?_) fun ξ ξ x=>x)
 obtain⟨v,H₁,S₁,rv,q⟩:=hx
 refine wpAny_mono (h2 _ ρ H₁ s₁ _ X pos S₁.max q) (fun us s₂ hx=>?_) fun ξ ξ x=>x.weaken S₁.le_max
 obtain⟨vs,H₂,S₂,rs,q⟩:=hx
 exact⟨v :: vs,H₂,S₂.weaken S₁.le_max,.cons (rv.mono (S₁.keepR S₂)) rs,q⟩
theorem SEs.max {es xs}{P:Addr→Obj→Prop}{ρ:Loc}{H:Hp}{s:Shared}{Q:List V→Hp→Prop}{X:String→Hp→Prop}{pos:Pos} (h:SEs W c G hd es xs) (S:Sim W c P ρ H s) (w:wpEs G hd es ρ Q X H) :
  wpAny (model W.prog W.w) c.A (spliced (backTo pos (starEach xs c.env))) (fun us s'=>KeepR W s.heap s'.heap∧∃vs H',Sim W c P ρ H' s'∧Reps W s'.heap vs us∧Q vs H') (EX W c P ρ X) s :=
 wpAny_mono (h _ ρ H s Q X pos S.max w) (fun u s' ⟨v,H',S',r,q⟩=>⟨S.keepR S',v,H',S'.weaken S.le_max,r,q⟩) fun ξ ξ x=>x.weaken S.le_max
theorem se_list {es xs p} (h:SEs W c G hd es xs):SE W c G hd (.list es) (.List xs p):=fun P ρ H s Q X S w=>by
 replace w:=qE_list.mp w
 show wpAny _ _ (do standAt p;newList (←spliced (backTo p (starEach xs c.env)))) _ _ s
 exact wpAny_bind (wpAny_standAt (wpAny_bind (wpAny_mono (h P ρ H s _ X p S w) (fun us s₁ ⟨vs,H₁,S₁,r,q⟩=>sound_newList S₁ r q) fun ξ ξ x=>x)))
theorem se_tup {es xs k p} (h:SEs W c G hd es xs):SE W c G hd (.tup es) (.Tuple xs k p):=fun P ρ H s Q X S w=>by
 replace w:=qE_tup.mp w
 show wpAny _ _ (do standAt p;newTuple (←spliced (backTo p (starEach xs c.env)))) _ _ s
 exact wpAny_bind (wpAny_standAt (wpAny_bind (wpAny_mono (h P ρ H s _ X p S w) (fun us s₁ ⟨vs,H₁,S₁,r,q⟩=>sound_newTuple S₁ r q.1 q.2) fun ξ ξ x=>x)))
theorem se_dict0 {p} (hb:(W.base.get? cStatics).isSome=true):SE W c G hd .dict0 (.Dict [] [] p):=fun P ρ H s Q X S w=>by
 replace w:=qE_dict0.mp w
 have hn:=size_none s.heap
 refine wpAny_Dict_empty ⟨.ref s.heap.objs.size,_,S.alloc (tk:=s.toks) (o:=.dict []) hn (fun b o e=>Heap.get?_push_of_some _ e) ⟨⟨by simp [Lim],?_⟩,[],⟨_,_,_,Heap.get?_push_size _ rfl,⟨rfl,rfl,rfl⟩,rfl,?_,?_,?_⟩,.nil⟩,.ref _,w _ (S.hsize hn)⟩
 ·obtain⟨o,e⟩:=Option.isSome_iff_exists.mp hb
  have h2:2<s.heap.objs.size:=Heap.lt_size (S.base _ _ e)
  refine beq_eq_false_iff_ne.mpr fun q=>?_
  rw[q] at h2
  exact absurd h2 (by decide)
 ·intro e he;simp at he
 ·exact .nil
 ·simp
theorem se_idx {e i x y p} (hs:∀o i,subscripted y false o i=operate [o,i] (getItem o i)) (h1:SE W c G hd e x) (h2:SE W c G hd i y):SE W c G hd (.idx e i) (.Subscript x y p):=fun P ρ H s Q X S w=>by
 replace w:=qE_idx.mp w
 rw[eval_Subscript]
 exact wpAny_bind (wpAny_mono (h1.two h2 S w) (fun u s₁ h₁=>wpAny_bind (wpAny_holding (wpAny_mono h₁ (fun v s₂ ⟨x',y',H₂,S₂,rx,ry,q⟩=>wpAny_bind (wpAny_standAt (sound_idx (value:=x) (slice:=y) S₂ rx ry q hs))) fun ξ ξ x=>x))) fun ξ ξ x=>x)
end
end Mine
end

section
namespace Mine
open PySem PySem.Calls PyProof.Rows PySem.SeqAt
section
variable {W:Wd}{T:Tx W}{c:Cx}{K:Kc}{hd:Bool}{G:Gl}

inductive SB (W:Wd) (c:Cx) (G:Gl) (hd:Bool):Exs→List Expr→Prop
 | nil:SB W c G hd .nil []
 | cons {e r x xs}:SE W c G hd e x→ST W c G hd e x→SB W c G hd r xs→SB W c G hd (.cons e r) (x :: xs)

theorem se_and {p}{es xs} (h0:SB W c G hd es xs):SE W c G hd (.bop true es) (.BoolOp .And xs p):=by
 induction h0 with
 | nil=>intro P ρ H s Q X S w;simp [qE_bop,qB_nil] at w
 | cons h1 h2 h0 ih =>
  cases h0 with
  | nil =>
   intro P ρ H s Q X S w
   simp only[qE_bop,qB_one,qB_more] at w
   exact BoolOp_one (h1 P ρ H s Q X S w)
  | cons h3 h4 h5 =>
   intro P ρ H s Q X S w
   simp only[qE_bop,qB_one,qB_more] at w
   refine BoolOp_and (wpAny_mono (h1 P ρ H s _ X S w) (fun u s₁ h=>truthy_of h fun b H' e S' q=>?_) fun ξ ξ x=>x)
   cases b with
   | true=>simp only[if_true] at q ⊢;exact ih P ρ H' s₁ Q X S' (by rw[qE_bop];exact q)
   | false=>simp only[Bool.false_eq_true,if_false] at q ⊢;subst e;exact pe_bool S' q
theorem se_or {p}{es xs} (h0:SB W c G hd es xs):SE W c G hd (.bop false es) (.BoolOp .Or xs p):=by
 induction h0 with
 | nil=>intro P ρ H s Q X S w;simp [qE_bop,qB_nil] at w
 | cons h1 h2 h0 ih =>
  cases h0 with
  | nil =>
   intro P ρ H s Q X S w
   simp only[qE_bop,qB_one,qB_more] at w
   exact BoolOp_one (h1 P ρ H s Q X S w)
  | cons h3 h4 h5 =>
   intro P ρ H s Q X S w
   simp only[qE_bop,qB_one,qB_more] at w
   refine BoolOp_or (wpAny_mono (h1 P ρ H s _ X S w) (fun u s₁ h=>truthy_of h fun b H' e S' q=>?_) fun ξ ξ x=>x)
   cases b with
   | false=>simp only[Bool.false_eq_true,if_false,if_true] at q ⊢;exact ih P ρ H' s₁ Q X S' (by rw[qE_bop];exact q)
   | true=>simp only[Bool.true_eq_false,if_false,if_true] at q ⊢;subst e;exact pe_bool S' q
theorem st_and {p}{es xs} (h0:SB W c G hd es xs):ST W c G hd (.bop true es) (.BoolOp .And xs p):=by
 induction h0 with
 | nil=>intro P ρ H s Q X S w;simp [qE_bop,qB_nil] at w
 | cons h1 h2 h0 ih =>
  cases h0 with
  | nil =>
   intro P ρ H s B X S w
   simp only[qE_bop,qB_one,qB_more] at w
   refine isTrue_and (wpAny_mono (h2 P ρ H s _ X S w) (fun b s₁ hx=>?_) fun ξ ξ x=>x)
   obtain⟨H',S',q⟩:=hx
   cases b with
   | true=>simp only[if_true];exact isTrue_and_nil ⟨H',S',q⟩
   | false=>simp only[Bool.false_eq_true,if_false];exact⟨H',S',q⟩
  | cons h3 h4 h5 =>
   intro P ρ H s B X S w
   simp only[qE_bop,qB_one,qB_more] at w
   refine isTrue_and (wpAny_mono (h2 P ρ H s _ X S w) (fun b s₁ hx=>?_) fun ξ ξ x=>x)
   obtain⟨H',S',q⟩:=hx
   cases b with
   | true=>simp only[if_true] at q ⊢;exact ih P ρ H' s₁ B X S' (by rw[qE_bop];exact q)
   | false=>simp only[Bool.false_eq_true,if_false] at q ⊢;exact⟨H',S',q⟩
theorem st_or {p}{es xs} (h0:SB W c G hd es xs):ST W c G hd (.bop false es) (.BoolOp .Or xs p):=by
 induction h0 with
 | nil=>intro P ρ H s Q X S w;simp [qE_bop,qB_nil] at w
 | cons h1 h2 h0 ih =>
  cases h0 with
  | nil =>
   intro P ρ H s B X S w
   simp only[qE_bop,qB_one,qB_more] at w
   refine isTrue_or (wpAny_mono (h2 P ρ H s _ X S w) (fun b s₁ hx=>?_) fun ξ ξ x=>x)
   obtain⟨H',S',q⟩:=hx
   cases b with
   | false=>simp only[Bool.false_eq_true,if_false];exact isTrue_or_nil ⟨H',S',q⟩
   | true=>simp only[if_true];exact⟨H',S',q⟩
  | cons h3 h4 h5 =>
   intro P ρ H s B X S w
   simp only[qE_bop,qB_one,qB_more] at w
   refine isTrue_or (wpAny_mono (h2 P ρ H s _ X S w) (fun b s₁ hx=>?_) fun ξ ξ x=>x)
   obtain⟨H',S',q⟩:=hx
   cases b with
   | false=>simp only[Bool.false_eq_true,if_false,if_true] at q ⊢;exact ih P ρ H' s₁ B X S' (by rw[qE_bop];exact q)
   | true=>simp only[Bool.true_eq_false,if_false,if_true] at q ⊢;exact⟨H',S',q⟩
theorem newSlice {E:Value→Shared→Prop}{Q:Value→Shared→Prop}{s:Shared}{a b d:Value} (h:Q (.ref s.heap.objs.size) { s with heap:=s.heap.push { cls:=.type "slice",data:=.fields #[a,b,d] } }) :
  wpAny (model W.prog W.w) c.A (newFields "slice" [a,b,d]) Q E s:=by
 unfold newFields
 exact wpAny_newObj_type h (by size_fits)

end
end Mine
end

section
namespace Mine
open PySem PySem.Calls PyProof.Rows PySem.SeqAt
section
variable {W:Wd}{T:Tx W}{c:Cx}{K:Kc}{hd:Bool}{G:Gl}

theorem se_rev {e x y q p} (h1:SE W c G hd e x) (h2:SE W c G hd (.neg (.int 1)) y):SE W c G hd (.rev e) (.Subscript x (.Slice none none (some y) q) p):=fun P ρ H s Q X S w=>by
 replace w:=qE_rev.mp w
 rw[eval_Subscript]
 refine wpAny_bind (wpAny_mono (h1 P ρ H s _ X S w) (fun u s₁ ⟨v,H₁,S₁,r,q₁⟩=>wpAny_bind (wpAny_holding ?_)) fun ξ ξ x=>x)
 obtain⟨a,rfl,xs,ea,hn⟩:=ref1_inv q₁
 cases r
 show wpAny _ _ (pure Value.none >>= fun l=>holding [l] (pure Value.none) >>= fun u'=>holding [l,u'] (eval y c.env) >>= fun s'=>newFields "slice" [l,u',s']) _ _ s₁
 refine wpAny_bind (wpAny_pure (wpAny_bind (wpAny_holding (wpAny_pure (wpAny_bind (wpAny_holding (wpAny_mono (h2 P ρ H₁ s₁ (fun v H'=>v=.int (-1)∧H'=H₁) X S₁ ?_) (fun v s₂ ⟨z,H₂,S₂,rz,e1,e2⟩=>?_) fun ξ ξ x=>x)))))))
 ·exact⟨rfl,rfl⟩
 subst e1;subst e2
 obtain⟨t,rfl⟩:=rz
 refine newSlice (wpAny_bind (wpAny_standAt ?_))
 obtain⟨hz,it,n,g,r⟩:=S₂.heap _ _ ea
 have hk:∀b o,s₂.heap.get? b=some o→(s₂.heap.push { cls:=.type "slice",data:=.fields #[Value.none,Value.none,.int (-1) t] }).get? b=some o:=fun b o e=>Heap.get?_push_of_some _ e
 have S':Sim W c P ρ H₂ { s₂ with heap:=s₂.heap.push { cls:=.type "slice",data:=.fields #[Value.none,Value.none,.int (-1) t] } }:=S₂.grow (tk:=s₂.toks) hk
 have hl:(s₂.heap.push { cls:=.type "slice",data:=.fields #[Value.none,Value.none,.int (-1) t] }).IsList a it:=⟨_,hk _ _ g,rfl,_,rfl⟩
 refine tail_any (s:={ s₂ with heap:=s₂.heap.push { cls:=.type "slice",data:=.fields #[Value.none,Value.none,.int (-1) t] } }) (value:=x) (slice:=.Slice none none (some y) q) hl.typeIs slot_list_getitem.lookup (wpAny_getItem_list_slice (s:={ s₂ with heap:=s₂.heap.push { cls:=.type "slice",data:=.fields #[Value.none,Value.none,.int (-1) t] } }) hl (Heap.IsSliceOf.new ..) .none .none (.int _ _) (by decide) ?_ ?_) rfl
 ·have hn':=size_none (s₂.heap.push { cls:=.type "slice",data:=.fields #[Value.none,Value.none,.int (-1) t] })
  have hk':∀b o,(s₂.heap.push { cls:=.type "slice",data:=.fields #[Value.none,Value.none,.int (-1) t] }).get? b=some o→((s₂.heap.push { cls:=.type "slice",data:=.fields #[Value.none,Value.none,.int (-1) t] }).push { cls:=.type "list",data:=.seq (slicePick it none none (some (-1))) }).get? b=some o:=fun b o e=>Heap.get?_push_of_some _ e
  refine⟨.ref _,H₂.set _ (.list xs.reverse),S'.alloc (tk:=s₂.toks) hn' hk' (rep_list hn.1 (Heap.get?_push_size _ rfl) (Reps.mono (.of_keeps fun b o e=>hk' b o (hk b o e)) ?_)),.ref _,hn.2 _ (S'.hsize hn')⟩
  rw[PySem.W.krv_pick]
  simpa using r.reverse
 ·rw[r.size,sizeLine_eq];exact hz

theorem evalArgs_sp {M:Model}{A:Around}{E:Value→Shared→Prop}{s:Shared}{f:Value}{trees:List (Bool×Sem Value)}{Q:Args→Shared→Prop} (hp:trees.any (·.1)=false)
  (h:wpAny M A (spliced trees) (fun vs s'=>Q ⟨vs,[]⟩ s') E s):wpAny M A (evalArgs f true trees []) Q E s:=by
 cases trees with
 | nil =>
  unfold evalArgs
  show wpAny M A (spliced [] >>= _) Q E s
  refine wpAny_bind (wpAny_mono h (fun vs s' h'=>?_) fun ξ ξ x=>x)
  refine wpAny_holding ?_
  exact wpAny_bind (wpAny_pure (wpAny_bind (wpAny_pure (wpAny_pure h'))))
 | cons a r =>
  obtain⟨b,x⟩:=a
  simp only[List.any_cons,Bool.or_eq_false_iff] at hp
  obtain⟨hb,_⟩:=hp
  subst hb
  exact evalArgs_plain h

theorem se_call {f es xs q p} (hx:xs.isEmpty=false) (C:CxOk T c K hd) (O:hd=false→GOk T G c.A) (g:K.gl (Str.ofString f)=true) (hf:K.fns.contains f=true) (ms:NSs xs) (h:SEs W c G hd es xs) :
  SE W c G hd (.call f es) (.Call (.Name (Str.ofString f) q) xs [] p):=fun P ρ H s Q X S w=>by
 obtain _ | ⟨x,xs⟩:=xs
 ·cases hx
 replace w:=qE_call.mp w
 obtain⟨rfl,w⟩:=w
 obtain⟨a,o,fd,e1,e2,e3⟩:=T.hfns f (C.fns▸hf)
 refine wpAny_Call_Name_kw (sound_global C S g e1 ?_)
 refine callWith_function (o:=o) (fd:=fd) (evalArgs_sp (ms _ _) (wpAny_mono (h P ρ H s _ X p S w) (fun us s₁ ⟨vs,H₁,S₁,r,q⟩=>⟨⟨S₁.base _ _ e2,e3⟩,?_⟩) fun ξ ξ x=>x))
 exact O rfl c K rfl C f vs us P ρ H₁ s₁ Q X a S₁ r e1 q
theorem se_bc {f es x xs q p} (hs:f≠.sorted) (C:CxOk T c K hd) (g:K.gl (Str.ofString (bfName f))=true) (ms:NSs (x :: xs)) (h:SEs W c G hd es (x :: xs)) :
  SE W c G hd (.bc f es) (.Call (.Name (Str.ofString (bfName f)) q) (x :: xs) [] p):=fun P ρ H s Q X S w=>by
 replace w:=qE_bc.mp w
 obtain⟨rfl,w⟩:=w
 refine wpAny_Call_Name_kw (sound_builtin C S g (T.bfs f) ?_)
 have go:∀f',f'=bfOf f→wpAny (model W.prog W.w) c.A (evalArgs f' true (backTo p (starEach (x :: xs) c.env)) []) (fun a s₁=>wpAny (model W.prog W.w) c.A (call (bfOf f) ([]++a.pos) a.kw) (PE W c P ρ Q) (EX W c P ρ X) s₁) (EX W c P ρ X) s:=fun f' ξ =>
  evalArgs_sp (ms _ _) (wpAny_mono (h P ρ H s _ X p S w) (fun us s₁ ⟨vs,H₁,S₁,r,q⟩=>sound_bc hs S₁ (C.hand rfl) T.mods r q) fun ξ ξ x=>x)
 cases f
 ·exact callWith_builtin (ms _ _) (go _ rfl)
 ·exact callWith_builtin (ms _ _) (go _ rfl)
 ·exact callWith_builtin (ms _ _) (go _ rfl)
 ·exact callWith_builtin (ms _ _) (go _ rfl)
 ·exact callWith_builtin (ms _ _) (go _ rfl)
 ·exact absurd rfl hs
 ·exact PySem.callWith_type (ms _ _) (go _ rfl)
 ·exact PySem.callWith_type (ms _ _) (go _ rfl)

theorem mt_facts (m:Mt):∃T',(T'=if m=.get∨m=.popD then "dict" else "list")∧PlainAttrs T'∧Slot T' (Str.ofString (mtName m)) (mtId m)∧typeOf (.builtin (mtId m))=pure (.type "method_descriptor"):=by
 cases m
 ·exact⟨_,rfl,F.plainAttrs_list,F.slot_list_append,F.type_list_append⟩
 ·exact⟨_,rfl,F.plainAttrs_list,F.slot_list_clear,F.type_list_clear⟩
 ·exact⟨_,rfl,F.plainAttrs_list,F.slot_list_count,F.type_list_count⟩
 ·exact⟨_,rfl,F.plainAttrs_dict,F.slot_dict_get,F.type_dict_get⟩
 ·exact⟨_,rfl,F.plainAttrs_list,F.slot_list_pop,F.type_list_pop⟩
 ·exact⟨_,rfl,F.plainAttrs_list,F.slot_list_reverse,F.type_list_reverse⟩
 ·exact⟨_,rfl,F.plainAttrs_dict,F.slot_dict_pop,F.type_dict_pop⟩

theorem se_mt {m o es x xs ap p} (hm:m≠.popD) (C:CxOk T c K hd) (hp:(ap.endLine == p.line)=true) (hb:attributeBase x (Str.ofString (mtName m)) c.env (eval x c.env)=eval x c.env) (hl:xs.length<29) (ms:NSs xs)
  (h1:SE W c G hd o x) (h2:SEs W c G hd es xs):SE W c G hd (.mt m o es) (.Call (.Attribute x (Str.ofString (mtName m)) ap) xs [] p):=fun P ρ H s Q X S w=>by
 replace w:=qE_mt.mp w
 have hall:(backTo p (starEach xs c.env)).all (fun x=>!x.1)=true:=by
  have:=ms p c.env
  rw[List.all_eq_true]
  intro z hz
  have:=(List.any_eq_false.mp this) z hz
  simpa using this
 refine wpAny_Call_method_late hb ?_ hp rfl (wpAny_mono (h1 P ρ H s _ X S w) (fun u s₁ ⟨v,H₁,S₁,r,hr,w₁⟩=>?_) fun ξ ξ x=>x)
 ·rw[hall];simp [backToKw,keywordEach];exact lB [] [_] (.n 0) (.c 30) [.B (.n 0) (.c 29)] [1,1] rfl hl
 obtain⟨T',eT,pa,sl,ty⟩:=mt_facts m
 refine⟨T',mtId m,pa,sl,ty,?_,?_,callWith_builtin (ms _ _) (evalArgs_sp (ms _ _) (wpAny_mono (h2.max S₁ w₁) (fun us s₂ ⟨k,vs,H₂,S₂,rs,q⟩=>?_) fun ξ ξ x=>x))⟩
 ·obtain⟨a,rfl,hr⟩:=ref1_inv hr
  cases r
  rcases ob1_inv hr with ⟨ys,ea,hr⟩ | ⟨ys,ea,hr⟩
  ·obtain⟨_,it,n,g,_⟩:=S₁.heap _ _ ea
   rw[eT,if_neg (fun z=>z.elim hr.1 hr.2)]
   exact⟨_,g,rfl⟩
  ·obtain⟨_,ys',⟨ob,es',ep,g,x',_⟩,_⟩:=S₁.heap _ _ ea
   rw[eT,if_pos hr]
   exact⟨_,g,x'.1⟩
 ·rintro a e
  obtain⟨b,rfl,hr⟩:=ref1_inv hr
  cases r
  cases e
  rcases ob1_inv hr with ⟨ys,ea,hr⟩ | ⟨ys,ea,hr⟩
  ·obtain⟨_,it,n,g,_⟩:=S₁.heap _ _ ea
   exact⟨_,g,rfl⟩
  ·obtain⟨_,ys',⟨ob,es',ep,g,x',_⟩,_⟩:=S₁.heap _ _ ea
   exact⟨_,g,x'.2.1⟩
 ·exact sound_mt hm S₂ C.units T.mods (r.mono k) rs q
end
end Mine
end

section
namespace Mine
open PySem PySem.W PySem.Calls PyProof.Rows PySem.SeqAt
section
variable {W:Wd}{T:Tx W}{c:Cx}{K:Kc}{hd:Bool}{G:Gl}

inductive CnV (T:Tx W):Cn→Value→Prop
 | own {c C}:W.cls c=some C→CnV T (.own c) (.ref C)
 | ty {c n}:cnName c=some n→CnV T c (.type n)
inductive CnVs (T:Tx W):List Cn→List Value→Prop
 | nil:CnVs T [] []
 | cons {c v cs vs}:CnV T c v→CnVs T cs vs→CnVs T (c :: cs) (v :: vs)

theorem Sim.frag {P:Addr→Obj→Prop}{ρ:Loc}{H:Hp}{s:Shared} (S:Sim W c P ρ H s):T.frag.In s.heap:=fun a o e=>S.base _ _ (T.hfrag a o e)

theorem isi_plain {t n:String}{cc:Cn}{cv:Value} (hv:CnV T cc cv) (hc:cnName cc=some n) (hn:n∈["int", "bool", "list", "tuple"]) (ht:t∈["NoneType", "bool", "int", "str", "tuple", "list", "dict"]):kitOne T.frag (.type t) cv=some (isiTy t n):=by
 cases hv with
 | own _=>cases hc
 | ty e=>rw[hc] at e;cases e;exact T.kty t ht n hn

theorem isi_kinds {anc:String→List String}{v:V}{H:Hp}{t:String} (hx:∀K,excB v K=none) (h1:kindB H v false true true false false false false=some (isiTy t "int")) (h2:kindB H v false true false false false false false=some (isiTy t "bool"))
  (h3:kindB H v false false false false false true false=some (isiTy t "list")) (h4:kindB H v false false false false true false false=some (isiTy t "tuple")):∀cc b,isi1 anc H v cc=some b→∃n,cnName cc=some n∧n∈["int", "bool", "list", "tuple"]∧b=isiTy t n:=by
 intro cc b e
 cases cc with
 | own c=>cases (hx _).symm.trans e
 | int=>exact⟨_,rfl,.head _,Option.some.inj (e.symm.trans h1)⟩
 | bool=>exact⟨_,rfl,.tail _ (.head _),Option.some.inj (e.symm.trans h2)⟩
 | list=>exact⟨_,rfl,.tail _ (.tail _ (.head _)),Option.some.inj (e.symm.trans h3)⟩
 | tuple=>exact⟨_,rfl,.tail _ (.tail _ (.tail _ (.head _))),Option.some.inj (e.symm.trans h4)⟩
 | valueError=>cases (hx _).symm.trans e
theorem kind_ref {H:Hp}{a:Addr}{ob:Ob}{n b i s t l d:Bool} (ha:H a=some ob):kindB H (.ref a) n b i s t l d=Ob.casesOn (motive:=fun ξ=>Option Bool) ob (fun ξ=>some l) fun ξ=>some d:=by
 show ob1 (H a) none (fun ξ=>some l) (fun ξ=>some d)=_
 rw[ha];rfl
theorem kit_of {v:V}{u:Value}{c0:Cn}{b0:Bool}{P:Addr→Obj→Prop}{ρ:Loc}{H:Hp}{s:Shared} (S:Sim W c P ρ H s) (r:Rep W s.heap v u) (h0:isi1 T.anc H v c0=some b0) :
  ∃t Hh,KitX T.frag u t Hh∧Hh s.heap∧u≠.builtin "__main__.__loader__#opaque" ∧ ∀cc cv b,isi1 T.anc H v cc=some b→CnV T cc cv→kitOne T.frag t cv=some b:=by
 have fin:∀t,t∈["NoneType", "bool", "int", "str", "tuple", "list", "dict"]→(∀cc b,isi1 T.anc H v cc=some b→∃n,cnName cc=some n∧n∈["int", "bool", "list", "tuple"]∧b=isiTy t n) →
   ∀cc cv b,isi1 T.anc H v cc=some b→CnV T cc cv→kitOne T.frag (.type t) cv=some b:=fun t ht h cc cv b e hv=>by
  obtain⟨n,e1,e2,rfl⟩:=h cc b e
  exact isi_plain hv e1 e2 ht
 cases v with
 | none=>cases r;exact⟨_,_,kitx_none,trivial,nofun,fin _ (.head _) (isi_kinds (fun ξ=>rfl) rfl rfl rfl rfl)⟩
 | bool y=>cases r;exact⟨_,_,kitx_bool,trivial,nofun,fin _ (.tail _ (.head _)) (isi_kinds (fun ξ=>rfl) rfl rfl rfl rfl)⟩
 | int y=>obtain⟨t,rfl⟩:=r;exact⟨_,_,kitx_int,trivial,nofun,fin _ (.tail _ (.tail _ (.head _))) (isi_kinds (fun ξ=>rfl) rfl rfl rfl rfl)⟩
 | str y=>obtain⟨t,rfl⟩:=r;exact⟨_,_,kitx_str,trivial,nofun,fin _ (.tail _ (.tail _ (.tail _ (.head _)))) (isi_kinds (fun ξ=>rfl) rfl rfl rfl rfl)⟩
 | tup ys =>
  obtain⟨a,o,items,n,rfl,g,k,d,l,rs⟩:=r.tupR
  exact⟨_,_,kitx_tuple,⟨_,g,k⟩,nofun,fin _ (.tail _ (.tail _ (.tail _ (.tail _ (.head _))))) (isi_kinds (fun ξ=>rfl) rfl rfl rfl rfl)⟩
 | ref a =>
  cases r
  cases ha:H a with
  | none=>cases c0 <;> (have h0:=h0;simp only[isi1,kindB,excB,ha,ob1] at h0;cases h0)
  | some ob =>
   cases ob with
   | list xs =>
    obtain⟨_,it,n,g,_⟩:=S.heap _ _ ha
    exact⟨_,_,kitx_list,⟨_,g,rfl⟩,nofun,fin _ (.tail _ (.tail _ (.tail _ (.tail _ (.tail _ (.head _)))))) (isi_kinds (fun ξ=>rfl) (kind_ref ha) (kind_ref ha) (kind_ref ha) (kind_ref ha))⟩
   | dict xs =>
    obtain⟨_,ys,⟨o,es,ep,g,x,_⟩,_⟩:=S.heap _ _ ha
    exact⟨_,_,kitx_dict,⟨_,g,x.1⟩,nofun,fin _ (.tail _ (.tail _ (.tail _ (.tail _ (.tail _ (.tail _ (.head _))))))) (isi_kinds (fun ξ=>rfl) (kind_ref ha) (kind_ref ha) (kind_ref ha) (kind_ref ha))⟩
 | ro xs=>cases c0 <;> cases h0
 | exc d =>
  obtain⟨a,C,o,ws,rfl,g,k,dd,q⟩:=r
  refine⟨_,_,kitx_exc (T.kcl _ _ q),⟨_,g,k⟩,nofun,fun cc cv b e hv=>?_⟩
  cases hv with
  | own h=>cases e;rw[T.kown _ _ _ _ q h]
  | ty h=>cases cc <;> cases h <;> cases e;exact T.kval _ _ q

theorem kit_any {t:Value}{f:Cn→Option Bool}{v:V}{H:Hp} (h:∀cc cv b,isi1 T.anc H v cc=some b→CnV T cc cv→kitOne T.frag t cv=some b):∀ {cs:List Cn}{vs:List Value}{b:Bool},CnVs T cs vs→isiAny T.anc H v cs=some b→kitAny T.frag t vs=some b
 | _,_,b,.nil,e=>by cases e;rfl
 | _,_,b,.cons h1 h2,e=>by
  obtain⟨x,y,e1,e2,rfl⟩:=oor_inv e
  have k1:=h _ _ _ e1 h1
  have k2:=kit_any (f:=f) h h2 e2
  unfold kitAny
  rw[k1]
  cases x with
  | true=>rfl
  | false=>exact k2

theorem sound_cn {cc:Cn}{y:Expr}{P:Addr→Obj→Prop}{ρ:Loc}{H:Hp}{s:Shared}{E:Value→Shared→Prop}{Q:Value→Shared→Prop} (C:CxOk T c K hd) (S:Sim W c P ρ H s) (m:MCn K cc y) (h:∀cv,CnV T cc cv→Q cv s):wpAny (model W.prog W.w) c.A (eval y c.env) Q E s:=by
 cases m with
 | own e g k =>
  subst e
  obtain⟨D,e1,e2⟩:=T.hcls _ (C.cls▸k)
  exact sound_global C S g e1 (h _ (.own e2))
 | ty e1 e2 g =>
  subst e2
  exact sound_builtin C S g (T.cns _ _ e1) (h _ (.ty e1))
theorem MCn.star {cc:Cn}{x:Expr}{xs:List Expr}{env:Env} (h:MCn K cc x):starEach (x :: xs) env=(false,eval x env) :: starEach xs env:=by cases h <;> rfl
theorem sound_cns {P:Addr→Obj→Prop}{ρ:Loc}{H:Hp}{s:Shared}{E:Value→Shared→Prop}{pos:Pos} (C:CxOk T c K hd) (S:Sim W c P ρ H s) {cs:List Cn}{ys:List Expr} (h0:MCns K cs ys):∀ {Q:List Value→Shared→Prop},(∀vs,CnVs T cs vs→Q vs s) →
  wpAny (model W.prog W.w) c.A (spliced (backTo pos (starEach ys c.env))) Q E s:=by
 induction h0 with
 | nil=>intro Q h;exact spliced_nil (h [] .nil)
 | cons m ms ih =>
  intro Q h
  rw[m.star]
  exact spliced_cons (sound_cn C S m fun cv hv=>ih fun vs hvs=>h _ (.cons hv hvs))

theorem se_isi1 {e cc x y q p} (hG:G.anc=T.anc) (C:CxOk T c K hd) (g:K.gl (Str.ofString "isinstance")=true) (me:Pl x) (h1:SE W c G hd e x) (m:MCn K cc y):SE W c G hd (.isi e [cc]) (.Call (.Name (Str.ofString "isinstance") q) [x,y] [] p):=fun P ρ H s Q X S w=>by
 replace w:=qE_isi.mp w
 refine wpAny_Call_Name_kw (sound_builtin C S g T.isi ?_)
 rw[me.star,m.star]
 refine callWith_builtin rfl (evalArgs_plain (spliced_cons (wpAny_mono (h1 P ρ H s _ X S w) (fun u s₁ hx=>?_) fun ξ ξ x=>x)))
 obtain⟨v,H₁,S₁,r,b,e,q⟩:=hx
 refine spliced_cons (sound_cn C S₁ m fun cv hv=>spliced_nil ?_)
 rw[hG] at e
 obtain⟨b1,b2,e1,e2,rfl⟩:=oor_inv (a:=isi1 T.anc H₁ v cc) (b:=some false) e
 cases e2
 obtain⟨t,Hh,Z,z,nb,k⟩:=kit_of S₁ r e1
 exact kia_one Z S₁.frag z (by simpa using k _ _ _ e1 hv) nb fun tk=>⟨_,_,S₁.toks tk,.bool _,q⟩
theorem CnVs.length {cs:List Cn}{vs:List Value} (h0:CnVs T cs vs):vs.length=cs.length:=by
 induction h0 with
 | nil=>rfl
 | cons _ _ ih=>rw[List.length_cons,List.length_cons,ih]
theorem se_isiN {e cc dd cs x ys k t q p} (hc:cs.length<1000) (hG:G.anc=T.anc) (C:CxOk T c K hd) (g:K.gl (Str.ofString "isinstance")=true) (me:Pl x) (h1:SE W c G hd e x) (m:MCns K (cc :: dd :: cs) ys):SE W c G hd (.isi e (cc :: dd :: cs)) (.Call (.Name (Str.ofString "isinstance") q) [x,.Tuple ys k t] [] p):=fun P ρ H s Q X S w=>by
 replace w:=qE_isi.mp w
 refine wpAny_Call_Name_kw (sound_builtin C S g T.isi ?_)
 rw[me.star]
 refine callWith_builtin rfl (evalArgs_plain (spliced_cons (wpAny_mono (h1 P ρ H s _ X S w) (fun u s₁ hx=>?_) fun ξ ξ x=>x)))
 obtain⟨v,H₁,S₁,r,b,e,q⟩:=hx
 refine spliced_cons ?_
 show wpAny _ _ (do standAt t;newTuple (←spliced (backTo t (starEach ys c.env)))) _ _ s₁
 refine wpAny_bind (wpAny_standAt (wpAny_bind (sound_cns C S₁ m fun vs hvs=>?_)))
 rw[hG] at e
 have hlen:=hvs.length
 have e0:∃b0,isi1 T.anc H₁ v cc=some b0:=by
  obtain⟨b1,_,e1,_⟩:=oor_inv (a:=isi1 T.anc H₁ v cc) (b:=isiAny T.anc H₁ v (dd :: cs)) e
  exact⟨b1,e1⟩
 obtain⟨b0,e0⟩:=e0
 refine wpAny_newObj_type (spliced_nil ?_) ?_
 ·have hk:∀b o,s₁.heap.get? b=some o→(s₁.heap.push { cls:=.type "tuple",data:=.seq vs.toArray }).get? b=some o:=fun b o e=>Heap.get?_push_of_some _ e
  have S₂:Sim W c P ρ H₁ { s₁ with heap:=s₁.heap.push { cls:=.type "tuple",data:=.seq vs.toArray } }:=S₁.grow (tk:=s₁.toks) hk
  obtain⟨t,Hh,Z,z,nb,kk⟩:=kit_of S₂ (r.mono (.of_keeps hk)) e0
  exact kia_tup (s:={ s₁ with heap:=s₁.heap.push { cls:=.type "tuple",data:=.seq vs.toArray } }) Z S₂.frag z (Heap.get?_push_size _ rfl) (kit_any (f:=fun ξ=>none) kk hvs e) nb fun tk=>⟨_,_,S₂.toks tk,.bool _,q⟩
 ·show vs.toArray.size≤sizeLine
  rw[List.size_toArray,hlen,sizeLine_eq];simp only[List.length_cons];exact lA [] [_] (.a (.a (.n 0) (.c 1)) (.c 1)) (.c 16777216) [.B (.n 0) (.c 1000)] [1,1] rfl hc
end
end Mine
end

section
namespace Mine
open PySem PySem.W PyProof.Rows

noncomputable def kOk {α:Type} (lt:Nat→Nat→Bool) (n:Nat):KasT α→(α→Prop)→Prop
 | .ret a,Q=>Q a
 | .ask i j k,Q=>i<n∧j<n∧kOk lt n (k (lt i j)) Q
theorem kOk_bind {α β:Type}{lt:Nat→Nat→Bool}{n:Nat}{f:α→KasT β}{Q:β→Prop}:∀ {t:KasT α},kOk lt n t (fun a=>kOk lt n (f a) Q)→kOk lt n (t.bind f) Q
 | .ret a,h=>h
 | .ask i j k,⟨h1,h2,h⟩=>⟨h1,h2,kOk_bind h⟩
theorem kOk_mono {α:Type}{lt:Nat→Nat→Bool}{n:Nat}{Q Q':α→Prop} (hq:∀a,Q a→Q' a):∀ {t:KasT α},kOk lt n t Q→kOk lt n t Q'
 | .ret a,h=>hq a h
 | .ask i j k,⟨h1,h2,h⟩=>⟨h1,h2,kOk_mono hq h⟩
theorem kOk_wp {α:Type}{lt:Nat→Nat→Bool}{n:Nat}{cmp:Nat→Nat→(Bool→Shared→Prop)→Shared→Prop}{s:Shared}{Q:α→Shared→Prop} (hc:∀i j C,i<n→j<n→C (lt i j) s→cmp i j C s) :
  ∀ {t:KasT α},kOk lt n t (fun a=>Q a s)→t.kasWp cmp Q s
 | .ret a,h=>h
 | .ask i j k,⟨h1,h2,h⟩=>hc i j _ h1 h2 (kOk_wp hc h)

section
variable {key:Nat→Int}{n:Nat}
noncomputable def KK' (key:Nat→Int) (p:Array Nat) (i:Nat):Int:=key (p.getD i 0)
noncomputable def PermR (p:Array Nat) (n:Nat):Prop:=p.toList.Perm (List.range n)
theorem PermR.size {p:Array Nat} (h:PermR p n):p.size=n:=by have:=h.length_eq;simpa using this
theorem PermR.lt {p:Array Nat} (h:PermR p n) {i:Nat} (hi:i<n):p.getD i 0<n:=by
 have hs:=h.size
 have e:p.getD i 0=p[i]'(by omega):=by simp [Array.getD,show i<p.size by omega]
 rw[e]
 have m:p[i]'(by omega)∈p.toList:=by simp
 simpa using h.mem_iff.mp m
theorem PermR.inj {p:Array Nat} (h:PermR p n) {i j:Nat} (hi:i<n) (hj:j<n) (e:p.getD i 0=p.getD j 0):i=j:=by
 have hs:=h.size
 have hn:p.toList.Nodup:=h.nodup_iff.mpr List.nodup_range
 have e1:p.getD i 0=p.toList[i]'(by simp;exact lB [] [_,_,_] (.n 0) (.n 1) [.B (.n 0) (.n 2),.E (.n 1) (.n 2)] [1,1,-1] rfl hi hs):=by simp [Array.getD,show i<p.size by exact lB [] [_,_,_] (.n 0) (.n 1) [.B (.n 0) (.n 2),.E (.n 1) (.n 2)] [1,1,-1] rfl hi hs]
 have e2:p.getD j 0=p.toList[j]'(by simp;exact lB [] [_,_,_] (.n 0) (.n 1) [.B (.n 0) (.n 2),.E (.n 1) (.n 2)] [1,1,-1] rfl hj hs):=by simp [Array.getD,show j<p.size by exact lB [] [_,_,_] (.n 0) (.n 1) [.B (.n 0) (.n 2),.E (.n 1) (.n 2)] [1,1,-1] rfl hj hs]
 rw[e1,e2] at e
 exact (List.getElem_inj hn).mp e
noncomputable def Srt (key:Nat→Int) (p:Array Nat) (m:Nat):Prop:=∀i j,i≤j→j<m→KK' key p i≤KK' key p j
noncomputable def Dec (key:Nat→Int) (p:Array Nat) (m:Nat):Prop:=∀i j,i≤j→j<m→KK' key p j≤KK' key p i
theorem ne_of {p:Array Nat} (hk:∀i j,i<n→j<n→key i=key j→i=j) (h:PermR p n) {i j:Nat} (hi:i<n) (hj:j<n) (q:i≠j):KK' key p i≠KK' key p j:=fun e=>q (h.inj hi hj (hk _ _ (h.lt hi) (h.lt hj) e))
abbrev ltK (key:Nat→Int):Nat→Nat→Bool:=fun i j=>decide (key i<key j)

theorem k_asc {p:Array Nat} (h:PermR p n):∀(f m:Nat),1≤m→m+f≤n→Srt key p m→kOk (ltK key) n (kas_asc p f m) (fun m'=>m≤m'∧m'≤m+f∧Srt key p m'∧(m'<m+f→KK' key p m'<KK' key p (m'-1)))
 | 0,m,h1,h2,hs=>⟨Nat.le_refl _,Nat.le_refl _,hs,fun q=>absurd q (Nat.lt_irrefl _)⟩
 | f+1,m,h1,h2,hs=>by
  refine⟨h.lt (by exact lB [] [_,_,_] (.n 0) (.n 1) [.L (.a (.n 0) (.a (.n 2) (.c 1))) (.n 1)] [1,1] rfl h2),h.lt (by exact lB [] [_,_,_,_] (.n 0) (.n 1) [.L (.a (.n 2) (.a (.n 3) (.c 1))) (.n 1),.L (.n 0) (.n 2)] [1,1,1] rfl h2 (ns0 (a:=m) (b:=1))),?_⟩
  by_cases c:key (p.getD m 0)<key (p.getD (m-1) 0)
  ·simp only[ltK,decide_eq_true c,if_true];exact⟨Nat.le_refl _,by exact lA [] [_,_] (.n 0) (.a (.n 0) (.a (.n 1) (.c 1))) [] [1] rfl,hs,fun ξ=>c⟩
  ·simp only[ltK,decide_eq_false c,Bool.false_eq_true,if_false]
   refine kOk_mono (fun m' ⟨a1,a2,a3,a4⟩=>⟨by exact lA [] [_,_] (.n 0) (.n 1) [.L (.a (.n 0) (.c 1)) (.n 1)] [1,1] rfl a1,by exact lA [] [_,_,_] (.n 0) (.a (.n 1) (.a (.n 2) (.c 1))) [.L (.n 0) (.a (.a (.n 1) (.c 1)) (.n 2))] [1,1] rfl a2,a3,fun q=>a4 (by exact lB [] [_,_,_] (.n 0) (.a (.a (.n 1) (.c 1)) (.n 2)) [.B (.n 0) (.a (.n 1) (.a (.n 2) (.c 1)))] [1,1] rfl q)⟩) (k_asc h f (m+1) (by exact lA [] [_] (.c 1) (.a (.n 0) (.c 1)) [.L (.c 1) (.n 0)] [1,1] rfl h1) (by exact lA [] [_,_,_] (.a (.a (.n 0) (.c 1)) (.n 1)) (.n 2) [.L (.a (.n 0) (.a (.n 1) (.c 1))) (.n 2)] [1,1] rfl h2) fun i j hij hj=>?_)
   by_cases q:j<m
   ·exact hs i j hij q
   ·have e:j=m:=by exact lQ [] [_,_] (.n 0) (.n 1) [.L (.n 1) (.n 0),.B (.n 0) (.a (.n 1) (.c 1))] [1,1,0] [1,0,1] rfl (Nat.not_lt.mp q) hj
    subst e
    by_cases q2:i=j
    ·subst q2;exact Int.le_refl _
    ·have:=hs i (j-1) (Nat.le_sub_one_of_lt (Nat.lt_of_le_of_ne hij q2)) (by exact lB [] [_,_] (.n 0) (.n 1) [.E (.a (.n 0) (.c 1)) (.n 1)] [1,1] rfl (nsE (a:=j) (b:=1) (h1)))
     unfold KK' at this ⊢;exact la [_,_,_] [] (.v 0) (.v 1) [.l (.v 2) (.v 1),.l (.v 0) (.v 2)] [1,1,1] rfl (Int.not_lt.mp c) this
theorem k_desc {p:Array Nat} (hk:∀i j,i<n→j<n→key i=key j→i=j) (h:PermR p n):∀(f m:Nat),1≤m→m+f≤n→Dec key p m→kOk (ltK key) n (kas_desc f p m 0) (fun r=>r.1=p∧r.2.2=0∧m≤r.2.1∧r.2.1≤m+f∧Dec key p r.2.1)
 | 0,m,h1,h2,hs=>⟨rfl,rfl,Nat.le_refl _,Nat.le_refl _,hs⟩
 | f+1,m,h1,h2,hs=>by
  refine⟨h.lt (by exact lB [] [_,_,_] (.n 0) (.n 1) [.L (.a (.n 0) (.a (.n 2) (.c 1))) (.n 1)] [1,1] rfl h2),h.lt (by exact lB [] [_,_,_,_] (.n 0) (.n 1) [.L (.a (.n 2) (.a (.n 3) (.c 1))) (.n 1),.L (.n 0) (.n 2)] [1,1,1] rfl h2 (ns0 (a:=m) (b:=1))),?_⟩
  by_cases c:key (p.getD m 0)<key (p.getD (m-1) 0)
  ·simp only[ltK,decide_eq_true c,if_true,Nat.lt_irrefl,if_false,gt_iff_lt]
   refine kOk_mono (fun m' ⟨a0,a1,a2,a3,a4⟩=>⟨a0,a1,by exact lA [] [_,_] (.n 0) (.n 1) [.L (.a (.n 0) (.c 1)) (.n 1)] [1,1] rfl a2,by exact lA [] [_,_,_] (.n 0) (.a (.n 1) (.a (.n 2) (.c 1))) [.L (.n 0) (.a (.a (.n 1) (.c 1)) (.n 2))] [1,1] rfl a3,a4⟩) (k_desc hk h f (m+1) (by exact lA [] [_] (.c 1) (.a (.n 0) (.c 1)) [.L (.c 1) (.n 0)] [1,1] rfl h1) (by exact lA [] [_,_,_] (.a (.a (.n 0) (.c 1)) (.n 1)) (.n 2) [.L (.a (.n 0) (.a (.n 1) (.c 1))) (.n 2)] [1,1] rfl h2) fun i j hij hj=>?_)
   by_cases q:j<m
   ·exact hs i j hij q
   ·have e:j=m:=by exact lQ [] [_,_] (.n 0) (.n 1) [.L (.n 1) (.n 0),.B (.n 0) (.a (.n 1) (.c 1))] [1,1,0] [1,0,1] rfl (Nat.not_lt.mp q) hj
    subst e
    by_cases q2:i=j
    ·subst q2;exact Int.le_refl _
    ·have:=hs i (j-1) (Nat.le_sub_one_of_lt (Nat.lt_of_le_of_ne hij q2)) (by exact lB [] [_,_] (.n 0) (.n 1) [.E (.a (.n 0) (.c 1)) (.n 1)] [1,1] rfl (nsE (a:=j) (b:=1) (h1)))
     unfold KK' at this ⊢;exact la [_,_,_] [] (.v 0) (.v 1) [.b (.v 0) (.v 2),.l (.v 2) (.v 1)] [1,1,1] rfl c this
  ·simp only[ltK,decide_eq_false c,Bool.false_eq_true,if_false]
   refine⟨h.lt (by exact lB [] [_,_,_,_] (.n 0) (.n 1) [.L (.a (.n 2) (.a (.n 3) (.c 1))) (.n 1),.L (.n 0) (.n 2)] [1,1,1] rfl h2 (ns0 (a:=m) (b:=1))),h.lt (by exact lB [] [_,_,_] (.n 0) (.n 1) [.L (.a (.n 0) (.a (.n 2) (.c 1))) (.n 1)] [1,1] rfl h2),?_⟩
   have c2:key (p.getD (m-1) 0)<key (p.getD m 0):=by
    have:=ne_of hk h (i:=m-1) (j:=m) (by exact lB [] [_,_,_,_] (.n 0) (.n 1) [.L (.a (.n 2) (.a (.n 3) (.c 1))) (.n 1),.L (.n 0) (.n 2)] [1,1,1] rfl h2 (ns0 (a:=m) (b:=1))) (by exact lB [] [_,_,_] (.n 0) (.n 1) [.L (.a (.n 0) (.a (.n 2) (.c 1))) (.n 1)] [1,1] rfl h2) (by exact lf [] [_,_] [.E (.a (.n 0) (.c 1)) (.n 1),.E (.n 0) (.n 1)] [1,-1] rfl (nsE (a:=m) (b:=1) (h1)))
    exact Int.lt_iff_le_and_ne.mpr ⟨Int.not_lt.mp c,this⟩
   simp only[decide_eq_true c2,if_true]
   exact⟨rfl,rfl,Nat.le_refl _,by show m≤m+(f+1);exact lA [] [_,_] (.n 0) (.a (.n 0) (.a (.n 1) (.c 1))) [] [1] rfl,hs⟩
theorem rev_get {p:Array Nat}{m k:Nat} (hm:m≤p.size):(kas_rev p 0 m).getD k 0=if k<m then p.getD (m-1-k) 0 else p.getD k 0:=by
 have e:=getElem?_mirror_all (xs:=p) (i:=0) (j:=m) hm k
 unfold kas_rev
 rw[Array.getD_eq_getD_getElem?,e]
 by_cases q:k<m
 ·rw[if_pos ⟨Nat.zero_le _,q⟩,if_pos q,Array.getD_eq_getD_getElem?];simp
 ·rw[if_neg (by omega),if_neg q,Array.getD_eq_getD_getElem?]
theorem rev_perm {p:Array Nat}{m:Nat} (h:PermR p n):PermR (kas_rev p 0 m) n:=((mirror_perm p 0 m _).toList).trans h
theorem k_tail3 {p:Array Nat}{m:Nat} (h:PermR p n) (h1:1≤m) (h2:m≤n) (hd:Dec key p m):kOk (ltK key) n (kas_tail3 m n p) (fun r=>1≤r.1∧r.1≤n∧PermR r.2 n∧Srt key r.2 r.1):=by
 refine kOk_bind (kOk_mono (fun m' ⟨a1,a2,a3,_⟩=>⟨by show 1≤m';exact lA [] [_,_] (.c 1) (.n 0) [.L (.c 1) (.n 1),.L (.n 1) (.n 0)] [1,1,1] rfl h1 a1,by show m'≤n;exact lA [] [_,_,_,_] (.n 0) (.n 1) [.L (.n 0) (.a (.n 2) (.n 3)),.E (.a (.n 3) (.n 2)) (.n 1)] [1,1,1] rfl a2 (nsE (a:=n) (b:=m) (h2)),rev_perm h,a3⟩) (k_asc (rev_perm h) (n-m) m h1 (by exact lA [] [_,_,_] (.a (.n 0) (.n 1)) (.n 2) [.E (.a (.n 1) (.n 0)) (.n 2)] [1,1] rfl (nsE (a:=n) (b:=m) (h2))) fun i j hij hj=>?_))
 unfold KK'
 rw[rev_get (by rw[h.size];exact h2),rev_get (by rw[h.size];exact h2),if_pos (by exact lB [] [_,_,_] (.n 0) (.n 1) [.L (.n 0) (.n 2),.B (.n 2) (.n 1)] [1,1,1] rfl hij hj),if_pos hj]
 exact hd _ _ (by exact lA [] [_,_,_,_,_] (.n 0) (.n 1) [.L (.n 2) (.n 3),.E (.a (.n 1) (.n 2)) (.n 4),.E (.a (.n 0) (.n 3)) (.n 4)] [1,1,-1,1] rfl hij (nsE (a:=m-1) (b:=i) (lA [] [_,_,_,_] (.n 0) (.n 1) [.L (.n 0) (.n 2),.B (.n 2) (.n 3),.L (.n 3) (.a (.n 1) (.c 1))] [1,1,1,1] rfl hij hj (ns1 (a:=m) (b:=1)))) (nsE (a:=m-1) (b:=j) (lA [] [_,_,_] (.n 0) (.n 1) [.B (.n 0) (.n 2),.L (.n 2) (.a (.n 1) (.c 1))] [1,1,1] rfl hj (ns1 (a:=m) (b:=1))))) (by exact lB [] [_,_,_] (.n 0) (.n 1) [.E (.a (.n 2) (.c 1)) (.n 1),.L (.n 0) (.n 2)] [1,1,1] rfl (nsE (a:=m) (b:=1) (h1)) (ns0 (a:=m-1) (b:=i)))
theorem k_count {p:Array Nat} (hk:∀i j,i<n→j<n→key i=key j→i=j) (h:PermR p n) (h1:1≤n):kOk (ltK key) n (kas_count n p) (fun r=>1≤r.1∧r.1≤n∧PermR r.2 n∧Srt key r.2 r.1):=by
 have ha:=k_asc (key:=key) h (n-1) 1 (Nat.le_refl _) (by exact lA [] [_,_] (.a (.c 1) (.n 0)) (.n 1) [.E (.a (.n 0) (.c 1)) (.n 1)] [1,1] rfl (nsE (a:=n) (b:=1) (h1))) fun i j hij hj=>by
  have:i=j:=by exact lQ [] [_,_] (.n 0) (.n 1) [.B (.n 1) (.c 1),.L (.n 0) (.n 1)] [1,1,0] [1,0,1] rfl hj hij
  subst this;exact Int.le_refl _
 refine kOk_bind (kOk_mono (fun m ⟨a1,a2,a3,a4⟩=>?_) ha)
 ·have a2o:=a2
  rw[Nat.add_sub_cancel' h1] at a2 a4
  by_cases q:(m == n)=true
  ·rw[if_pos q];exact⟨a1,a2,h,a3⟩
  ·rw[if_neg q]
   have q:m≠n:=by simpa using q
   by_cases q2:m > 1
   ·rw[if_pos q2]
    refine⟨h.lt (by exact lB [] [_] (.c 0) (.n 0) [.L (.c 1) (.n 0)] [1,1] rfl h1),h.lt (by exact lB [] [_,_,_,_] (.n 0) (.n 1) [.L (.n 2) (.a (.c 1) (.n 3)),.E (.a (.n 0) (.c 1)) (.n 2),.E (.a (.n 3) (.c 1)) (.n 1)] [1,1,1,1] rfl a2o (nsE (a:=m) (b:=1) (a1)) (nsE (a:=n) (b:=1) (h1))),?_⟩
    have c2:key (p.getD 0 0)<key (p.getD (m-1) 0):=by
     have:=ne_of hk h (i:=0) (j:=m-1) (by exact lB [] [_] (.c 0) (.n 0) [.L (.c 1) (.n 0)] [1,1] rfl h1) (by exact lB [] [_,_,_,_] (.n 0) (.n 1) [.L (.n 2) (.a (.c 1) (.n 3)),.E (.a (.n 0) (.c 1)) (.n 2),.E (.a (.n 3) (.c 1)) (.n 1)] [1,1,1,1] rfl a2o (nsE (a:=m) (b:=1) (a1)) (nsE (a:=n) (b:=1) (h1))) (by exact lf [] [_,_] [.B (.c 1) (.n 0),.L (.n 0) (.a (.n 1) (.c 1)),.E (.c 0) (.n 1)] [1,1,-1] rfl q2 (ns1 (a:=m) (b:=1)))
     have:=a3 0 (m-1) (by exact lA [] [_] (.c 0) (.n 0) [] [1] rfl) (by exact lB [] [_,_] (.n 0) (.n 1) [.E (.a (.n 0) (.c 1)) (.n 1)] [1,1] rfl (nsE (a:=m) (b:=1) (a1)))
     unfold KK' at *;exact Int.lt_iff_le_and_ne.mpr ⟨by assumption,by assumption⟩
    simp only[ltK,decide_eq_true c2,if_true]
    exact⟨a1,a2,h,a3⟩
   ·rw[if_neg q2]
    have e:m=1:=by exact lQ [] [_] (.n 0) (.c 1) [.L (.c 1) (.n 0),.L (.n 0) (.c 1)] [1,1,0] [1,0,1] rfl a1 (Nat.not_lt.mp q2)
    subst e
    have hn2:1+1≤n:=Nat.lt_of_le_of_ne a2 q
    have hd:=k_desc hk h (n-(1+1)) (1+1) (by exact lA [] [] (.c 1) (.a (.c 1) (.c 1)) [] [1] rfl) (Nat.le_of_eq (Nat.add_sub_cancel' hn2)) fun i j hij hj=>by
     have h4:KK' key p 1<KK' key p 0:=a4 hn2
     have e:(j=0∨j=1):=(Nat.lt_or_ge j 1).elim (fun h=>.inl (Nat.lt_one_iff.mp h)) fun h=>.inr (Nat.le_antisymm (Nat.le_of_lt_succ hj) h)
     rcases e with rfl | rfl
     ·have:i=0:=by exact lQ [] [_] (.n 0) (.c 0) [.L (.n 0) (.c 0)] [1,0] [1,1] rfl hij
      subst this;exact Int.le_refl _
     ·by_cases q:i=1
      ·subst q;exact Int.le_refl _
      ·have:i=0:=Nat.lt_one_iff.mp (Nat.lt_of_le_of_ne hij q)
       subst this
       exact la [_,_] [] (.v 0) (.v 1) [.b (.v 0) (.v 1)] [1,1] rfl h4
    refine kOk_bind (kOk_mono (fun r ⟨b0,b1,b2,b3,b4⟩=>?_) hd)
    rw[if_neg (by exact lf [] [_] [.E (.n 0) (.c 0),.B (.c 0) (.n 0)] [1,1] rfl b1),b0]
    exact k_tail3 h (by exact lA [] [_] (.c 1) (.n 0) [.L (.a (.c 1) (.c 1)) (.n 0)] [1,1] rfl b2) (Nat.add_sub_cancel' hn2▸b3) b4

theorem k_place {p:Array Nat} (h:PermR p n) {k:Nat} (hkn:k<n) (hs:Srt key p k):∀(f l r:Nat),l≤r→r≤k→r-l≤f→(∀i,i<l→KK' key p i≤KK' key p k)→(∀i,r≤i→i<k→KK' key p k<KK' key p i) →
  kOk (ltK key) n (kas_place p k f l r) (fun l'=>l'≤k∧(∀i,i<l'→KK' key p i≤KK' key p k)∧(∀i,l'≤i→i<k→KK' key p k<KK' key p i))
 | 0,l,r,h1,h2,h3,a,b=>⟨by exact lA [] [_,_,_] (.n 0) (.n 1) [.L (.n 0) (.n 2),.L (.n 2) (.n 1)] [1,1,1] rfl h1 h2,a,fun i hi=>b i (by exact lA [] [_,_,_,_] (.n 0) (.n 1) [.L (.n 2) (.c 0),.L (.n 3) (.n 1),.L (.n 0) (.a (.n 2) (.n 3))] [1,1,1,1] rfl h3 hi (ns1 (a:=r) (b:=l)))⟩
 | f+1,l,r,h1,h2,h3,a,b=>by
  unfold kas_place
  by_cases q:l ≥ r
  ·rw[if_pos q];exact⟨by exact lA [] [_,_,_] (.n 0) (.n 1) [.L (.n 0) (.n 2),.L (.n 2) (.n 1)] [1,1,1] rfl h1 h2,a,fun i hi=>b i (by exact lA [] [_,_,_] (.n 0) (.n 1) [.L (.n 0) (.n 2),.L (.n 2) (.n 1)] [1,1,1] rfl q hi)⟩
  ·rw[if_neg q]
   refine⟨h.lt hkn,h.lt (by exact lB [] [_,_,_,_,_] (.n 0) (.n 1) [.B (.n 2) (.n 1),.L (.n 3) (.n 4),.L (.n 4) (.n 2),.L (.m 2 (.n 0)) (.a (.n 3) (.n 4))] [2,2,1,2,1] rfl hkn h1 h2 (nd0 2)),?_⟩
   by_cases c:key (p.getD k 0)<key (p.getD ((l+r) / 2) 0)
   ·simp only[ltK,decide_eq_true c,if_true]
    refine k_place h hkn hs f l ((l+r) / 2) (by exact lA [] [_,_,_] (.n 0) (.n 1) [.L (.n 0) (.n 2),.B (.a (.n 0) (.n 2)) (.a (.m 2 (.n 1)) (.c 2))] [2,1,1] rfl h1 (nd1 2 rfl)) (by exact lA [] [_,_,_,_] (.n 0) (.n 1) [.L (.n 2) (.n 3),.L (.n 3) (.n 1),.L (.m 2 (.n 0)) (.a (.n 2) (.n 3))] [2,1,2,1] rfl h1 h2 (nd0 2)) (by exact lA [] [_,_,_,_,_,_] (.n 0) (.n 1) [.L (.n 2) (.a (.n 1) (.c 1)),.B (.n 3) (.n 4),.E (.a (.n 0) (.n 3)) (.n 5),.E (.a (.n 2) (.n 3)) (.n 4),.L (.m 2 (.n 5)) (.a (.n 3) (.n 4))] [2,1,0,2,-1,1] rfl h3 (Nat.not_le.mp q) (nsE (a:=(l+r) / 2) (b:=l) (lA [] [_,_,_] (.n 0) (.n 1) [.L (.n 0) (.n 2),.B (.a (.n 0) (.n 2)) (.a (.m 2 (.n 1)) (.c 2))] [2,1,1] rfl h1 (nd1 2 rfl))) (nsE (a:=r) (b:=l) (h1)) (nd0 2)) a fun i hi1 hi2=>?_
    have:=hs ((l+r) / 2) i hi1 hi2
    unfold KK' at *;exact lb [_,_,_] [] (.v 0) (.v 1) [.b (.v 0) (.v 2),.l (.v 2) (.v 1)] [1,1,1] rfl c this
   ·simp only[ltK,decide_eq_false c,Bool.false_eq_true,if_false]
    refine k_place h hkn hs f ((l+r) / 2+1) r (by exact lA [] [_,_,_] (.a (.n 0) (.c 1)) (.n 1) [.B (.n 2) (.n 1),.L (.m 2 (.n 0)) (.a (.n 2) (.n 1))] [2,1,1] rfl (Nat.not_le.mp q) (nd0 2)) h2 (by exact lA [] [_,_,_,_,_,_] (.n 0) (.n 1) [.L (.n 2) (.n 3),.L (.n 4) (.a (.n 1) (.c 1)),.E (.a (.n 0) (.a (.n 5) (.c 1))) (.n 3),.E (.a (.n 4) (.n 2)) (.n 3),.B (.a (.n 2) (.n 3)) (.a (.m 2 (.n 5)) (.c 2))] [2,1,2,2,-2,1] rfl h1 h3 (nsE (a:=r) (b:=(l+r) / 2+1) (lA [] [_,_,_] (.a (.n 0) (.c 1)) (.n 1) [.B (.n 2) (.n 1),.L (.m 2 (.n 0)) (.a (.n 2) (.n 1))] [2,1,1] rfl (Nat.not_le.mp q) (nd0 2))) (nsE (a:=r) (b:=l) (h1)) (nd1 2 rfl)) (fun i hi=>?_) b
    have:=hs i ((l+r) / 2) (by exact lA [] [_,_] (.n 0) (.n 1) [.B (.n 0) (.a (.n 1) (.c 1))] [1,1] rfl hi) (by exact lB [] [_,_,_,_] (.n 0) (.n 1) [.L (.n 2) (.n 1),.B (.n 3) (.n 2),.L (.m 2 (.n 0)) (.a (.n 3) (.n 2))] [2,2,1,1] rfl h2 (Nat.not_le.mp q) (nd0 2))
    unfold KK' at *;exact la [_,_,_] [] (.v 0) (.v 1) [.l (.v 2) (.v 1),.l (.v 0) (.v 2)] [1,1,1] rfl (Int.not_lt.mp c) this
theorem bub_get {p:Array Nat}{k l i:Nat} (hk:k<p.size) (hl:l≤k):(bubble p k (k-l)).getD i 0=if i=l then p.getD k 0 else if l<i∧i≤k then p.getD (i-1) 0 else p.getD i 0:=by
 have e:=getElem?_bubble hk (k-l) (by exact lA [] [_,_] (.n 0) (.n 1) [.L (.n 0) (.n 1)] [1,1] rfl (ns0 (a:=k) (b:=l))) i
 rw[show k-(k-l)=l by exact lQ [] [_,_,_,_] (.n 0) (.n 1) [.E (.a (.n 0) (.n 2)) (.n 3),.E (.a (.n 2) (.n 1)) (.n 3)] [1,-1,1] [1,1,-1] rfl (nsE (a:=k) (b:=k-l) (lA [] [_,_] (.n 0) (.n 1) [.L (.n 0) (.n 1)] [1,1] rfl (ns0 (a:=k) (b:=l)))) (nsE (a:=k) (b:=l) (hl))] at e
 rw[Array.getD_eq_getD_getElem?,e]
 by_cases q:i=l
 ·rw[if_pos q,if_pos q,Array.getD_eq_getD_getElem?]
 ·rw[if_neg q,if_neg q]
  by_cases q2:l<i∧i≤k
  ·rw[if_pos q2,if_pos q2,Array.getD_eq_getD_getElem?]
  ·rw[if_neg q2,if_neg q2,Array.getD_eq_getD_getElem?]
theorem k_bin:∀(f:Nat) (p:Array Nat) (k:Nat),PermR p n→k+f=n→Srt key p k→kOk (ltK key) n (kas_bin f p k) (fun p'=>PermR p' n∧Srt key p' n)
 | 0,p,k,h,e,hs=>⟨h,by rw[←e];exact hs⟩
 | f+1,p,k,h,e,hs=>by
  refine kOk_bind (kOk_mono (fun l ⟨a1,a2,a3⟩=>?_) (k_place h (by exact lB [] [_,_,_] (.n 0) (.n 1) [.E (.a (.n 0) (.a (.n 2) (.c 1))) (.n 1)] [1,1] rfl e) hs k 0 k (Nat.zero_le _) (Nat.le_refl _) (by exact lA [] [_,_] (.n 0) (.n 1) [.L (.n 0) (.n 1)] [1,1] rfl (ns0 (a:=k) (b:=0))) (fun i hi=>absurd hi (Nat.not_lt_zero _)) fun i h1 h2=>by exact lb [_,_] [_,_] (.v 0) (.v 1) [.L (.n 0) (.n 1),.B (.n 1) (.n 0)] [0,1,1] rfl h1 h2))
  have hsz:=h.size
  refine k_bin f _ (k+1) ((bubble_perm p k (k-l)).toList.trans h) (by exact lQ [] [_,_,_] (.a (.a (.n 0) (.c 1)) (.n 1)) (.n 2) [.E (.a (.n 0) (.a (.n 1) (.c 1))) (.n 2)] [1,-1] [1,1] rfl e) fun i j hij hj=>?_
  unfold KK'
  rw[bub_get (by exact lB [] [_,_,_,_] (.n 0) (.n 1) [.E (.a (.n 0) (.a (.n 2) (.c 1))) (.n 3),.E (.n 1) (.n 3)] [1,1,-1] rfl e hsz) a1,bub_get (by exact lB [] [_,_,_,_] (.n 0) (.n 1) [.E (.a (.n 0) (.a (.n 2) (.c 1))) (.n 3),.E (.n 1) (.n 3)] [1,1,-1] rfl e hsz) a1]
  unfold KK' Srt at *
  by_cases i1:i=l
  ·rw[if_pos i1]
   by_cases j1:j=l
   ·rw[if_pos j1];exact Int.le_refl _
   ·have hlj:l<j:=Nat.lt_of_le_of_ne (i1▸hij) fun z=>j1 z.symm
    have hjk:j≤k:=Nat.le_of_lt_succ hj
    rw[if_neg j1,if_pos ⟨hlj,hjk⟩]
    exact Int.le_of_lt (a3 _ (Nat.le_sub_one_of_lt hlj) (Nat.lt_of_lt_of_le (Nat.sub_lt (Nat.lt_of_le_of_lt (Nat.zero_le _) hlj) Nat.one_pos) hjk))
  ·rw[if_neg i1]
   by_cases i2:l<i∧i≤k
   ·rw[if_pos i2]
    rw[if_neg (by exact lf [] [_,_,_] [.L (.n 0) (.n 1),.B (.n 2) (.n 0),.E (.n 1) (.n 2)] [1,1,1] rfl hij i2.1),if_pos (by exact⟨lB [] [_,_,_] (.n 0) (.n 1) [.L (.n 2) (.n 1),.B (.n 0) (.n 2)] [1,1,1] rfl hij i2.1,lA [] [_,_] (.n 0) (.n 1) [.B (.n 0) (.a (.n 1) (.c 1))] [1,1] rfl hj⟩)]
    exact hs _ _ (by exact lA [] [_,_,_,_] (.n 0) (.n 1) [.L (.n 2) (.n 3),.E (.a (.n 1) (.c 1)) (.n 3),.E (.a (.n 0) (.c 1)) (.n 2)] [1,1,-1,1] rfl hij (nsE (a:=j) (b:=1) (lA [] [_,_,_] (.c 1) (.n 0) [.L (.n 1) (.n 0),.B (.n 2) (.n 1)] [1,1,1] rfl hij i2.1)) (nsE (a:=i) (b:=1) (lA [] [_,_] (.c 1) (.n 0) [.B (.n 1) (.n 0)] [1,1] rfl i2.1))) (by exact lB [] [_,_,_] (.n 0) (.n 1) [.B (.n 2) (.a (.n 1) (.c 1)),.E (.a (.n 0) (.c 1)) (.n 2)] [1,1,1] rfl hj (nsE (a:=j) (b:=1) (lA [] [_,_,_] (.c 1) (.n 0) [.L (.n 1) (.n 0),.B (.n 2) (.n 1)] [1,1,1] rfl hij i2.1)))
   ·have hil:i<l:=Nat.lt_of_le_of_ne (Nat.not_lt.mp fun c=>i2 ⟨c,Nat.le_trans hij (Nat.le_of_lt_succ hj)⟩) i1
    rw[if_neg i2]
    by_cases j1:j=l
    ·rw[if_pos j1];exact a2 _ hil
    ·rw[if_neg j1]
     by_cases j2:l<j∧j≤k
     ·rw[if_pos j2];exact hs _ _ (Nat.le_sub_one_of_lt (Nat.lt_trans hil j2.1)) (by exact lB [] [_,_,_] (.n 0) (.n 1) [.B (.n 2) (.a (.n 1) (.c 1)),.E (.a (.n 0) (.c 1)) (.n 2)] [1,1,1] rfl hj (nsE (a:=j) (b:=1) (lA [] [_,_] (.c 1) (.n 0) [.B (.n 1) (.n 0)] [1,1] rfl j2.1)))
     ·rw[if_neg j2];exact hs _ _ hij (Nat.lt_of_lt_of_le (Nat.lt_of_le_of_ne (Nat.not_lt.mp fun c=>j2 ⟨c,Nat.le_of_lt_succ hj⟩) j1) a1)
theorem k_sort (hk:∀i j,i<n→j<n→key i=key j→i=j) (h1:1≤n):kOk (ltK key) n (kas_sort n) (fun p'=>PermR p' n∧Srt key p' n):=by
 have h:PermR (List.toArray (List.range n)) n:=by unfold PermR;simp
 refine kOk_bind (kOk_mono (fun r ⟨a1,a2,a3,a4⟩=>?_) (k_count hk h h1))
 by_cases q:r.1<n
 ·rw[if_pos q]
  have e:max r.1 1=r.1:=Nat.max_eq_left a1
  rw[e]
  exact k_bin _ _ _ a3 (by exact lQ [] [_,_,_] (.a (.n 0) (.n 1)) (.n 2) [.L (.n 2) (.a (.n 1) (.n 0)),.E (.a (.n 1) (.n 0)) (.n 2)] [1,0,-1] [1,0,1] rfl (ns1 (a:=n) (b:=r.fst)) (nsE (a:=n) (b:=r.fst) (a2))) a4
 ·rw[if_neg q]
  have e:r.1=n:=by exact lQ [] [_,_] (.n 0) (.n 1) [.L (.n 1) (.n 0),.L (.n 0) (.n 1)] [1,1,0] [1,0,1] rfl (Nat.not_lt.mp q) a2
  exact⟨a3,e▸a4⟩
end
end Mine
end

section
namespace Mine
open PySem PySem.W PySem.Calls PyProof.Rows PySem.SeqAt
section
variable {W:Wd}{c:Cx}{P:Addr→Obj→Prop}{ρ:Loc}{H:Hp}{s:Shared}{Q:V→Hp→Prop}{E:Value→Shared→Prop}

theorem reps_ints {h:Heap}{vs:List Value}{ns:List Int} (h0:IntsAre vs ns):Reps W h (ns.map V.int) vs:=by
 induction h0 with
 | nil=>exact .nil
 | cons n t _ ih=>exact .cons (.int _ _) ih

theorem Sim.newN {h':Heap}{tk:Nat}{D:Addr}{it:Array Value}{n:Nat}{m:Str→Option Value}{xs:List V} (S:Sim W c P ρ H s) (hm:s.heap.Ns c.env.locals m) (hv:∀i x v,c.vis i=true→c.names[i]?=some x→ρ[i]?=some (some v)→HasVar W c.env s.heap m (Str.ofString x) v)
  (F:Fr noH c.env.locals h' m) (N:News noH c.env.locals h' ((D,{ cls:=.type "list",data:=.seq it n }) :: allN s.heap c.env.locals)) (hD:∀q∈allN s.heap c.env.locals,q.1<D) (r:KeepR W s.heap h'→Reps W h' xs it.toList) (h:newL xs Q H) :
  PE W c P ρ Q (.ref D) { s with heap:=h',toks:=tk }:=by
 have hL:c.env.locals≠D:=fun q=>(N (D,_) (.head _)).2.1 q.symm
 have h0:s.heap.get? D=none:=by
  cases e:s.heap.get? D with
  | none=>rfl
  | some o=>exact absurd (hD (D,o) (mem_allN.mpr ⟨e,Ne.symm hL⟩)) (Nat.lt_irrefl _)
 have N':News noH c.env.locals h' (allN s.heap c.env.locals):=fun p hp=>N p (.tail _ hp)
 have S':=S.growL (tk:=tk) hm hv F N'
 obtain⟨f1,f2,f3,f4⟩:=S.fresh h0
 have hk:=allN_keeps N'
 have kr:KeepR W s.heap h':=by
  obtain⟨oL,esL,epL,eL,dL,kL,fL⟩:=hm
  have nt:∀b o,s.heap.get? b=some o→(∀es n,o.data≠.dict es n)→b≠c.env.locals:=fun b o e d q=>by rw[q,eL] at e;cases e;exact d _ _ dL
  exact⟨fun b o i n e k d ξ=>hk b o (nt b o e (by rw[d];exact nofun)) e,fun b o C ws e k d=>⟨o,ws,hk b o (nt b o e (by rw[d];exact nofun)) e,k,d⟩⟩
 exact⟨.ref D,_,S'.adopt f1 f2 f3 (rep_list h.1 (N _ (.head _)).1 (r kr)),.ref _,h.2 D f4⟩

theorem sort_list {D:Addr}{vs:List Value}{ns:List Int}{n:Nat}{Q:Value→Shared→Prop}{A:Around} (ho:s.heap.get? D=some (seqObj "list" vs.toArray n)) (hI:IntsAre vs ns) (h64:vs.length<64)
  (h:∀(out:Array Value) (ns':List Int),IntsAre out.toList ns'→ns'.Perm ns→ns'.Pairwise (·≤·)→Q .none { s with heap:=sortedHeap s.heap D vs out }):wpAny (model W.prog W.w) A (call (.builtin "list.sort") [.ref D]) Q E s :=
 wpAny_call_entry slot_list_sort ⟨_,ho,rfl⟩ entry_list_sort (list_sort_tree ho hI h64 fun out ns' a1 a2 a3=>⟨_,rfl,h out ns' a1 a2 a3⟩) (args_list_sort _)

theorem pair_at {h:Heap}{a b:Int}{u:Value} (r:Rep W h (pairV (a,b)) u):∃x o n t t',u=.ref x∧h.get? x=some o∧o.cls=.type "tuple" ∧ o.data=.seq #[.int a t,.int b t'] n:=by
 obtain⟨x,o,items,n,rfl,g,k,d,l,rs⟩:=Rep.tupR (vs:=[.int a,.int b]) r
 obtain⟨u1,u2,e,⟨t,rfl⟩,⟨t',rfl⟩⟩:=rs.two
 have:items=#[.int a t,.int b t']:=Array.toList_inj.mp e
 subst this
 exact⟨x,o,n,t,t',rfl,g,k,d⟩

theorem list_sort_short {a:Addr}{vs:List Value}{n:Nat}{P:PySem.Fin→Shared→Prop}{A:Around} (ho:s.heap.get? a=some (seqObj "list" vs.toArray n)) (h2:vs.length<2)
  (h:P (.done (.ret .none)) { s with heap:=sortedHeap s.heap a vs vs.toArray }):wpAny (model W.prog W.w) A (Builtin.«list.sort» ⟨[.ref a],[]⟩) P E s:=by
 rw[list_sort_plain]
 have ha:a<s.heap.objs.size:=Heap.lt_size ho
 have hsz:vs.toArray.size=vs.length:=by simp
 refine wpAny_bind (listItems_at ho rfl ?_)
 refine wpAny_bind (listUpdate_at ho rfl ?_ (by rw[hsz,sizeLine_eq];exact lA [] [_] (.n 0) (.c 16777216) [.B (.n 0) (.c 2)] [1,1] rfl h2) (Nat.zero_le _))
 obtain⟨e1,ho1⟩:∃e1,(s.heap.update a (Obj.mapSeq fun ξ=>#[])).get? a=some (seqObj "list" #[] e1):=⟨_,get?_update_seq ho (fun ξ=>#[])⟩
 refine wpAny_bind (seqEpoch_at ho1 rfl ?_)
 refine wpAny_bind (wpAny_newTuple ?_ (by show vs.length≤_;rw[sizeLine_eq];exact lA [] [_] (.n 0) (.c 16777216) [.B (.n 0) (.c 2)] [1,1] rfl h2))
 refine wpAny_bind (wpAny_newList ?_ (Nat.zero_le _))
 refine wpAny_holding ?_
 have ho6:(((s.heap.update a (Obj.mapSeq fun ξ=>#[])).push (seqObj "tuple" vs.toArray 0)).push (seqObj "list" #[] 0)).get? a=some (seqObj "list" #[] e1):=by
  rw[Heap.get?_push_ne _ _ _ (by rw[size_push',Heap.size_update];exact Nat.ne_of_lt (Nat.lt_succ_of_lt ha)),Heap.get?_push_ne _ _ _ (by rw[Heap.size_update];exact Nat.ne_of_lt ha)]
  exact ho1
 show wpAny (model W.prog W.w) A _ P E { s with heap:=((s.heap.update a (Obj.mapSeq fun ξ=>#[])).push (seqObj "tuple" vs.toArray 0)).push (seqObj "list" #[] 0) }
 dsimp only
 have h2':vs.toArray.size<2:=by rw[hsz];exact h2
 rw[if_pos h2',if_pos h2']
 refine wpAny_bind (wpAny_pure ?_)
 rw[StateT.run_pure]
 refine wpAny_bind (wpAny_pure ?_)
 dsimp only
 have ez:(vs.toArray.zip vs.toArray).map (·.2)=vs.toArray:=by
  apply Array.toList_inj.mp
  simp [List.map_snd_zip]
 refine wpAny_bind (seqEpoch_at ho6 rfl ?_)
 refine wpAny_bind (listUpdate_at ho6 rfl ?_ (Nat.zero_le _) (by show ((vs.toArray.zip vs.toArray).map (·.2)).size≤_;rw[ez,hsz,sizeLine_eq];exact lA [] [_] (.n 0) (.a (.c 16777216) (.c 1)) [.B (.n 0) (.c 2)] [1,1] rfl h2))
 simp only[bne_self_eq_false,Bool.false_eq_true,if_false]
 refine wpAny_pure ?_
 show P _ { s with heap:=(((s.heap.update a (Obj.mapSeq fun ξ=>#[])).push (seqObj "tuple" vs.toArray 0)).push (seqObj "list" #[] 0)).update a (Obj.mapSeq fun ξ=>(vs.toArray.zip vs.toArray).map (·.2)) }
 rw[ez];exact h

theorem sorted_short {l:Addr}{vs:List Value}{Q:Value→Shared→Prop}{A:Around} (hl:s.heap.IsList l vs.toArray) (h2:vs.length<2)
  (h:Q (.ref (s.heap.objs.size+1)) { s with heap:=sortedAll s.heap vs vs.toArray }):wpAny (model W.prog W.w) A (call (.builtin "sorted") [.ref l]) Q E s:=by
 refine Calls.call_function_entry kind_sorted plain_sorted entry_sorted (args_sorted1 _) ?_
 unfold Builtin.«sorted»
 refine wpAny_bind (m:=checkCount "sorted" 1 1 _) (wpAny_pure ?_)
 refine wpAny_bind (collect_list hl ?_ (by rw[sizeLine_eq];exact lA [] [_] (.n 0) (.c 16777216) [.B (.n 0) (.c 2)] [1,1] rfl h2))
 refine wpAny_bind (wpAny_newList ?_ (by rw[sizeLine_eq];exact lA [] [_] (.n 0) (.c 16777216) [.B (.n 0) (.c 2)] [1,1] rfl h2))
 have hsz:((s.heap.push (seqObj "list" #[] 0)).update s.heap.objs.size (Obj.mapSeq (·++vs.toArray))).objs.size=s.heap.objs.size+1:=by
  rw[Heap.size_update,size_push']
 have hoL:(((s.heap.push (seqObj "list" #[] 0)).update s.heap.objs.size (Obj.mapSeq (·++vs.toArray))).push (seqObj "list" vs.toArray 0)).get? (s.heap.objs.size+1)=some (seqObj "list" vs.toArray 0):=by
  rw[←hsz];exact Heap.get?_push_size _ rfl
 show wpAny _ _ _ _ _ { s with heap:=((s.heap.push (seqObj "list" #[] 0)).update s.heap.objs.size (Obj.mapSeq (·++vs.toArray))).push (seqObj "list" vs.toArray 0) }
 rw[hsz]
 refine wpAny_bind (wpAny_holding (wpAny_call_entry slot_list_sort ⟨_,hoL,rfl⟩ entry_list_sort (list_sort_short hoL h2 ⟨_,rfl,?_⟩) (args_list_sort _)))
 exact wpAny_pure ⟨_,rfl,h⟩

theorem katTups_of {h:Heap}{ps:List (Int×Int)}:∀ {us:List Value},Reps W h (ps.map pairV) us→∃fs,KatTups h us fs∧fs.length=ps.length∧(∀v∈fs,∃i t,v=Value.int i t):=by
 induction ps with
 | nil=>intro us r;cases r;exact⟨[],trivial,rfl,fun ξ h=>by cases h⟩
 | cons p ps ih =>
  intro us r
  obtain⟨u,vs,rfl,r,rs⟩:=r
  obtain⟨x,o,n,t,t',rfl,g,k,d⟩:=pair_at (a:=p.1) (b:=p.2) r
  obtain⟨fs,h1,h2,h3⟩:=ih rs
  refine⟨_ :: fs,KatTups.cons g k d (f:=.int p.1 t) rfl h1,congrArg (· + 1) h2,fun v hv=>?_⟩
  cases hv with
  | head=>exact⟨_,_,rfl⟩
  | tail _ hv=>exact h3 v hv

theorem pair_get {h:Heap}{ps:List (Int×Int)}{us:List Value} (r:Reps W h (ps.map pairV) us) {i:Nat} (hi:i<ps.length):∃x o n t t',us.getD i .none=.ref x∧h.get? x=some o∧o.cls=.type "tuple" ∧ o.data=.seq #[.int ps[i].1 t,.int ps[i].2 t'] n:=by
 obtain⟨u,e,r'⟩:=r.get (i:=i) (v:=pairV ps[i]) (by simp [hi])
 obtain⟨x,o,n,t,t',rfl,g,k,d⟩:=pair_at (a:=ps[i].1) (b:=ps[i].2) r'
 exact⟨x,o,n,t,t',by simp [e],g,k,d⟩

theorem reps_pick {h:Heap}{ps:List (Int×Int)}{us:List Value} (r:Reps W h (ps.map pairV) us):∀(l:List Nat),(∀i∈l,i<ps.length)→Reps W h ((l.map fun i=>ps.getD i (0,0)).map pairV) (l.map fun i=>us.getD i .none)
 | [],_=>.nil
 | i :: l,hl=>by
  have hi:=hl i (.head _)
  obtain⟨u,e,r'⟩:=r.get (i:=i) (v:=pairV ps[i]) (by simp [hi])
  refine .cons ?_ (reps_pick r l fun j hj=>hl j (.tail _ hj))
  simpa [e,hi] using r'

theorem sorted_pairs {ps:List (Int×Int)}{us:List Value}{a:Addr}{n:Nat} (S:Sim W c P ρ H s) (g:s.heap.get? a=some { cls:=.type "list",data:=.seq us.toArray n }) (r:Reps W s.heap (ps.map pairV) us) (h64:ps.length<64) (hn:(ps.map (·.1)).Nodup)
  (h:∀qs:List (Int×Int),qs.Perm ps→(qs.map (·.1)).Pairwise (·≤·)→newL (qs.map pairV) Q H):wpAny (model W.prog W.w) c.A (call (.builtin "sorted") [.ref a]) (PE W c P ρ Q) E s:=by
 obtain⟨m,hm,hv⟩:=S.loc
 have hl:us.length=ps.length:=by have:=r.length;simpa using this.symm
 have hlist:s.heap.IsList a us.toArray:=⟨_,g,rfl,n,rfl⟩
 by_cases h2:us.length<2
 ·refine sorted_short hlist h2 ?_
  obtain⟨e,he⟩:=sortedAll_at s.heap us us.toArray
  refine S.newN (tk:=s.toks) hm hv ((fr_of hm).kept fun ξ ξ=>sortedAll_old) ((news_of s.heap c.env.locals).kept_cons (fr_of hm) (fun ξ ξ=>sortedAll_old) (Nat.le_succ _) he) (fun q hq=>Nat.lt_succ_of_lt (Heap.lt_size (mem_allN.mp hq).1)) (fun k=>by simpa using r.mono k) (h ps (List.Perm.refl _) ?_)
  match ps,hl with
  | [],_=>simp
  | [_],_=>simp
  | _ :: _ :: _,q=>simp at q;omega
 ·refine kat_sorted (fr_of hm) (news_of s.heap c.env.locals) hlist (by exact (Nat.not_lt.mp h2)) (by exact lB [] [_,_] (.n 0) (.c 64) [.B (.n 1) (.c 64),.E (.n 0) (.n 1)] [1,1,1] rfl h64 hl) fun D e1 h' F' N' hD=>?_
  have N0:News noH c.env.locals h' (allN s.heap c.env.locals):=fun p hp=>N' p (.tail _ hp)
  have kr:KeepR W s.heap h':=by
   have hk:=allN_keeps N0
   obtain⟨oL,esL,epL,eL,dL,kL,fL⟩:=hm
   have nt:∀b o,s.heap.get? b=some o→(∀es n,o.data≠.dict es n)→b≠c.env.locals:=fun b o e d q=>by rw[q,eL] at e;cases e;exact d _ _ dL
   exact⟨fun b o i n e k d ξ=>hk b o (nt b o e (by rw[d];exact nofun)) e,fun b o C ws e k d=>⟨o,ws,hk b o (nt b o e (by rw[d];exact nofun)) e,k,d⟩⟩
  have r':=r.mono kr
  obtain⟨fs,t1,t2,t3⟩:=katTups_of r'
  refine kat_kind (T:=.type "int") (s:={ s with heap:=h' }) t1 (by exact lB [] [_,_,_] (.c 0) (.n 0) [.E (.n 1) (.n 2),.L (.c 2) (.n 1),.E (.n 0) (.n 2)] [1,1,1,-1] rfl hl (Nat.not_lt.mp h2) t2) (fun v hv=>?_) rfl ?_
  ·obtain⟨i,t,rfl⟩:=t3 v hv
   exact Looks.of_pure rfl
  rw[show us.length=ps.length from hl]
  have hks:=k_sort (key:=fun i=>(ps.getD i (0,0)).1) (n:=ps.length) (fun i j hi hj e=>(List.getElem_inj (i:=i) (j:=j) (h₀:=by simpa using hi) (h₁:=by simpa using hj) hn).mp (by simpa [hi,hj] using e)) (by exact lA [] [_,_] (.c 1) (.n 0) [.E (.n 1) (.n 0),.L (.c 2) (.n 1)] [1,1,1] rfl hl (Nat.not_lt.mp h2))
  refine kOk_wp (lt:=ltK fun i=>(ps.getD i (0,0)).1) (n:=ps.length) (fun i j C hi hj hc=>?_) (kOk_mono (fun p ⟨p1,p2⟩=>?_) hks)
  ·unfold kas_ask
   obtain⟨x,ox,nx,t,t',e1',g1,k1,d1⟩:=pair_get r' hi
   obtain⟨y,oy,ny,u,u',e2',g2,k2,d2⟩:=pair_get r' hj
   rw[e1',e2']
   refine kat_lt (s:={ s with heap:=h' }) g1 d1 g2 d2 ?_
   have hc':C (decide (ps[i].1<ps[j].1)) { s with heap:=h' }:=by simpa [ltK,hi,hj] using hc
   refine kat_cons (EqAt.int_int _ _ _ _ W.prog W.w _ _ ?_)
   by_cases q:ps[i].1=ps[j].1
   ·have ij:i=j:=by
     have:=(List.getElem_inj (i:=i) (j:=j) (h₀:=by simpa using hi) (h₁:=by simpa using hj) hn).mp (by simpa using q)
     exact this
    subst ij
    rw[e1'] at e2';cases e2'
    rw[g1] at g2;cases g2
    rw[d1] at d2;cases d2
    rw[beq_self_eq_true]
    refine kat_yes (kat_cons (EqAt.int_int _ _ _ _ W.prog W.w _ _ ?_))
    rw[beq_self_eq_true]
    refine kat_yes (kat_nil ?_)
    simpa using hc'
   ·rw[beq_eq_false_iff_ne.mpr q]
    refine kat_no ?_
    exact oneLt_int hc'
  ·have hlt:∀i∈p.toList,i<ps.length:=fun i hi=>by simpa using p1.mem_iff.mp hi
   have hperm:(p.toList.map fun i=>ps.getD i (0,0)).Perm ps:=by
    have:=p1.map (fun i=>ps.getD i (0,0))
    refine this.trans (List.Perm.of_eq ?_)
    apply List.ext_getElem
    ·simp
    ·intro k h1 h2;simp [h2]
   have hsort:((p.toList.map fun i=>ps.getD i (0,0)).map (·.1)).Pairwise (·≤·):=by
    rw[List.map_map,List.pairwise_iff_getElem]
    intro i j hi hj hij
    have hs:=p1.size
    simp only[List.length_map,Array.length_toList] at hi hj
    have:=p2 i j (by exact lA [] [_,_] (.n 0) (.n 1) [.B (.n 0) (.n 1)] [1,1] rfl hij) (by exact lB [] [_,_,_] (.n 0) (.n 1) [.E (.n 2) (.n 1),.B (.n 0) (.n 2)] [1,1,1] rfl hs hj)
    unfold KK' at this
    simpa [Array.getD,hi,hj] using this
   refine⟨_,_,F',N',UpdF.head (fun q hq=>Nat.ne_of_lt (hD q hq)),fun h'' c' F'' N''=>?_⟩
   refine S.newN (tk:=s.toks) hm hv F'' N'' hD (fun k=>?_) (h _ hperm hsort)
   simpa using reps_pick (r.mono k) p.toList hlt

theorem RepKV.keys {h:Heap}{kvs:List (Int×V)}:∀ {ys:List (Int×Value)},RepKV W h kvs ys→kvs.map (·.1)=ys.map (·.1):=by
 induction kvs with
 | nil=>intro ys r;cases r;rfl
 | cons p kvs ih =>
  intro ys r
  obtain⟨u,vs,rfl,a,b⟩:=r
  rw[List.map_cons,List.map_cons,a.1,ih b]
theorem ints_of_keys:∀ {vs:List Value}{ys:List (Int×Value)},vs.length=ys.length→(∀(j:Nat) (v:Value),vs[j]?=some v→∃k x,ys[j]?=some (k,x)∧(intKind W.prog W.w).is k v=true)→IntsAre vs (ys.map (·.1))
 | [],[],_,_=>.nil
 | [],_ :: _,h,_=>by simp at h
 | _ :: _,[],h,_=>by simp at h
 | v :: vs,y :: ys,h,k=>by
  obtain⟨k',x,e1,e2⟩:=k 0 v rfl
  cases e1
  obtain⟨t,rfl⟩:=Value.isInt_shape (show Value.isInt k' v=true from e2)
  exact .cons k' t (ints_of_keys (by simpa using h) fun j w e=>by simpa using k (j+1) w (by simpa using e))

theorem sound_sorted {xs:List V}{us:List Value} (S:Sim W c P ρ H s) (hh:c.A.handled=none) (hb:(W.base.get? cStatics).isSome=true) (r:Reps W s.heap xs us) (h:wbc .sorted xs Q H) :
  wpAny (model W.prog W.w) c.A (call (bfOf .sorted) us) (PE W c P ρ Q) E s:=by
 obtain⟨x,rfl,k⟩:=one1_inv h
 obtain⟨u,rfl,rx⟩:=r.one
 obtain⟨a,rfl,k⟩:=ref1_inv k
 cases rx
 obtain⟨m,hm,hv⟩:=S.loc
 rcases ob1_inv k with ⟨ys,ea,hlen,h⟩ | ⟨kvs,ea,hlen,h⟩
 ·obtain⟨hz,it,n,g,ri⟩:=S.heap _ _ ea
  rcases h with ⟨is,e,h⟩ | ⟨ps,e,hn,h⟩
  ·have hi:=intsAre_of ri e
   have hl:=ri.length
   refine kso_sorted (fr_of hm) (news_of s.heap c.env.locals) (vs:=it.toList) ⟨_,g,rfl,n,by simp⟩ hi ?_ fun D vs' ns' c' h' F' N' hD i' e' p' o' ξ=>?_
   ·rw[←IntsAre.length hi,←hl];exact hlen
   ·exact S.newN (tk:=s.toks) hm hv F' N' hD (fun ξ=>by simpa using reps_ints i') (h ns' p' o')
  ·subst e
   exact sorted_pairs (us:=it.toList) (n:=n) (E:=E) S (by simpa using g) ri (by simpa using hlen) hn h
 ·obtain⟨⟨hz,_⟩,ys,hD,rk⟩:=S.heap _ _ ea
  obtain⟨ep,hAt⟩:=hD.dictAt
  have lo:(a == sysModules)=false:=not_sysModules S ea hb
  have hkl:ys.length=kvs.length:=rk.length
  refine kdu_sorted (kdl_dict (kvs:=ys) (ep:=ep) (knd:=intKind W.prog W.w) lo) hh (fr_of hm) (news_of s.heap c.env.locals) hAt (by rw[sizeLine_eq];exact lA [] [_,_] (.n 0) (.c 16777216) [.B (.n 1) (.c 64),.E (.n 0) (.n 1)] [1,1,1] rfl hlen hkl) fun D h' tk vs F' N' hDD e1 e2=>?_
  have hI:IntsAre vs (ys.map (·.1)):=ints_of_keys e1 e2
  refine sort_list (s:={ s with heap:=h',toks:=tk }) (vs:=vs) (n:=0) (N' _ (.head _)).1 hI (by exact lB [] [_,_,_] (.n 0) (.c 64) [.B (.n 1) (.c 64),.E (.n 2) (.n 1),.E (.n 0) (.n 2)] [1,1,1,1] rfl hlen hkl e1) fun out ns' a1 a2 a3=>?_
  have hD0:=(N' _ (.head _))
  have hLD:c.env.locals≠D:=fun q=>hD0.2.1 q.symm
  obtain⟨ec,he⟩:=sortedHeap_at (out:=out) (vs:=vs) (n:=0) hD0.1
  have keep:∀b o,b≠D→h'.get? b=some o→(sortedHeap h' D vs out).get? b=some o:=fun b o q e=>(sortedHeap_old q (Heap.lt_size e)).trans e
  have hkm:=rk.keys
  show PE W c P ρ Q (.ref D) { s with heap:=sortedHeap h' D vs out,toks:=tk }
  refine S.newN (tk:=tk) (it:=out) (n:=ec) hm hv (fr_of (F'.ns.at' fun o e=>keep _ o hLD e)) (fun p hp=>?_) hDD (fun ξ=>reps_ints a1) (h ns' (hkm▸a2) a3)
  cases hp with
  | head=>exact⟨he,hD0.2⟩
  | tail _ hp=>exact⟨keep _ _ (Nat.ne_of_lt (hDD _ hp)) (N' _ (.tail _ hp)).1,(N' _ (.tail _ hp)).2⟩

theorem se_bcS {T:Tx W}{K:Kc}{hd:Bool}{G:Gl}{f es xs q p} (hx:xs.isEmpty=false) (C:CxOk T c K hd) (g:K.gl (Str.ofString (bfName f))=true) (ms:NSs xs) (h:SEs W c G hd es xs) :
  SE W c G hd (.bc f es) (.Call (.Name (Str.ofString (bfName f)) q) xs [] p):=by
 obtain _ | ⟨x,xs⟩:=xs
 ·cases hx
 by_cases hf:f=.sorted
 ·subst hf
  intro P ρ H s Q X S w
  replace w:=qE_bc.mp w
  obtain⟨rfl,w⟩:=w
  refine wpAny_Call_Name_kw (sound_builtin C S g (T.bfs .sorted) ?_)
  exact callWith_builtin (ms _ _) (evalArgs_sp (ms _ _) (wpAny_mono (h P ρ H s _ X p S w) (fun us s₁ ⟨vs,H₁,S₁,r,q⟩=>sound_sorted S₁ (C.hand rfl) T.mods r q) fun ξ ξ x=>x))
 ·exact se_bc hf C g ms h
end
end Mine
end

section
namespace Mine
open PySem PySem.W PySem.Calls PyProof.Rows PySem.SeqAt
section
variable {W:Wd}{T:Tx W}{c:Cx}{K:Kc}{hd:Bool}{P:Addr→Obj→Prop}{ρ:Loc}{H:Hp}{s:Shared}{E:Value→Shared→Prop}

theorem Sim.cell {ρ':Loc}{h':Heap}{tk:Nat}{d:Addr}{u₀:Option Value} (S:Sim W c P ρ H s) (ho:s.heap.IsCell d u₀) (hown:d∈c.own) (hnf:d∉c.frs) {u:Option Value} (hc:h'.IsCell d u) (hk:∀b o,b≠d→s.heap.get? b=some o→h'.get? b=some o)
  (hv:KeepR W s.heap h'→∀m,(∀i x v,c.vis i=true→c.names[i]?=some x→ρ[i]?=some (some v)→HasVar W c.env s.heap m (Str.ofString x) v)→∀i x v,c.vis i=true→c.names[i]?=some x→ρ'[i]?=some (some v)→HasVar W c.env h' m (Str.ofString x) v) :
  Sim W c P ρ' H { s with heap:=h',toks:=tk }:=by
 obtain⟨o₀,e₀,d₀⟩:=ho
 obtain⟨o₁,e₁,d₁⟩:=hc
 have nt:∀b o,s.heap.get? b=some o→(∀v,o.data≠.cell v)→b≠d:=fun b o e q z=>by rw[z,e₀] at e;cases e;exact q _ d₀
 have kr:KeepR W s.heap h':=⟨fun b o i n e k q ξ=>hk b o (nt b o e (by rw[q];exact nofun)) e,fun b o C ws e k q=>⟨o,ws,hk b o (nt b o e (by rw[q];exact nofun)) e,k,q⟩⟩
 have nH:∀a o,H a=some o→a≠d:=fun a o e q=>S.apart a o e (q▸Cx.mem_all_own hown)
 refine⟨?_,fun b o e=>hk b o (fun q=>by rw[q,S.ownNew _ hown] at e;cases e) (S.base b o e),funFrames_at S.frames fun b hb o e q=>⟨o,hk b o (fun z=>hnf (z▸hb)) e,q⟩,fun p hp=>?_,?_,S.locOwn,S.ownNew,S.ownOut,
  fun a o e=>(S.heap a o e).at kr fun ob h=>hk a ob (nH a o e) h,S.new,S.apart,fun b o p=>hk b o (fun q=>(S.protF b o p).1 (q▸hown)) (S.prot b o p),S.protH,S.protF,fun x a e=>?_,fun b hb=>?_,fun b hb=>(S.scr b hb).at fun o e _ ⟨i,n,q⟩=>hk b o (nt b o e (by rw[q];exact nofun)) e⟩
 ·obtain⟨h,tk',rfl⟩:=S.rest;exact⟨h',tk,rfl⟩
 ·obtain⟨o,es,ep,e,r⟩:=S.outer p hp
  exact⟨o,es,ep,hk _ _ (S.ownOut _ hown p hp) e,r⟩
 ·obtain⟨m,⟨o,es,ep,e,dd,r⟩,hv'⟩:=S.loc
  exact⟨m,⟨o,es,ep,hk _ _ (nt _ _ e (by rw[dd];exact nofun)) e,dd,r⟩,hv kr m hv'⟩
 ·by_cases q:a=d
  ·subst q;exact⟨u,o₁,e₁,d₁⟩
  ·obtain⟨u',o,e1,e2⟩:=S.cells x a e;exact⟨u',o,hk a o q e1,e2⟩
 ·by_cases q:b=d
  ·subst q;exact⟨o₁,e₁,.inr ⟨_,d₁⟩⟩
  ·obtain⟨o,e,z⟩:=S.ownD b hb;exact⟨o,hk b o q e,z⟩

theorem sound_store {i:Nat}{x:Str}{v:V}{u:Value}{Q:Unit→Shared→Prop} (C:CxOk T c K hd) (S:Sim W c P ρ H s) (g:K.tgt i x=true) (r:Rep W s.heap v u)
  (h:∀s',Sim W c P (ρ.set i (some v)) H s'→KeepR W s.heap s'.heap→Q () s'):wpAny (model W.prog W.w) c.A (storeName c.env x u) Q E s:=by
 have hk:c.env.kindOf x=some .local∨(c.env.kindOf x=some .cell∧K.inC=false):=by
  have:=Kc.tgt_kind g
  unfold Env.kindOf;rw[C.sc];exact this
 obtain⟨h1,y,h2,rfl⟩:=Kc.tgt_spec g
 have look:∀(j:Nat) (w:V),(ρ.set i (some v))[j]?=some (some w)→(j=i∧w=v)∨(j≠i∧ρ[j]?=some (some w)):=fun j w e=>by
  by_cases q:j=i
  ·subst q
   rw[List.getElem?_set] at e
   simp only[if_true] at e
   split at e
   ·cases e;exact .inl ⟨rfl,rfl⟩
   ·cases e
  ·rw[List.getElem?_set_ne (Ne.symm q)] at e;exact .inr ⟨q,e⟩
 rcases hk with hl | ⟨hl,hin⟩
 ·obtain⟨m,hn,hv⟩:=S.loc
  refine wpAny_storeName_local hl hn (fun h' hn' hs'=>?_) (by rw[C.sc,C.kind];rfl)
  have hkeep:∀b o,b≠c.env.locals→s.heap.get? b=some o→h'.get? b=some o:=fun b o q e=>hs'.extBut b o q e
  have kr:KeepR W s.heap h':=by
   obtain⟨oL,esL,epL,eL,dL,kL,fL⟩:=id hn
   have nt:∀b o,s.heap.get? b=some o→(∀es n,o.data≠.dict es n)→b≠c.env.locals:=fun b o e d q=>by rw[q,eL] at e;cases e;exact d _ _ dL
   exact⟨fun b o i n e k d ξ=>hkeep b o (nt b o e (by rw[d];exact nofun)) e,fun b o C ws e k d=>⟨o,ws,hkeep b o (nt b o e (by rw[d];exact nofun)) e,k,d⟩⟩
  refine h _ (S.names (tk:=s.toks+1) hn hn' hkeep fun kr' kc j z w hj1 hj2 hj3=>?_) kr
  rcases look j w hj3 with ⟨rfl,rfl⟩ | ⟨q,e⟩
  ·rw[C.names,h2] at hj2;cases hj2
   exact .loc hl u (by simp) (r.mono kr)
  ·have ne:Str.ofString z≠Str.ofString y:=fun q'=>q (C.inj j i z y hj2 (by rw[C.names];exact h2) q')
   rcases hv j z w hj1 hj2 e with ⟨k,u',e',r'⟩ | ⟨k,cl,o,u',e',ho,hd',r'⟩
   ·exact .loc k u' (by simp [ne,e']) (r'.mono kr)
   ·exact .cel k cl o u' e' (kc cl o _ ho hd') hd' (r'.mono kr)
 ·obtain⟨a,ha⟩:=C.cellKind _ hl
  have hown:=C.cellOwn _ _ ha hin
  have hnf:=C.cellFr _ _ ha
  obtain⟨u₀,hcell⟩:=S.cells _ _ ha
  refine wpAny_storeName_cell C.kindF hl ha hcell fun h' hc' hs'=>?_
  obtain⟨o₀,e₀,d₀⟩:=id hcell
  have hkeep:∀b o,b≠a→s.heap.get? b=some o→h'.get? b=some o:=fun b o q e=>hs'.extBut b o q e
  have nt:∀b o,s.heap.get? b=some o→(∀v,o.data≠.cell v)→b≠a:=fun b o e q z=>by rw[z,e₀] at e;cases e;exact q _ d₀
  have kr:KeepR W s.heap h':=⟨fun b o i n e k q ξ=>hkeep b o (nt b o e (by rw[q];exact nofun)) e,fun b o C ws e k q=>⟨o,ws,hkeep b o (nt b o e (by rw[q];exact nofun)) e,k,q⟩⟩
  refine h _ (S.cell (tk:=s.toks) hcell hown hnf hc' hkeep fun kr' m hv j z w hj1 hj2 hj3=>?_) kr
  rcases look j w hj3 with ⟨rfl,rfl⟩ | ⟨q,e⟩
  ·rw[C.names,h2] at hj2;cases hj2
   obtain⟨o₁,e₁,d₁⟩:=hc'
   exact .cel hl a o₁ u ha e₁ d₁ (r.mono kr)
  ·have ne:Str.ofString z≠Str.ofString y:=fun q'=>q (C.inj j i z y hj2 (by rw[C.names];exact h2) q')
   rcases hv j z w hj1 hj2 e with ⟨k,u',e',r'⟩ | ⟨k,cl,o,u',e',ho,hd',r'⟩
   ·exact .loc k u' e' (r'.mono kr)
   ·refine .cel k cl o u' e' (hkeep cl o ?_ ho) hd' (r'.mono kr)
    rintro rfl
    exact ne (C.cellInj _ _ _ e' ha)
end
end Mine
end

section
namespace Mine
open PySem PySem.W PySem.Calls PyProof.Rows PySem.SeqAt
section
variable {W:Wd}{T:Tx W}{c:Cx}{K:Kc}{hd:Bool}{P:Addr→Obj→Prop}{ρ:Loc}{H:Hp}{s:Shared}{E:Value→Shared→Prop}

theorem Sim.exc {h':Heap}{tk:Nat}{X:Addr→Prop} (S:Sim W c P ρ H s)
  (hX:∀b,X b→W.base.get? b=none∧(∀o,¬P b o)∧(∀o,s.heap.get? b=some o→∃vs,o.data=.fields vs∧∃o' vs',h'.get? b=some o'∧o'.cls=o.cls∧o'.data=.fields vs'))
  (k1:∀b o,¬X b→b∉c.frs→s.heap.get? b=some o→h'.get? b=some o)
  (k2:∀b o,b∈c.frs→s.heap.get? b=some o→∃sl,h'.get? b=some { o with slots:=sl }):Sim W c P ρ H { s with heap:=h',toks:=tk }:=by
 have nX:∀b o,s.heap.get? b=some o→(∀vs,o.data≠.fields vs)→¬X b:=fun b o e d x=>by
  obtain⟨vs,d',_⟩:=(hX b x).2.2 o e
  exact d vs d'
 have nF:∀b o,s.heap.get? b=some o→((∃i n,o.data=.seq i n)∨(∃vs,o.data=.fields vs))→b∉c.frs:=fun b o e d m=>by
  obtain⟨o',e',q⟩:=S.ownD b (.inr m)
  rw[e] at e';cases e'
  rcases d with ⟨_,_,d⟩ | ⟨_,d⟩ <;> rcases q with ⟨_,_,q⟩ | ⟨_,q⟩ <;> rw[d] at q <;> cases q
 have kr:KeepR W s.heap h':=⟨fun b o i n e k d ξ=>k1 b o (nX b o e (by rw[d];exact nofun)) (nF b o e (.inl ⟨_,_,d⟩)) e,fun b o C ws e k d=>by
  by_cases x:X b
  ·obtain⟨vs,_,o',vs',e',c',d'⟩:=(hX b x).2.2 o e
   exact⟨o',vs',e',c'.trans k,d'⟩
  ·exact⟨o,ws,k1 b o x (nF b o e (.inr ⟨_,d⟩)) e,k,d⟩⟩
 have any:∀b o,s.heap.get? b=some o→(∀vs,o.data≠.fields vs)→∃sl,h'.get? b=some { o with slots:=sl }:=fun b o e d=>by
  by_cases m:b∈c.frs
  ·exact k2 b o m e
  ·exact⟨o.slots,k1 b o (nX b o e d) m e⟩
 have nsk:∀a m,s.heap.Ns a m→h'.Ns a m:=fun a m ⟨o,es,ep,e,d,r⟩=>by
  obtain⟨sl,e'⟩:=any a o e (by rw[d];exact nofun)
  exact⟨_,es,ep,e',d,r⟩
 have hb:∀b o,s.heap.get? b=some o→b∈c.frs→W.base.get? b=none:=fun b o e m=>(S.frames.mem m).1
 refine⟨?_,fun b o e=>k1 b o (fun x=>by rw[(hX b x).1] at e;cases e) (fun m=>by rw[(S.frames.mem m).1] at e;cases e) (S.base b o e),funFrames_at S.frames fun b hb o e d=>?_,fun p hp=>nsk _ _ (S.outer p hp),?_,S.locOwn,S.ownNew,S.ownOut,
  fun a o e=>?_,S.new,S.apart,fun b o p=>k1 b o (fun x=>(hX b x).2.1 o p) (S.protF b o p).2 (S.prot b o p),S.protH,S.protF,fun x a e=>?_,fun b hb=>?_,fun b hb=>(S.scr b hb).at fun o e _ ⟨i,n,d⟩=>k1 b o (nX b o e (by rw[d];exact nofun)) (nF b o e (.inl ⟨_,_,d⟩)) e⟩
 ·obtain⟨h,tk',rfl⟩:=S.rest;exact⟨h',tk,rfl⟩
 ·obtain⟨sl,e'⟩:=k2 b o hb e;exact⟨_,e',d⟩
 ·obtain⟨m,hn,hv⟩:=S.loc
  refine⟨m,nsk _ _ hn,fun i x v h1 h2 h3=>(hv i x v h1 h2 h3).mono kr fun cl o u ξ ho hq=>?_⟩
  obtain⟨sl,e'⟩:=any cl o ho (by rw[hq];exact nofun)
  exact⟨_,e',rfl⟩
 ·have ha:∀ob,s.heap.get? a=some ob→h'.get? a=some ob:=fun ob h=>k1 a ob (fun x=>by
   obtain⟨vs,d,_⟩:=(hX a x).2.2 ob h
   cases o with
   | list vs'=>obtain⟨_,it,n,g,_⟩:=S.heap _ _ e;rw[h] at g;cases g;cases d
   | dict kvs=>obtain⟨_,ys,⟨o',es,ep,g,_,d',_⟩,_⟩:=S.heap _ _ e;rw[h] at g;cases g;rw[d] at d';cases d') (fun m=>S.apart a o e (Cx.mem_all_frs m)) h
  exact (S.heap a o e).at kr ha
 ·obtain⟨u,o,e1,e2⟩:=S.cells x a e
  obtain⟨sl,e'⟩:=any a o e1 (by rw[e2];exact nofun)
  exact⟨u,_,e',e2⟩
 ·obtain⟨o,e,q⟩:=S.ownD b hb
  obtain⟨sl,e'⟩:=any b o e (by rcases q with ⟨_,_,q⟩ | ⟨_,q⟩ <;> rw[q] <;> exact nofun)
  exact⟨_,e',q⟩

inductive FlyAt (W:Wd) (P:Addr→Obj→Prop) (fl:Value) (h:Heap) (e:Value) (k:String):Prop
 | mk (a C:Addr) (oe:Obj) (vs:Array Value) (a0:Value) (T:Addr) (oT:Obj) (ts:Array Value) (h1:e=.ref a) (h2:W.cls k=some C) (h3:h.get? a=some oe) (h4:oe.cls=.ref C) (h5:oe.data=.fields vs) (h6:vs[0]?=some a0) (h7:W.base.get? a=none) (h8:∀o,¬P a o)
   (t1:vs[1]?=some (.ref T)) (t2:T≠a) (t3:W.base.get? T=none) (t4:∀o,¬P T o) (t5:h.get? T=some oT) (t6:oT.data=.fields ts) (t7:ts[3]?=some fl)
theorem FlyAt.fly {f:Option Addr}{h:Heap}{e:Value}{k:String} (x:FlyAt W P .none h e k):Fly W P f h e k:=by
 obtain⟨a,C,oe,vs,a0,T,oT,ts,h1,h2,h3,h4,h5,h6,h7,h8,t1,t2,t3,t4,t5,t6,t7⟩:=x
 exact⟨a,C,oe,vs,a0,h1,h2,h3,h4,h5,h6,h7,h8,.inr ⟨T,oT,ts,_,t1,t2,t3,t4,t5,t6,t7,.inl rfl⟩⟩
theorem FlyAt.flyL {L:Addr}{h:Heap}{e:Value}{k:String} (x:FlyAt W P (rawInt L) h e k):Fly W P (some L) h e k:=by
 obtain⟨a,C,oe,vs,a0,T,oT,ts,h1,h2,h3,h4,h5,h6,h7,h8,t1,t2,t3,t4,t5,t6,t7⟩:=x
 exact⟨a,C,oe,vs,a0,h1,h2,h3,h4,h5,h6,h7,h8,.inr ⟨T,oT,ts,_,t1,t2,t3,t4,t5,t6,t7,.inr ⟨L,rfl,rfl⟩⟩⟩

theorem setFlight_to {fl:Value}{f:Option Addr}{e:Value}{k:String}{Q:Unit→Shared→Prop}{A:Around} (S:Sim W c P ρ H s) (F:FlyAt W P fl s.heap e k)
  (h:∀h',Sim W c P ρ H { s with heap:=h' }→FlyAt W P (f.elim .none fun f=>rawInt f) h' e k→Q () { s with heap:=h' }):wpAny (model W.prog W.w) A (setFlight e f) Q E s:=by
 obtain⟨a,C,oe,vs,a0,T,oT,ts,rfl,h2,h3,h4,h5,h6,h7,h8,t1,t2,t3,t4,t5,t6,t7⟩:=F
 have hsz:3<ts.size:=(Array.getElem?_eq_some_iff.mp t7).1
 unfold setFlight
 refine wpAny_bind (wpAny_field h3 h5 t1 ?_)
 rw[if_pos (show (Value.ref T != Value.none)=true from by simp)]
 refine wpAny_setField t5 t6 hsz ?_
 have eT:=Heap.get?_update_self (Obj.mapFields (·.setIfInBounds 3 (f.elim Value.none fun f=>rawInt f))) t5 (Obj.isFreed_of_fields (Obj.data_mapFields t6 _))
 have other:∀b,b≠T→(s.heap.update T (Obj.mapFields (·.setIfInBounds 3 (f.elim Value.none fun f=>rawInt f)))).get? b=s.heap.get? b:=fun b hb=>Heap.get?_update_other _ _ (Ne.symm hb)
 refine h _ (S.exc (tk:=s.toks) (X:=fun b=>b=T) (fun b hb=>?_) (fun b o x ξ e=>(other b x).trans e) fun b o m e=>⟨o.slots,(other b ?_).trans e⟩) ?_
 ·subst hb
  refine⟨t3,t4,fun o e=>?_⟩
  rw[t5] at e;cases e
  exact⟨ts,t6,_,_,eT,Obj.cls_mapFields _ _,Obj.data_mapFields t6 _⟩
 ·rintro rfl
  obtain⟨_,o',e',d⟩:=S.frames.mem m
  rw[t5] at e';cases e';exact d _ t6
 ·exact⟨a,C,oe,vs,a0,T,_,_,rfl,h2,(other a (Ne.symm t2)).trans h3,h4,h5,h6,h7,h8,t1,t2,t3,t4,eT,Obj.data_mapFields t6 _,by simp [hsz]⟩

theorem new_entry {a C L:Addr}{oe:Obj}{vs:Array Value}{a0 head:Value}{hadNext:Bool}{k:String}{env:Env}{outer:List Env}{Q:Unit→Shared→Prop}{A:Around} (S:Sim W c P ρ H s) (hfr:A.frames=some (env :: outer)) (he:c.fenvs=env :: outer) (hf:env.frame=some L)
  (h2:W.cls k=some C) (h3:s.heap.get? a=some oe) (h4:oe.cls=.ref C) (h5:oe.data=.fields vs) (h6:vs[0]?=some a0) (h7:W.base.get? a=none) (h8:∀o,¬P a o) (hsz:1<vs.size)
  (h:∀h',Sim W c P ρ H { s with heap:=h' }→FlyAt W P (rawInt L) h' (.ref a) k→Q () { s with heap:=h' }) :
  wpAny (model W.prog W.w) A (do let a' ←frameOf env;let pl ←entryPlaceOf L hadNext;let b ←EntryCells.newEntry head a' .none (rawInt L) .none pl;setField (.ref a) 1 b) Q E s:=by
 have frs:∀b,b∈c.frs ↔ b∈(env :: outer).filterMap (·.frame):=fun b=>by unfold Cx.frs;rw[he]
 have hl:s.heap.FunFrames (hideAll s.heap ([a]++c.frs)) (env :: outer):=by
  refine funFrames_hide (by rw[←he];exact S.frames) fun env' hm b hb=>?_
  simp only[List.mem_append]
  right
  rw[frs]
  exact List.mem_filterMap.mpr ⟨env',hm,hb⟩
 refine wpAny_entryW (base:=hideAll s.heap ([a]++c.frs)) hfr hl hf h3 (fun b o e=>of_hideAll _ e) (hideAll_none _ (by simp)) h5 hsz h6 fun h' hx=>?_
 obtain⟨x1,x2,⟨oe',vs',T',oT',ts',y1,⟨y2,y3⟩,y4,y5,y6,y7,y8,y9,y10⟩,x4⟩:=hx
 have keep:∀b o,b≠a→b∉c.frs→s.heap.get? b=some o→h'.get? b=some o:=fun b o i j e=>x1 b o (hideAll_get _ e (by simp [i,j]))
 have hT0:s.heap.get? T'=none:=by
  cases q:s.heap.get? T' with
  | none=>rfl
  | some o =>
   by_cases j:T'∈c.frs
   ·obtain⟨_,o',e',d⟩:=S.frames.mem j
    obtain⟨sl,z⟩:=x4 _ _ e' d
    rw[y8] at z;cases z;exact absurd y9 (d _)
   ·rw[hideAll_get _ q (by simp [y7,j])] at y6;cases y6
 obtain⟨f1,_,f3,_⟩:=S.fresh hT0
 refine h h' (S.exc (tk:=s.toks) (X:=fun b=>b=a) (fun b hb=>?_) (fun b o i j e=>keep b o i j e) fun b o m e=>?_) ⟨a,C,oe',vs',a0,T',oT',ts',rfl,h2,y1,by rw[y2,h4],y4,y3,h7,h8,y5,y7,f1,f3,y8,y9,y10⟩
 ·subst hb
  refine⟨h7,h8,fun o e=>?_⟩
  rw[h3] at e;cases e
  exact⟨_,h5,oe',vs',y1,y2,y4⟩
 ·obtain⟨_,o',e',d⟩:=S.frames.mem m
  rw[e] at e';cases e'
  exact x4 b o e d

theorem note_frame {e:Value}{k:String}{L:Addr}{env:Env}{outer:List Env}{Q:Unit→Shared→Prop}{A:Around} (S:Sim W c P ρ H s) (hfr:A.frames=some (env :: outer)) (he:c.fenvs=env :: outer) (hf:env.frame=some L) (F:Fly W P (some L) s.heap e k)
  (h:∀h',Sim W c P ρ H { s with heap:=h' }→FlyAt W P (rawInt L) h' e k→Q () { s with heap:=h' }):wpAny (model W.prog W.w) A (noteFrame e env) Q E s:=by
 obtain⟨a,C,oe,vs,a0,rfl,h2,h3,h4,h5,h6,h7,h8,h9⟩:=F
 rcases h9 with h1 | ⟨Tb,oT,ts,fl,t1,t2,t3,t4,t5,t6,t7,t8⟩
 ·unfold noteFrame
  simp only[hf]
  refine wpAny_bind (wpAny_field h3 h5 h1 ?_)
  rw[if_neg (by decide)]
  exact new_entry S hfr he hf h2 h3 h4 h5 h6 h7 h8 (Array.getElem?_eq_some_iff.mp h1).1 h
 ·rcases t8 with rfl | ⟨L',e,rfl⟩
  ·have hsz:3<ts.size:=(Array.getElem?_eq_some_iff.mp t7).1
   unfold noteFrame
   simp only[hf]
   refine wpAny_bind (wpAny_field h3 h5 t1 ?_)
   rw[if_pos (show (Value.ref Tb != Value.none)=true from by simp)]
   refine wpAny_bind (wpAny_field t5 t6 t7 ?_)
   rw[if_neg (show ¬((Value.none == rawInt L)=true) from by simp [rawInt])]
   refine wpAny_bind (wpAny_setField t5 t6 hsz ?_)
   have eT:=Heap.get?_update_self (Obj.mapFields (·.setIfInBounds 3 Value.none)) t5 (Obj.isFreed_of_fields (Obj.data_mapFields t6 _))
   have other:∀b,b≠Tb→(s.heap.update Tb (Obj.mapFields (·.setIfInBounds 3 Value.none))).get? b=s.heap.get? b:=fun b hb=>Heap.get?_update_other _ _ (Ne.symm hb)
   have S₁:Sim W c P ρ H { s with heap:=s.heap.update Tb (Obj.mapFields (·.setIfInBounds 3 Value.none)) }:=by
    refine S.exc (tk:=s.toks) (X:=fun b=>b=Tb) (fun b hb=>?_) (fun b o x ξ e=>(other b x).trans e) fun b o m e=>⟨o.slots,(other b ?_).trans e⟩
    ·subst hb
     refine⟨t3,t4,fun o e=>?_⟩
     rw[t5] at e;cases e
     exact⟨ts,t6,_,_,eT,Obj.cls_mapFields _ _,Obj.data_mapFields t6 _⟩
    ·rintro rfl
     obtain⟨_,o',e',d⟩:=S.frames.mem m
     rw[t5] at e';cases e';exact d _ t6
   exact new_entry (s:={ s with heap:=s.heap.update Tb (Obj.mapFields (·.setIfInBounds 3 Value.none)) }) S₁ hfr he hf h2 ((other a (Ne.symm t2)).trans h3) h4 h5 h6 h7 h8 (Array.getElem?_eq_some_iff.mp t1).1 h
  ·cases e
   refine wpAny_noteFrame_againW (base:=noH) (cls:=oe.cls) (a0:=a0) hf ⟨oe,vs,Tb,oT,ts,h3,⟨rfl,h6⟩,h5,t1,noH_get _,t2,t5,t6,t7⟩ ?_
   exact h s.heap S ⟨a,C,oe,vs,a0,Tb,oT,ts,rfl,h2,h3,h4,h5,h6,h7,h8,t1,t2,t3,t4,t5,t6,t7⟩

inductive EXs (W:Wd) (c:Cx) (P:Addr→Obj→Prop) (X:String→Loc→Hp→Prop) (e:Value) (s':Shared):Prop
 | mk (k:String) (ρ':Loc) (H':Hp) (S:Sim W c P ρ' H' s') (F:Fly W P c.env.frame s'.heap e k) (x:X k ρ' H')
theorem EXs.weaken {P':Addr→Obj→Prop}{X:String→Loc→Hp→Prop}{e:Value}{s':Shared} (h:EXs W c P' X e s') (q:∀b o,P b o→P' b o):EXs W c P X e s' :=
 let ⟨k,ρ',H',S,F,x⟩:=h;⟨k,ρ',H',S.weaken q,F.weaken q,x⟩
theorem EX.toS {X:String→Loc→Hp→Prop}{e:Value}{s':Shared} (h:EX W c P ρ (fun k H'=>X k ρ H') e s'):EXs W c P X e s':=let ⟨k,H',S,F,x⟩:=h;⟨k,ρ,H',S,F,x⟩

theorem passes_own {X:String→Loc→Hp→Prop}{A A':Around}{L:Addr}{outer:List Env} (hfr:A'.frames=some (c.env :: outer)) (he:c.fenvs=c.env :: outer) (hf:c.env.frame=some L):PassesOwnAt (model W.prog W.w) A' A c.env (EXs W c P X):=by
 intro e s' ⟨k,ρ',H',S,F,x⟩
 unfold notedBy cameBackBy
 rw[hf] at F
 refine note_frame S hfr he hf F fun h' S' F'=>?_
 obtain⟨a,C,oe,vs,a0,T,oT,ts,rfl,h2,h3,h4,h5,h6,h7,h8,t1,t2,t3,t4,t5,t6,t7⟩:=id F'
 refine wpAny_bind (wpAny_field h3 h5 t1 ?_)
 rw[if_neg (by simp)]
 rw[hf]
 refine setFlight_to (s:={ s' with heap:=h' }) (f:=some L) S' F' fun h'' S'' F''=>?_
 exact⟨k,ρ',H',S'',by rw[hf];exact FlyAt.flyL F'',x⟩
end
end Mine
end

section
namespace Mine
open PySem PySem.W PySem.Calls PyProof.Rows PySem.SeqAt

noncomputable def RepIt (W:Wd) (h:Heap):It→Value→Prop
 | .v x,u=>Rep W h x u
 | .p x y,u=>Rep W h (.tup [x,y]) u
theorem RepIt.mono {W:Wd}{h h':Heap}{it:It}{u:Value} (r:RepIt W h it u) (k:KeepR W h h'):RepIt W h' it u:=by
 cases it with
 | v x=>exact Rep.mono (v:=x) k r
 | p x y=>exact Rep.mono (v:=.tup [x,y]) k r

inductive TgX:Expr→Prop
 | name {x p}:TgX (.Name x p)
 | tup {es k p}:TgX (.Tuple es k p)
noncomputable def TgI:It→Expr→Prop
 | .v _,tx=>TgX tx
 | .p _ _,tx=>∃es k p,tx=.Tuple es k p
theorem MTg.x {K:Kc}{t:Tg}{x:Expr} (h:MTg K t x):TgX x:=by cases h;exact .name;exact .tup
theorem MTg.xi {K:Kc}{t:Tg}{x:Expr}{it:It}{ρ ρ':Loc} (h:MTg K t x) (e:bindT t it ρ=some ρ'):TgI it x:=by
 cases it with
 | v _=>exact h.x
 | p _ _=>cases h with
  | one _=>cases e
  | two _ _=>exact⟨_,_,_,rfl⟩

noncomputable def Free (W:Wd) (c:Cx) (P:Addr→Obj→Prop) (H:Hp) (b:Addr):Prop:=W.base.get? b=none∧b∉c.all∧(∀o,¬P b o)∧H b=none

inductive ItRec (W:Wd) (b:Addr) (o:Obj):Prop
 | mk (n:String) (c:o.cls=.type n) (t:n = "tuple" → W.scr b) (d1:∀es k,o.data≠.dict es k) (d2:∀v,o.data≠.cell v)
theorem ItRec.of {W:Wd}{b:Addr}{o:Obj} (h:(∃n,o.cls=.type n∧n ≠ "tuple")∧(∃vs,o.data=.fields vs)):ItRec W b o :=
 let ⟨⟨n,h1,h2⟩,vs,h3⟩:=h;⟨n,h1,fun q=>absurd q h2,by rw[h3];exact nofun,by rw[h3];exact nofun⟩
structure ItOk (W:Wd) (z:Addr→Prop) (A:Around) (I:Addr) (ad:List Addr) (w:List (Addr×Ob)) (R:List It→Heap→Prop):Prop where
 sub:∀b,W.scr b→z b
 frame:∀its h h',R its h→(∀b∈ad,∀o,h.get? b=some o→h'.get? b=some o)→R its h'
 there:∀its h,R its h→∀b∈ad,∃o,h.get? b=some o∧ItRec (W.z z) b o
 item:∀(c:Cx) (P:Addr→Obj→Prop) (ρ:Loc) (H:Hp) (s:Shared) (it:It) (its:List It) (tx:Expr) (E:Value→Shared→Prop),c.A=A→Sim (W.z z) c P ρ H s→(∀b∈ad,Free W c P H b)→okH w H→R (it :: its) s.heap→TgI it tx →
  wpAny (model W.prog W.w) A (pyNext (.ref I)) (fun r s₁=>∃v,r=some v∧wpAny (model W.prog W.w) A (letOwnedTupleGo tx (.ref I) v) (fun ξ s₂=>Sim (W.z z) c P ρ H s₂∧KeepR (W.z z) s.heap s₂.heap∧RepIt (W.z z) s₂.heap it v∧R its s₂.heap) E s₁) E s
 fin:∀(c:Cx) (P:Addr→Obj→Prop) (ρ:Loc) (H:Hp) (s:Shared) (E:Value→Shared→Prop),c.A=A→Sim (W.z z) c P ρ H s→(∀b∈ad,Free W c P H b)→okH w H→R [] s.heap →
  wpAny (model W.prog W.w) A (pyNext (.ref I)) (fun r s₁=>r=none∧Sim W c P ρ H s₁∧KeepR (W.z z) s.heap s₁.heap) E s
 self:∀(its:List It) (s:Shared) (Q:Value→Shared→Prop) (E:Value→Shared→Prop),R its s.heap→Q (.ref I) s→wpAny (model W.prog W.w) A (pyIter (.ref I)) Q E s

section
variable {W:Wd}{A:Around}

theorem Sim.turn {c:Cx}{P:Addr→Obj→Prop}{ρ:Loc}{H:Hp}{s:Shared}{h':Heap}{tk:Nat}{d:Addr}{o:Obj} (S:Sim W c P ρ H s) (f:Free W c P H d) (e:s.heap.get? d=some o) (hc:∃n,o.cls=.type n∧n ≠ "tuple") (hd:∃vs,o.data=.fields vs)
  (hk:∀b o,b≠d→s.heap.get? b=some o→h'.get? b=some o):Sim W c P ρ H { s with heap:=h',toks:=tk }∧KeepR W s.heap h':=by
 obtain⟨n,hc,hn⟩:=hc
 obtain⟨vs,hd⟩:=hd
 refine⟨S.change d (fun o' e'=>?_) f.1 f.2.1 f.2.2.1 hk (fun ξ ξ=>rfl) (fun o' e'=>by rw[f.2.2.2] at e';cases e'),⟨fun b o' i m e' k q ξ=>hk b o' ?_ e',fun b o' C ws e' k q=>⟨o',ws,hk b o' ?_ e',k,q⟩⟩⟩
 ·rw[e] at e';cases e'
  exact⟨by rw[hc];intro q;exact hn (by cases q;rfl),by rw[hc];exact nofun,by rw[hd];exact nofun⟩
 ·rintro rfl;rw[e] at e';cases e';rw[hc] at k;exact hn (by cases k;rfl)
 ·rintro rfl;rw[e] at e';cases e';rw[hc] at k;cases k

theorem go_plain {I:Addr}{o:Obj}{v:Value}{tx:Expr}{n:String}{vs:Array Value}{Q:Unit→Shared→Prop}{E:Value→Shared→Prop}{s:Shared} (g:s.heap.get? I=some o) (hc:o.cls=.type n) (hd:o.data=.fields vs)
  (hn:(["enumerate", "zip", "dict_itemiterator", "dict_reverseitemiterator", "odict_iterator", "itertools.zip_longest", "itertools.pairwise"].contains n)=false) (t:TgX tx) (h:Q () s):wpAny (model W.prog W.w) A (letOwnedTupleGo tx (.ref I) v) Q E s:=by
 cases t with
 | name=>exact wpAny_pure h
 | tup =>
  unfold letOwnedTupleGo
  cases v <;> first | exact wpAny_pure h | skip
  refine wpAny_bind (wpAny_load g ?_)
  rw[hc,hd]
  dsimp only
  rw[hn,Bool.false_and]
  exact wpAny_pure h

theorem itok_list (hh:A.handled=none) (I l:Addr) (xs:List V):ItOk W W.scr A I [I] [(l,.list xs)] (fun its h=>∃i,h.IsListIter I l i∧its=(xs.drop i).map It.v) where
 sub:=fun ξ q=>q
 frame:=fun its h h' hR k=>by obtain⟨i,x,e⟩:=hR;exact⟨i,x.at fun o z=>k I (by simp) o z,e⟩
 there:=fun its h hR b hb=>by obtain⟨i,⟨o,x,hc,hd⟩,e⟩:=hR;simp at hb;subst hb;exact⟨o,x,_,hc,fun q=>absurd q (by decide),by rw[hd];exact nofun,by rw[hd];exact nofun⟩
 item:=fun c P ρ H s it its tx E hA S f ok hR t=>by
  obtain⟨i,x,e⟩:=hR
  have ha:=ok (l,.list xs) (by simp)
  obtain⟨_,items,n,g,r⟩:=S.heap _ _ ha
  have hlt:i<xs.length:=by
   rcases Nat.lt_or_ge i xs.length with q | q
   ·exact q
   ·rw[List.drop_eq_nil_of_le q] at e;cases e
  rw[List.drop_eq_getElem_cons hlt] at e
  simp only[List.map_cons,List.cons.injEq] at e
  obtain⟨rfl,rfl⟩:=e
  obtain⟨u,e1,r1⟩:=r.get (i:=i) (v:=xs[i]) (by simp [hlt])
  obtain⟨o,ho,hc,hd⟩:=id x
  have hl:s.heap.IsList l items:=⟨_,g,rfl,n,rfl⟩
  refine wpAny_pyNext_list_item x hl (x:=u) (by simpa using e1) fun h' x' hs'=>⟨u,rfl,?_⟩
  have hk:∀b o,b≠I→s.heap.get? b=some o→h'.get? b=some o:=fun b o q e=>hs'.extBut b o q e
  obtain⟨S',kr⟩:=S.turn (tk:=s.toks) (f I (by simp)) ho ⟨_,hc,by decide⟩ ⟨_,hd⟩ hk
  obtain⟨o',ho',hc',hd'⟩:=id x'
  exact go_plain (s:={ s with heap:=h' }) ho' hc' hd' (by decide) t ⟨S',kr,r1.mono kr,i+1,x',rfl⟩
 fin:=fun c P ρ H s E hA S f ok hR=>by
  obtain⟨i,x,e⟩:=hR
  have ha:=ok (l,.list xs) (by simp)
  obtain⟨_,items,n,g,r⟩:=S.heap _ _ ha
  obtain⟨o,ho,hc,hd⟩:=id x
  have hl:s.heap.IsList l items:=⟨_,g,rfl,n,rfl⟩
  have hge:xs.length≤i:=by
   rcases Nat.lt_or_ge i xs.length with q | q
   ·rw[List.drop_eq_getElem_cons q] at e;cases e
   ·exact q
  have hsz:items.size=xs.length:=by rw[r.length];simp
  refine wpAny_pyNext_list_end hh x hl (by simp;exact lA [] [_,_,_] (.n 0) (.n 1) [.L (.n 2) (.n 1),.E (.n 0) (.n 2)] [1,1,1] rfl hge hsz) fun h' hs'=>⟨rfl,?_⟩
  exact S.turn (tk:=s.toks) (f I (by simp)) ho ⟨_,hc,by decide⟩ ⟨_,hd⟩ fun b o q e=>hs' b o q e
 self:=fun its s Q E hR h=>by obtain⟨i,x,e⟩:=hR;exact wpAny_pyIter_listiter x h

theorem itok_range (hh:A.handled=none) (I:Addr) (st:Int):ItOk W W.scr A I [I] [] (fun its h=>∃(x:Int) (n:Nat),IsRangeIter h I x n st∧its=rangeL x st n) where
 sub:=fun ξ q=>q
 frame:=fun its h h' hR k=>by obtain⟨i,n,x,e⟩:=hR;exact⟨i,n,k I (by simp) _ x,e⟩
 there:=fun its h hR b hb=>by obtain⟨i,n,x,e⟩:=hR;simp at hb;subst hb;exact⟨_,x,_,rfl,fun q=>absurd q (by decide),by exact nofun,by exact nofun⟩
 item:=fun c P ρ H s it its tx E hA S f ok hR t=>by
  obtain⟨i,n,x,e⟩:=hR
  cases n with
  | zero=>cases e
  | succ n =>
   rw[rangeL_succ] at e
   simp only[List.cons.injEq] at e
   obtain⟨rfl,rfl⟩:=e
   refine wpAny_pyNext_range_item x (by exact lb [] [_] (.c 0) (.t (.a (.n 0) (.c 1))) [] [1] rfl) fun h' x' hs'=>⟨_,rfl,?_⟩
   obtain⟨S',kr⟩:=S.turn (tk:=s.toks+1) (f I (by simp)) x ⟨_,rfl,by decide⟩ ⟨_,rfl⟩ fun b o q e=>hs'.extBut b o q e
   have x'':IsRangeIter h' I (i+st) n st:=by
    have e:((n+1:Nat):Int)-1=n:=by exact lq [] [_] (.s (.t (.a (.n 0) (.c 1))) (.c 1)) (.t (.n 0)) [] [1] [1] rfl
    rw[e] at x';exact x'
   exact go_plain (s:={ s with heap:=h',toks:=s.toks+1 }) x'' rfl rfl (by decide) t ⟨S',kr,Rep.int (W:=W) (h:=h') _ _,_,n,x'',rfl⟩
 fin:=fun c P ρ H s E hA S f ok hR=>by
  obtain⟨i,n,x,e⟩:=hR
  cases n with
  | succ n=>rw[rangeL_succ] at e;cases e
  | zero =>
   refine wpAny_pyNext_range_end hh x (by simp) fun h' hs'=>⟨rfl,?_⟩
   exact S.turn (tk:=s.toks) (f I (by simp)) x ⟨_,rfl,by decide⟩ ⟨_,rfl⟩ fun b o q e=>hs' b o q e
 self:=fun its s Q E hR h=>by obtain⟨i,n,x,e⟩:=hR;exact wpAny_pyIter_rangeiter x h
end
end Mine
end

section
namespace Mine
open PySem PySem.W PySem.Calls PyProof.Rows PySem.SeqAt
section
variable {W:Wd}{T:Tx W}{c:Cx}{K:Kc}{hd:Bool}{G:Gl}

inductive Itr (W:Wd) (c:Cx) (P:Addr→Obj→Prop) (ρ:Loc) (KK:List It→List (Addr×Ob)→Hp→Prop) (it:Value) (s₂:Shared):Prop
 | mk (I:Addr) (ad:List Addr) (w:List (Addr×Ob)) (R:List It→Heap→Prop) (its:List It) (H₂:Hp) (z:Addr→Prop) (e:it=.ref I) (k:ItOk W z c.A I ad w R) (r:R its s₂.heap) (S:Sim (W.z z) c P ρ H₂ s₂) (f:∀b∈ad,Free W c P H₂ b) (q:KK its w H₂)
noncomputable def SS (W:Wd) (c:Cx) (G:Gl) (hd:Bool) (src:Sr) (sx:Expr):Prop:=∀(P:Addr→Obj→Prop) (ρ:Loc) (H:Hp) (s:Shared) (KK:List It→List (Addr×Ob)→Hp→Prop) (X:String→Hp→Prop),hd=false→Sim W c P ρ H s→wpSr G hd src ρ KK X H →
 wpAny (model W.prog W.w) c.A (eval sx c.env) (fun xv s₁=>wpAny (model W.prog W.w) c.A (pyIter xv) (Itr W c P ρ KK) (EX W c P ρ X) s₁) (EX W c P ρ X) s

theorem Sim.free {P:Addr→Obj→Prop}{ρ:Loc}{H:Hp}{s:Shared} (S:Sim W c P ρ H s) {a:Addr} (h:s.heap.get? a=none):Free W c P H a:=S.fresh h

theorem ss_ex {e x} (C:CxOk T c K hd) (h:SE W c G hd e x):SS W c G hd (.ex e) x:=fun P ρ H s KK X hf S w=>by
 replace w:=qSr_ex.mp w
 refine wpAny_mono (h P ρ H s _ X S w) (fun u s₁ hx=>?_) fun ξ ξ x=>x
 obtain⟨v,H₁,S₁,r,q⟩:=hx
 obtain⟨a,rfl,q⟩:=ref1_inv q
 cases r
 obtain⟨xs,ea,q⟩:=list1_inv q
 obtain⟨_,it,n,g,ri⟩:=S₁.heap _ _ ea
 refine wpAny_pyIter_list (items:=it) ⟨_,g,rfl,n,rfl⟩ ?_
 refine⟨s₁.heap.objs.size,_,_,_,_,H₁,W.scr,rfl,itok_list (C.hand hf) s₁.heap.objs.size a xs,⟨0,⟨_,Heap.get?_push_size _ rfl,rfl,rfl⟩,rfl⟩,S₁.grow (tk:=s₁.toks) fun b o e=>Heap.get?_push_of_some _ e,fun b hb=>?_,by simpa using q⟩
 simp at hb;subst hb
 exact S₁.free (size_none _)

theorem iter_range {P:Addr→Obj→Prop}{ρ:Loc}{H:Hp}{s:Shared}{KK:List It→List (Addr×Ob)→Hp→Prop}{E:Value→Shared→Prop}{a b st:Int}{t u v:Tok}{r:Addr} (hh:c.A.handled=none) (S:Sim W c P ρ H s) (hr:IsRange s.heap r a b st t u v) (hs:Builtin.Range.small a b st=true)
  (hz:Builtin.Range.rangeSize a b st=(turns a b st:Nat)) (q:KK (rangeL a st (turns a b st)) [] H):wpAny (model W.prog W.w) c.A (pyIter (.ref r)) (Itr W c P ρ KK) E s:=by
 refine wpAny_pyIter_range hr hs ?_
 rw[hz]
 refine⟨s.heap.objs.size,_,_,_,_,H,W.scr,rfl,itok_range hh s.heap.objs.size st,⟨a,turns a b st,Heap.get?_push_size _ rfl,rfl⟩,S.grow (tk:=s.toks) fun b o e=>Heap.get?_push_of_some _ e,fun b hb=>?_,q⟩
 simp at hb;subst hb
 exact S.free (size_none _)

theorem turns_size {a b st:Int} (h:st≠0):Builtin.Range.rangeSize a b st=(turns a b st:Nat):=by
 unfold Builtin.Range.rangeSize turns
 by_cases c:st > 0
 ·rw[if_pos c,if_pos c]
  by_cases q:a<b
  ·rw[if_pos q]
   have e:(b-a+st-1) / st=(b-a-1) / st+1:=by
    rw[show b-a+st-1=(b-a-1)+1*st by exact lq [_,_,_] [] (.s (.a (.s (.v 0) (.v 1)) (.v 2)) (.c 1)) (.a (.s (.s (.v 0) (.v 1)) (.c 1)) (.m 1 (.v 2))) [] [1] [1] rfl,Int.add_mul_ediv_right _ _ h]
   rw[e]
   have:0≤(b-a-1) / st:=Int.ediv_nonneg (by exact la [_,_] [] (.c 0) (.s (.s (.v 0) (.v 1)) (.c 1)) [.b (.v 1) (.v 0)] [1,1] rfl q) (by exact la [_] [] (.c 0) (.v 0) [.b (.c 0) (.v 0)] [1,1] rfl c)
   exact lq [_] [_] (.a (.v 0) (.c 1)) (.t (.n 0)) [.e (.t (.n 0)) (.a (.v 0) (.c 1)),.l (.a (.v 0) (.c 1)) (.t (.n 0))] [1,1,0] [1,-1,0] rfl (tnE (a:=(b-a-1) / st+1) (la [_] [] (.c 0) (.a (.v 0) (.c 1)) [.l (.c 0) (.v 0)] [1,1] rfl this)) (tn0 (a:=(b-a-1) / st+1))
  ·rw[if_neg q]
   have:(b-a+st-1) / st≤0:=by
    have:=Int.ediv_le_ediv (c:=st) c (show b-a+st-1≤st-1 by exact la [_,_,_] [] (.s (.a (.s (.v 0) (.v 1)) (.v 2)) (.c 1)) (.s (.v 2) (.c 1)) [.l (.v 0) (.v 1)] [1,1] rfl (Int.not_lt.mp q))
    rw[Int.ediv_eq_zero_of_lt (a:=st-1) (by exact la [_] [] (.c 0) (.s (.v 0) (.c 1)) [.b (.c 0) (.v 0)] [1,1] rfl c) (by exact lb [_] [] (.s (.v 0) (.c 1)) (.v 0) [] [1] rfl)] at this
    exact this
   exact lq [] [_] (.c 0) (.t (.n 0)) [.E (.n 0) (.c 0)] [1,1] [1,-1] rfl (tnZ (a:=(b-a+st-1) / st) (this))
 ·rw[if_neg c,if_neg c]
  by_cases q:a > b
  ·rw[if_pos q]
   have e:(a-b-st-1) / (-st)=(a-b-1) / (-st)+1:=by
    rw[show a-b-st-1=(a-b-1)+1*(-st) by exact lq [_,_,_] [] (.s (.s (.s (.v 0) (.v 1)) (.v 2)) (.c 1)) (.a (.s (.s (.v 0) (.v 1)) (.c 1)) (.m 1 (.g (.v 2)))) [] [1] [1] rfl,Int.add_mul_ediv_right _ _ (by omega)]
   rw[e]
   have:0≤(a-b-1) / (-st):=Int.ediv_nonneg (by exact la [_,_] [] (.c 0) (.s (.s (.v 0) (.v 1)) (.c 1)) [.b (.v 1) (.v 0)] [1,1] rfl q) (by exact la [_] [] (.c 0) (.g (.v 0)) [.l (.v 0) (.c 0)] [1,1] rfl (Int.not_lt.mp c))
   exact lq [_] [_] (.a (.v 0) (.c 1)) (.t (.n 0)) [.e (.t (.n 0)) (.a (.v 0) (.c 1)),.l (.a (.v 0) (.c 1)) (.t (.n 0))] [1,1,0] [1,-1,0] rfl (tnE (a:=(a-b-1) / -st+1) (la [_] [] (.c 0) (.a (.v 0) (.c 1)) [.l (.c 0) (.v 0)] [1,1] rfl this)) (tn0 (a:=(a-b-1) / -st+1))
  ·rw[if_neg q]
   have:(a-b-st-1) / (-st)≤0:=by
    have:=Int.ediv_le_ediv (c:=-st) (by omega) (show a-b-st-1≤-st-1 by exact la [_,_,_] [] (.s (.s (.s (.v 0) (.v 1)) (.v 2)) (.c 1)) (.s (.g (.v 2)) (.c 1)) [.l (.v 0) (.v 1)] [1,1] rfl (Int.not_lt.mp q))
    rw[Int.ediv_eq_zero_of_lt (a:=-st-1) (by omega) (by exact lb [_] [] (.s (.g (.v 0)) (.c 1)) (.g (.v 0)) [] [1] rfl)] at this
    exact this
   exact lq [] [_] (.c 0) (.t (.n 0)) [.E (.n 0) (.c 0)] [1,1] [1,-1] rfl (tnZ (a:=(a-b-st-1) / -st) (this))
theorem turns_one (a b:Int):turns a b 1=(b-a).toNat:=by unfold turns;simp
theorem small_of {a b st:Int} (ha:Ix a) (hb:Ix b) (hs:Ix st) (h:st≠0):Builtin.Range.small a b st=true:=by
 unfold Ix at *
 have hz:0≤Builtin.Range.rangeSize a b st∧Builtin.Range.rangeSize a b st≤9223372036854775807:=by
  rw[turns_size h]
  refine⟨by exact la [] [_] (.c 0) (.t (.n 0)) [] [1] rfl,?_⟩
  unfold turns
  by_cases c:0<st
  ·rw[if_pos c]
   have e:(b-a+st-1) / st=(b-a-1) / st+1:=by
    rw[show b-a+st-1=(b-a-1)+1*st by exact lq [_,_,_] [] (.s (.a (.s (.v 0) (.v 1)) (.v 2)) (.c 1)) (.a (.s (.s (.v 0) (.v 1)) (.c 1)) (.m 1 (.v 2))) [] [1] [1] rfl,Int.add_mul_ediv_right _ _ h]
   rw[e]
   by_cases q:0≤b-a-1
   ·have:=Int.ediv_le_self (b:=st) q
    omega
   ·have:=Int.ediv_neg_of_neg_of_pos (show b-a-1<0 by exact (Int.not_le.mp q)) c
    exact la [] [_] (.t (.n 0)) (.c 9223372036854775807) [.E (.n 0) (.c 0)] [1,1] rfl (tnZ (a:=(b-a-1) / st+1) (la [_] [] (.a (.v 0) (.c 1)) (.c 0) [.b (.v 0) (.c 0)] [1,1] rfl this))
  ·rw[if_neg c]
   have e:(a-b-st-1) / (-st)=(a-b-1) / (-st)+1:=by
    rw[show a-b-st-1=(a-b-1)+1*(-st) by exact lq [_,_,_] [] (.s (.s (.s (.v 0) (.v 1)) (.v 2)) (.c 1)) (.a (.s (.s (.v 0) (.v 1)) (.c 1)) (.m 1 (.g (.v 2)))) [] [1] [1] rfl,Int.add_mul_ediv_right _ _ (by omega)]
   rw[e]
   by_cases q:0≤a-b-1
   ·have:=Int.ediv_le_self (b:=-st) q
    omega
   ·have:=Int.ediv_neg_of_neg_of_pos (show a-b-1<0 by exact (Int.not_le.mp q)) (show 0 < -st by omega)
    exact la [] [_] (.t (.n 0)) (.c 9223372036854775807) [.E (.n 0) (.c 0)] [1,1] rfl (tnZ (a:=(a-b-1) / -st+1) (la [_] [] (.a (.v 0) (.c 1)) (.c 0) [.b (.v 0) (.c 0)] [1,1] rfl this))
 unfold Builtin.Range.small
 simp only[Builtin.Range.rangeFitsLong,Bool.and_eq_true,Bool.or_eq_true,decide_eq_true_eq,beq_iff_eq]
 refine⟨⟨⟨⟨by exact⟨la [_] [] (.c (-(2 ^ 63))) (.v 0) [.b (.c (-4611686018427387904)) (.v 0)] [1,1] rfl ha.1,lb [_] [] (.v 0) (.c (2 ^ 63)) [.b (.v 0) (.c 4611686018427387904)] [1,1] rfl ha.2⟩,by exact⟨la [_] [] (.c (-(2 ^ 63))) (.v 0) [.b (.c (-4611686018427387904)) (.v 0)] [1,1] rfl hb.1,lb [_] [] (.v 0) (.c (2 ^ 63)) [.b (.v 0) (.c 4611686018427387904)] [1,1] rfl hb.2⟩⟩,by exact⟨la [_] [] (.c (-(2 ^ 63))) (.v 0) [.b (.c (-4611686018427387904)) (.v 0)] [1,1] rfl hs.1,lb [_] [] (.v 0) (.c (2 ^ 63)) [.b (.v 0) (.c 4611686018427387904)] [1,1] rfl hs.2⟩⟩,by exact⟨la [_] [] (.c (-(2 ^ 63))) (.v 0) [.l (.c 0) (.v 0)] [1,1] rfl hz.1,lb [_] [] (.v 0) (.c (2 ^ 63)) [.l (.v 0) (.c 9223372036854775807)] [1,1] rfl hz.2⟩⟩,?_⟩
 right
 split <;> simp only[Bool.and_eq_true,decide_eq_true_eq] <;> (first | exact⟨la [_,_] [] (.c (-(2 ^ 63))) (.a (.v 0) (.s (.v 1) (.c 1))) [.b (.c (-4611686018427387904)) (.v 0),.b (.c (-4611686018427387904)) (.v 1)] [1,1,1] rfl hb.1 hs.1,lb [_,_] [] (.a (.v 0) (.s (.v 1) (.c 1))) (.c (2 ^ 63)) [.b (.v 0) (.c 4611686018427387904),.b (.v 1) (.c 4611686018427387904)] [1,1,1] rfl hb.2 hs.2⟩ | exact⟨la [_,_] [] (.c (-(2 ^ 63))) (.a (.v 0) (.a (.v 1) (.c 1))) [.b (.c (-4611686018427387904)) (.v 0),.b (.c (-4611686018427387904)) (.v 1)] [1,1,1] rfl hb.1 hs.1,lb [_,_] [] (.a (.v 0) (.a (.v 1) (.c 1))) (.c (2 ^ 63)) [.b (.v 0) (.c 4611686018427387904),.b (.v 1) (.c 4611686018427387904)] [1,1,1] rfl hb.2 hs.2⟩)

theorem size_1 (n:Int):Builtin.Range.rangeSize 0 n 1=(turns 0 n 1:Nat):=turns_size (by decide)
theorem small_1 {n:Int} (h:Ix n):Builtin.Range.small 0 n 1=true:=small_of ⟨by decide,by decide⟩ h ⟨by decide,by decide⟩ (by decide)
theorem ss_range1 {b x q p} (C:CxOk T c K hd) (g:K.gl (Str.ofString "range")=true) (m:Pl x) (h:SE W c G hd b x):SS W c G hd (.range1 b) (.Call (.Name (Str.ofString "range") q) [x] [] p):=fun P ρ H s KK X hf S w=>by
 replace w:=qSr_range1.mp w
 refine wpAny_Call_Name_kw (sound_builtin C S g T.rng ?_)
 rw[m.star]
 refine PySem.callWith_type rfl (evalArgs_plain (spliced_cons (wpAny_mono (h P ρ H s _ X S w) (fun u s₁ ⟨v,H₁,S₁,r,q⟩=>spliced_nil ?_) fun ξ ξ x=>x)))
 obtain⟨n,rfl,hn,q⟩:=int1_inv q
 obtain⟨t,rfl⟩:=r
 refine call_range_1 ?_
 exact iter_range (s:={ s₁ with heap:=s₁.heap.push { cls:=.type "range",data:=.fields #[.int 0 s₁.toks,.int n _,.int 1 (s₁.toks+1)] },toks:=s₁.toks+1+1 }) (C.hand hf) (S₁.grow fun b o e=>Heap.get?_push_of_some _ e) (IsRange.new ..) (small_1 hn) (size_1 _) (by rw[turns_one];simpa using q)
theorem ss_range2 {a b x y q p} (C:CxOk T c K hd) (g:K.gl (Str.ofString "range")=true) (m:Pl x) (m':Pl y) (h1:SE W c G hd a x) (h2:SE W c G hd b y):SS W c G hd (.range2 a b) (.Call (.Name (Str.ofString "range") q) [x,y] [] p):=fun P ρ H s KK X hf S w=>by
 replace w:=qSr_range2.mp w
 refine wpAny_Call_Name_kw (sound_builtin C S g T.rng ?_)
 rw[m.star,m'.star]
 refine PySem.callWith_type rfl (evalArgs_plain (spliced_cons (wpAny_mono (h1.two h2 S w) (fun u s₁ h₁=>spliced_cons (wpAny_mono h₁ (fun u' s₂ ⟨v,v',H₂,S₂,r,r',q⟩=>spliced_nil ?_) fun ξ ξ x=>x)) fun ξ ξ x=>x)))
 obtain⟨lo,hi,t,t',rfl,rfl,hl,hn,q⟩:=int2_inv q r r'
 refine call_range_2 ?_
 exact iter_range (s:={ s₂ with heap:=s₂.heap.push { cls:=.type "range",data:=.fields #[.int _ _,.int _ _,.int 1 s₂.toks] },toks:=s₂.toks+1 }) (C.hand hf) (S₂.grow fun b o e=>Heap.get?_push_of_some _ e) (IsRange.new ..) (small_of hl hn (by unfold Ix;exact⟨lb [] [] (.c (-4611686018427387904)) (.c 1) [] [1] rfl,lb [] [] (.c 1) (.c 4611686018427387904) [] [1] rfl⟩) (by decide)) (turns_size (by decide)) (by rw[turns_one];exact q)
theorem ss_range3 {a b d x y z q p} (C:CxOk T c K hd) (g:K.gl (Str.ofString "range")=true) (m:Pl x) (m':Pl y) (m'':Pl z) (h1:SE W c G hd a x) (h2:SE W c G hd b y) (h3:SE W c G hd d z):SS W c G hd (.range3 a b d) (.Call (.Name (Str.ofString "range") q) [x,y,z] [] p):=fun P ρ H s KK X hf S w=>by
 replace w:=qSr_range3.mp w
 refine wpAny_Call_Name_kw (sound_builtin C S g T.rng ?_)
 rw[m.star,m'.star,m''.star]
 refine PySem.callWith_type rfl (evalArgs_plain (spliced_cons (wpAny_mono (h1.two h2 S w) (fun u s₁ h₁=>spliced_cons (wpAny_mono h₁ (fun u' s₂ ⟨v,v',H₂,S₂,r,r',q⟩=>spliced_cons (wpAny_mono (h3.max S₂ q) (fun u'' s₃ ⟨k,v'',H₃,S₃,r'',q⟩=>spliced_nil ?_) fun ξ ξ x=>x)) fun ξ ξ x=>x)) fun ξ ξ x=>x)))
 have r:=r.mono k
 have r':=r'.mono k
 obtain⟨lo,rfl,q1⟩:=int1_inv q
 obtain⟨hi,st,t,t',rfl,rfl,hl,hn,hs,h0,q2⟩:=int2_inv q1 r' r''
 obtain⟨t₀,rfl⟩:=r
 refine call_range_3 h0 ?_ (.inl ?_)
 ·exact iter_range (s:={ s₃ with heap:=s₃.heap.push { cls:=.type "range",data:=.fields #[.int _ _,.int _ _,.int _ _] },toks:=s₃.toks }) (C.hand hf) (S₃.grow fun b o e=>Heap.get?_push_of_some _ e) (IsRange.new ..) (small_of hl hn hs h0) (turns_size h0) q2
 ·refine PyProof.noPylong_of_log2 ?_
  unfold Ix at hs
  refine (Nat.log2_lt (by omega)).mpr (Nat.lt_of_lt_of_le (m:=2 ^ 62) (by omega) (Nat.pow_le_pow_right (by decide) (by decide)))
end
end Mine
end

section
namespace Mine
open PySem PySem.W PySem.Calls PyProof.Rows PySem.SeqAt
section
variable {prog:Program}{w:World}{A:Around}{E:Value→Shared→Prop}{s:Shared}
theorem nextOf_range_item {it:Addr}{x left step:Int}{Q:Value→Shared→Prop} (hit:IsRangeIter s.heap it x left step) (hleft:0<left)
  (hQ:∀h',IsRangeIter h' it (x+step) (left-1) step→Heap.SameBut it s.heap h'→Q (.int x s.toks) { s with heap:=h',toks:=s.toks+1 }) :
  wpAny (model prog w) A (Builtin.SmallTypes.nextOf (.ref it)) Q E s:=by
 have hT:s.TypeIs (.ref it) "range_iterator" := ⟨_,hit,rfl⟩
 unfold Builtin.SmallTypes.nextOf
 refine wpAny_bind (wpAny_callSpecial?_slot (name:=Str.ofString "__next__") hT F.slot_range_iterator_next
  (call_meets F.slot_range_iterator_next hT F.entry_range_iterator_next (F.args_range_iterator_next_1 _) (AutoRange.range_iterator___next___range_iterator_1 it x left step (by exact lf [_] [] [.b (.c 0) (.v 0),.l (.v 0) (.c 0)] [1,1] rfl hleft)) ⟨hit,?_⟩))
 exact wpAny_pure (hQ _ (Heap.get?_update_self _ (Heap.get?_update_self _ hit rfl) rfl) ((Heap.SameBut.update ..).trans (Heap.SameBut.update ..)))
theorem nextOf_range_end {it:Addr}{x left step:Int}{Q:Value→Shared→Prop} (hh:A.handled=none) (hit:IsRangeIter s.heap it x left step) (hleft:left≤0)
  (hE:∀h' e,Heap.ExtBut it s.heap h'→(∃o,h'.get? e=some o∧o.cls=.type "StopIteration")→E (.ref e) { s with heap:=h' }):wpAny (model prog w) A (Builtin.SmallTypes.nextOf (.ref it)) Q E s:=by
 have hT:s.TypeIs (.ref it) "range_iterator" := ⟨_,hit,rfl⟩
 unfold Builtin.SmallTypes.nextOf
 refine wpAny_bind (wpAny_callSpecial?_slot (name:=Str.ofString "__next__") hT F.slot_range_iterator_next
  (wpAny_call_entry F.slot_range_iterator_next hT F.entry_range_iterator_next ?_ (F.args_range_iterator_next_1 _)))
 show wpAny _ _ (field (.ref it) 0 >>= _) _ _ s
 refine wpAny_bind (wpAny_field hit rfl (x:=rawInt x) rfl ?_)
 show wpAny _ _ (field (.ref it) 1 >>= _) _ _ s
 refine wpAny_bind (wpAny_field hit rfl (x:=rawInt left) rfl ?_)
 show wpAny _ _ (field (.ref it) 2 >>= _) _ _ s
 refine wpAny_bind (wpAny_field hit rfl (x:=rawInt step) rfl ?_)
 show wpAny _ _ (if left≤0 then _ else _) _ _ s
 rw[if_pos hleft]
 refine wpAny_bind (wpAny_rule ?_)
 refine wpAny_bind ?_
 show wpAny _ _ (newExc (.type "StopIteration") [] >>= _) _ _ _
 refine wpAny_bind ?_
 simp only[newExc,newTuple]
 refine wpAny_bind (wpAny_newObj_type ?_ (by size_fits))
 refine wpAny_bind (m:=firstArgMember _ _) (wpAny_of_eq (a:=Value.none) (by first | rfl | (simp only[firstArgMember];rfl)) ?_)
 refine wpAny_newObj_type ?_ (by size_fits)
 simp only[raiseNew]
 refine wpAny_bind (wpAny_handled ?_)
 first | rw[show A.in1.handled=none from hh] | rw[hh]
 refine wpAny_bind (wpAny_pure (wpAny_throw ?_))
 exact hE _ _ (((Heap.ExtBut.refl it s.heap).push _).push _) ⟨_,Heap.get?_push_size _ rfl,rfl⟩
end
theorem draws_range {prog:Program}{w:World}{A:Around} (hh:A.handled=none) (it:Addr) (a st:Int) (n:Nat) :
  Draws prog w A it [it] n (fun i v=>∃t,v=.int (a+(i:Int)*st) t) (fun i h=>i≤n∧IsRangeIter h it (a+(i:Int)*st) ((n-i:Nat):Int) st) where
 live:=fun ξ ξ x=>⟨_,x.2⟩
 frame:=fun ξ ξ ξ x hk=>⟨x.1,hk it (by simp) _ x.2⟩
 item:=fun i s Q E hi x hQ=>by
  refine nextOf_range_item x.2 (by exact lb [] [_,_,_] (.c 0) (.t (.n 0)) [.B (.n 1) (.n 2),.L (.n 2) (.a (.n 0) (.n 1))] [1,1,1] rfl hi (ns1 (a:=n) (b:=i))) fun h' hit' hs'=>?_
  refine hQ _ h' (s.toks+1) ⟨_,rfl⟩ ⟨by exact lA [] [_,_] (.a (.n 0) (.c 1)) (.n 1) [.B (.n 0) (.n 1)] [1,1] rfl hi,?_⟩ hs'
  have e1:a+(i:Int)*st+st=a+((i+1:Nat):Int)*st:=by rw[Int.natCast_succ,Int.add_mul];exact lq [_,_,_] [] (.a (.a (.v 0) (.v 1)) (.v 2)) (.a (.v 0) (.a (.v 1) (.m 1 (.v 2)))) [] [1] [1] rfl
  have e2:((n-i:Nat):Int)-1=((n-(i+1):Nat):Int):=by exact lq [] [_,_,_,_] (.s (.t (.n 0)) (.c 1)) (.t (.n 1)) [.E (.a (.n 0) (.n 2)) (.n 3),.E (.a (.n 1) (.a (.n 2) (.c 1))) (.n 3)] [1,-1,1] [1,1,-1] rfl (nsE (a:=n) (b:=i) (x.1)) (nsE (a:=n) (b:=i+1) (lA [] [_,_] (.a (.n 0) (.c 1)) (.n 1) [.B (.n 0) (.n 1)] [1,1] rfl hi))
  rw[e1,e2] at hit';exact hit'
 done:=fun s Q E x hE=>nextOf_range_end hh x.2 (by exact la [] [_,_] (.t (.n 0)) (.c 0) [.E (.a (.n 0) (.n 1)) (.n 1)] [1,1] rfl (nsE (a:=n) (b:=n) (x.1))) hE
theorem Sim.turnZ {W:Wd}{z:Addr→Prop}{c:Cx}{P:Addr→Obj→Prop}{ρ:Loc}{H:Hp}{s:Shared}{h':Heap}{tk:Nat}{ad:List Addr} (hz:∀b,W.scr b→z b) (S:Sim (W.z z) c P ρ H s) (f:∀b∈ad,Free W c P H b)
  (th:∀b∈ad,∀o,s.heap.get? b=some o→ItRec (W.z z) b o) (ht:∀b∈ad,W.scr b→TupAt s.heap b→TupAt h' b) (hk:∀b o,b∉ad→s.heap.get? b=some o→h'.get? b=some o) :
  Sim W c P ρ H { s with heap:=h',toks:=tk }∧KeepR (W.z z) s.heap h':=by
 have kr:KeepR (W.z z) s.heap h':=⟨fun b o i m e k q nz=>hk b o (fun hb=>by obtain⟨n,h1,h2,_,_⟩:=th b hb o e;rw[h1] at k;exact nz (h2 (by cases k;rfl))) e,
  fun b o C ws e k q=>⟨o,ws,hk b o (fun hb=>by obtain⟨n,h1,_,_,_⟩:=th b hb o e;rw[h1] at k;cases k) e,k,q⟩⟩
 have nz:NotZ (W.z z) W.scr s.heap:=fun ξ ξ ξ ξ ξ ξ ξ q w=>q (hz _ w)
 have nall:∀b,b∈c.all→b∉ad:=fun b hb q=>(f b q).2.1 hb
 have nH:∀b o,H b=some o→b∉ad:=fun b o e q=>by rw[(f b q).2.2.2] at e;cases e
 refine⟨⟨?_,fun b o e=>hk b o (fun q=>by rw[(f b q).1] at e;cases e) (S.base b o e),funFrames_at S.frames fun b hb o e d=>⟨o,hk b o (nall b (Cx.mem_all_frs hb)) e,d⟩,fun p hp=>?_,?_,S.locOwn,S.ownNew,S.ownOut,
  fun a o e=>(S.heap a o e).atZ kr nz fun ob q=>hk a ob (nH a o e) q,S.new,S.apart,fun b o p=>hk b o (fun q=>(f b q).2.2.1 o p) (S.prot b o p),S.protH,S.protF,fun x a e=>?_,fun b hb=>?_,fun b hb=>?_⟩,kr⟩
 ·obtain⟨h,tk',rfl⟩:=S.rest;exact⟨h',tk,rfl⟩
 ·obtain⟨o,es,ep,e,r⟩:=S.outer p hp
  exact⟨o,es,ep,hk _ _ (nall _ (Cx.mem_all_outer hp)) e,r⟩
 ·obtain⟨m,⟨o,es,ep,e,r⟩,hv⟩:=S.loc
  refine⟨m,⟨o,es,ep,hk _ _ (nall _ (Cx.mem_all_own S.locOwn)) e,r⟩,fun i x v h1 h2 h3=>(hv i x v h1 h2 h3).monoZ kr nz fun cl o u ξ ho hq=>⟨o,hk _ _ (fun q=>?_) ho,rfl⟩⟩
  obtain⟨_,_,_,_,hd⟩:=th _ q o ho;exact hd _ hq
 ·obtain⟨u,o,e1,e2⟩:=S.cells x a e
  exact⟨u,o,hk a o (fun q=>by obtain⟨_,_,_,_,hd⟩:=th _ q o e1;exact hd _ e2) e1,e2⟩
 ·obtain⟨o,e,q⟩:=S.ownD b hb
  exact⟨o,hk b o (nall b (hb.elim Cx.mem_all_own Cx.mem_all_frs)) e,q⟩
 ·by_cases q:b∈ad
  ·exact ht b q hb (S.scr b (hz b hb))
  ·exact (S.scr b (hz b hb)).at fun o e ξ ξ=>hk b o q e
theorem Sim.turnS {W:Wd}{c:Cx}{P:Addr→Obj→Prop}{ρ:Loc}{H:Hp}{s:Shared}{h':Heap}{tk:Nat}{ad:List Addr} (S:Sim W c P ρ H s) (f:∀b∈ad,Free W c P H b)
  (th:∀b∈ad,∀o,s.heap.get? b=some o→(∃n,o.cls=.type n∧n ≠ "tuple")∧(∃vs,o.data=.fields vs)) (hk:∀b o,b∉ad→s.heap.get? b=some o→h'.get? b=some o) :
  Sim W c P ρ H { s with heap:=h',toks:=tk }∧KeepR W s.heap h' :=
 Sim.turnZ (z:=W.scr) (fun ξ q=>q) S f (fun b hb o e=>.of (th b hb o e)) (fun b hb _ ⟨o,i,n,e,k,d⟩=>by obtain⟨_,vs,q⟩:=th b hb o e;rw[d] at q;cases q) hk
section
variable {W:Wd}{A:Around}
theorem two_th {h:Heap}{e it:Addr}{o1 o2:Obj} (x:h.get? e=some o1) (y:h.get? it=some o2) (h1:(∃n,o1.cls=.type n∧n ≠ "tuple")∧(∃vs,o1.data=.fields vs)) (h2:(∃n,o2.cls=.type n∧n ≠ "tuple")∧(∃vs,o2.data=.fields vs)) :
  ∀b∈[e,it],∀o,h.get? b=some o→(∃n,o.cls=.type n∧n ≠ "tuple")∧(∃vs,o.data=.fields vs):=fun b hb o eo=>by
 rcases List.mem_cons.mp hb with rfl | hb
 ·rw[x] at eo;exact Option.some.inj eo▸h1
 ·rw[List.mem_singleton.mp hb,y] at eo;exact Option.some.inj eo▸h2
inductive EnumI (e it:Addr) (a st:Int) (n:Nat) (its:List It) (h:Heap):Prop
 | mk (i:Nat) (old:Value) (hi:i≤n) (x:IsEnum h e it (i:Int) old) (y:IsRangeIter h it (a+(i:Int)*st) ((n-i:Nat):Int) st) (e':its=((List.range n).drop i).map fun (j:Nat)=>It.p (.int j) (.int (a+(j:Int)*st)))
theorem itok_enum (hh:A.handled=none) (e it:Addr) (hne:e≠it) (a st:Int) (n:Nat):ItOk W W.scr A e [e,it] [] (EnumI e it a st n) where
 sub:=fun ξ q=>q
 frame:=fun its h h' ⟨i,old,hi,x,y,e'⟩ k=>⟨i,old,hi,k e (List.mem_cons_self ..) _ x,k it (List.mem_cons_of_mem _ (List.mem_cons_self ..)) _ y,e'⟩
 there:=fun its h ⟨i,old,hi,x,y,e'⟩ b hb=>by
  simp only[List.mem_cons,List.not_mem_nil,or_false] at hb
  rcases hb with rfl | rfl
  ·exact⟨_,x,.of ⟨⟨_,rfl,by decide⟩,_,rfl⟩⟩
  ·exact⟨_,y,.of ⟨⟨_,rfl,by decide⟩,_,rfl⟩⟩
 item:=fun c P ρ H s itm its tx E hA S f ok ⟨i,old,hi,x,y,e'⟩ t=>by
  have hlt:i<n:=by
   rcases Nat.lt_or_ge i n with q | q
   ·exact q
   ·rw[List.drop_eq_nil_of_le (by simpa using q)] at e';cases e'
  rw[List.drop_eq_getElem_cons (by simpa using hlt),List.map_cons] at e'
  simp only[List.getElem_range,List.cons.injEq] at e'
  obtain⟨rfl,rfl⟩:=e'
  obtain⟨es,k,p,rfl⟩:=t
  have D:=WalksT.enumerateD (A:=A) (draws_range (prog:=W.prog) (w:=W.w) (A:=A.in1) hh it a st n) e hne (by simpa using hne) (by simp)
  have th:∀b∈[e,it],∀o,s.heap.get? b=some o→(∃n,o.cls=.type n∧n ≠ "tuple")∧(∃vs,o.data=.fields vs):=two_th x y ⟨⟨_,rfl,by decide⟩,_,rfl⟩ ⟨⟨_,rfl,by decide⟩,_,rfl⟩
  refine D.item i s _ _ hlt ⟨⟨old,x⟩,hi,y⟩ fun T vals h₁ tk hP hT hI hM hk=>⟨_,rfl,?_⟩
  obtain⟨S₁,k₁⟩:=S.turnS (tk:=tk) f th hk
  have hM':=id hM
  obtain⟨⟨_,x₁⟩,⟨_,y₁⟩,n1,n2⟩:=hM'
  have th₁:∀b∈[e,it],∀o,h₁.get? b=some o→(∃n,o.cls=.type n∧n ≠ "tuple")∧(∃vs,o.data=.fields vs):=two_th x₁ y₁ ⟨⟨_,rfl,by decide⟩,_,rfl⟩ ⟨⟨_,rfl,by decide⟩,_,rfl⟩
  refine D.go es k p i T { s with heap:=h₁,toks:=tk } _ _ hM fun h₂ hS₂ hk₂=>?_
  obtain⟨S₂,k₂⟩:=S₁.turnS (tk:=tk) f th₁ hk₂
  obtain⟨⟨old',x₂⟩,_,y₂⟩:=hS₂
  obtain⟨o,ho,hc,m,hd⟩:=hI
  obtain⟨t1,v1,⟨t2,rfl⟩,rfl⟩:=hP
  refine⟨S₂,k₁.trans k₂,?_,i+1,old',by exact hM.2.1.1,by simpa using x₂,y₂,rfl⟩
  exact Rep.tup (W:=W) (hk₂ T o (by simp [n1,n2]) ho) hc hd (Nat.le_of_ble_eq_true rfl) (.cons (.int _ _) (.cons (.int _ _) .nil)) (S.noScr (Heap.get?_none_of_le hT))
 fin:=fun c P ρ H s E hA S f ok ⟨i,old,hi,x,y,e'⟩=>by
  have hge:i=n:=by
   rcases Nat.lt_or_ge i n with q | q
   ·rw[List.drop_eq_getElem_cons (by simpa using q)] at e';cases e'
   ·exact lQ [] [_,_] (.n 0) (.n 1) [.L (.n 1) (.n 0),.L (.n 0) (.n 1)] [1,1,0] [1,0,1] rfl q hi
  subst hge
  have D:=WalksT.enumerateD (A:=A) (draws_range (prog:=W.prog) (w:=W.w) (A:=A.in1) hh it a st i) e hne (by simpa using hne) (by simp)
  have th:∀b∈[e,it],∀o,s.heap.get? b=some o→(∃n,o.cls=.type n∧n ≠ "tuple")∧(∃vs,o.data=.fields vs):=two_th x y ⟨⟨_,rfl,by decide⟩,_,rfl⟩ ⟨⟨_,rfl,by decide⟩,_,rfl⟩
  refine D.done s _ _ ⟨⟨old,x⟩,hi,y⟩ fun h₁ tk hk=>⟨rfl,S.turnS (tk:=tk) f th hk⟩
 self:=fun its s Q E ⟨i,old,hi,x,y,e'⟩ h=>by
  have D:=WalksT.enumerateD (A:=A) (draws_range (prog:=W.prog) (w:=W.w) (A:=A.in1) hh it a st n) e hne (by simpa using hne) (by simp)
  exact D.self i s Q E ⟨⟨old,x⟩,hi,y⟩ h
end
end Mine
end

section
set_option maxRecDepth 100000
namespace Mine
open PySem PySem.W PySem.Calls PyProof.Rows PySem.SeqAt
open AutoSeq1 (wpAny_loadPart')

set_option tactic.hygienic true in
theorem meets_enum_range (r:Addr) (a b c:Int) (t u v:Tok) (hs:Builtin.Range.small a b c=true) :
  Meets (Builtin.«enumerate.__new__» ⟨[.type "enumerate",.ref r],[]⟩) (fun ξ R s=>IsRange s.heap r a b c t u v ∧
   R (.ok (.ret (.ref (s.heap.push { cls:=.type "range_iterator",data:=.fields #[rawInt a,rawInt (Builtin.Range.rangeSize a b c),rawInt c] }).objs.size)))
    { s with heap:=(s.heap.push { cls:=.type "range_iterator",data:=.fields #[rawInt a,rawInt (Builtin.Range.rangeSize a b c),rawInt c] }).push { cls:=.type "enumerate",data:=.fields #[.none,.bool false,.ref s.heap.objs.size,rawInt 0,.none,.none] } }) :=
 .of_wp fun prog w A R s h=>by
  obtain⟨hp,g,d,tk,os⟩:=s;obtain⟨hl,h⟩:=h
  have hsub:=sub_enumerate
  have hL:IsRange (Shared.heap ⟨hp,g,d,tk,os⟩) r a b c t u v:=hl
  wp_walk using wpAny_loadPart' hl
  refine wpAny_stack_any fun st=>wpAny_pure ?_
  split
  ·rename_i c _ _ _ _ _
   cases (c == Value.type "enumerate")
   ·wp_walk using wpAny_loadPart' hl,wpAny_pyIter_range hL hs
    exact⟨_,rfl,h⟩
   ·wp_walk using wpAny_loadPart' hl,wpAny_pyIter_range hL hs
    exact⟨_,rfl,h⟩
  ·wp_walk using wpAny_loadPart' hl,wpAny_pyIter_range hL hs
   exact⟨_,rfl,h⟩
section
variable {prog:Program}{w:World}{A:Around}{E:Value→Shared→Prop}{s:Shared}
theorem call_enum_range {r:Addr}{a b c:Int}{t u v:Tok}{Q:Value→Shared→Prop} (hr:IsRange s.heap r a b c t u v) (hs:Builtin.Range.small a b c=true)
  (h:∀h',IsEnum h' (s.heap.objs.size+1) s.heap.objs.size 0 .none→IsRangeIter h' s.heap.objs.size a (Builtin.Range.rangeSize a b c) c →
   (∀b o,s.heap.get? b=some o→h'.get? b=some o)→Q (.ref (s.heap.objs.size+1)) { s with heap:=h' }) :
  wpAny (model prog w) A (call (.type "enumerate") [.ref r]) Q E s:=by
 refine callType_new F.called_enumerate (by decide) (F.typeCall_enumerate_1 _) (F.newCall_enumerate_1 _) (fun obj=>F.args_object_init_2 obj _) F.entry_enumerate_new
  (meets_enum_range r a b c t u v hs) ⟨hr,?_⟩
 have hz:(s.heap.push { cls:=.type "range_iterator",data:=.fields #[rawInt a,rawInt (Builtin.Range.rangeSize a b c),rawInt c] }).objs.size=s.heap.objs.size+1:=Heap.size_push ..
 show _∧_
 rw[hz]
 have he:IsEnum ((s.heap.push { cls:=.type "range_iterator",data:=.fields #[rawInt a,rawInt (Builtin.Range.rangeSize a b c),rawInt c] }).push
   { cls:=.type "enumerate",data:=.fields #[.none,.bool false,.ref s.heap.objs.size,rawInt 0,.none,.none] }) (s.heap.objs.size+1) s.heap.objs.size 0 .none:=by
  have:=Heap.get?_push_size (s.heap.push { cls:=.type "range_iterator",data:=.fields #[rawInt a,rawInt (Builtin.Range.rangeSize a b c),rawInt c] })
   (o:={ cls:=.type "enumerate",data:=.fields #[.none,.bool false,.ref s.heap.objs.size,rawInt 0,.none,.none] }) rfl
  rw[hz] at this;exact this
 exact⟨⟨_,he,rfl⟩,h _ he (Heap.get?_push_of_some _ (Heap.get?_push_size _ rfl)) fun b o x=>Heap.get?_push_of_some _ (Heap.get?_push_of_some _ x)⟩
end
section
variable {W:Wd}{T:Tx W}{c:Cx}{K:Kc}{hd:Bool}{G:Gl}
theorem iter_enum {P:Addr→Obj→Prop}{ρ:Loc}{H:Hp}{s:Shared}{KK:List It→List (Addr×Ob)→Hp→Prop}{E:Value→Shared→Prop}{a b st:Int}{t u v:Tok}{r:Addr} (hh:c.A.handled=none) (S:Sim W c P ρ H s) (hr:IsRange s.heap r a b st t u v) (hs:Builtin.Range.small a b st=true)
  (hz:Builtin.Range.rangeSize a b st=(turns a b st:Nat)) (q:∃js,enumL 0 (rangeL a st (turns a b st))=some js∧KK js [] H) :
  wpAny (model W.prog W.w) c.A (call (.type "enumerate") [.ref r]) (fun xv s₁=>wpAny (model W.prog W.w) c.A (pyIter xv) (Itr W c P ρ KK) E s₁) E s:=by
 obtain⟨js,ej,q⟩:=q
 rw[enumL_range] at ej
 cases ej
 refine call_enum_range hr hs fun h' he hi hk=>?_
 have hne:s.heap.objs.size+1≠s.heap.objs.size:=by exact lf [] [_] [.E (.a (.n 0) (.c 1)) (.n 0)] [1] rfl
 have O:=itok_enum (W:=W) (A:=c.A) hh (s.heap.objs.size+1) s.heap.objs.size hne a st (turns a b st)
 have R0:EnumI (s.heap.objs.size+1) s.heap.objs.size a st (turns a b st) ((List.range (turns a b st)).map fun (j:Nat)=>It.p (.int (0+(j:Int))) (.int (a+(j:Int)*st))) h':=by
  refine⟨0,_,Nat.zero_le _,he,?_,?_⟩
  ·rw[hz] at hi;simpa using hi
  ·simp
 refine O.self _ { s with heap:=h' } _ _ R0 ⟨s.heap.objs.size+1,_,_,_,_,H,W.scr,rfl,O,R0,S.grow (tk:=s.toks) hk,fun b hb=>?_,q⟩
 simp only[List.mem_cons,List.not_mem_nil,or_false] at hb
 rcases hb with rfl | rfl
 ·exact S.free (Heap.get?_none_of_le (by exact lA [] [_] (.n 0) (.a (.n 0) (.c 1)) [] [1] rfl))
 ·exact S.free (size_none _)
theorem ss_enumR3 {a b d x y z q p q' p'} (C:CxOk T c K hd) (g0:K.gl (Str.ofString "enumerate")=true) (g:K.gl (Str.ofString "range")=true) (m:Pl x) (m':Pl y) (m'':Pl z) (h1:SE W c G hd a x) (h2:SE W c G hd b y) (h3:SE W c G hd d z) :
  SS W c G hd (.enum (.range3 a b d)) (.Call (.Name (Str.ofString "enumerate") q') [.Call (.Name (Str.ofString "range") q) [x,y,z] [] p] [] p'):=fun P ρ H s KK X hf S w=>by
 rw[qSr_enum,qSr_range3] at w
 refine wpAny_Call_Name_kw (sound_builtin C S g0 T.enm ?_)
 refine PySem.callWith_type rfl (evalArgs_plain (spliced_cons ?_))
 refine wpAny_Call_Name_kw (sound_builtin C S g T.rng ?_)
 rw[m.star,m'.star,m''.star]
 refine PySem.callWith_type rfl (evalArgs_plain (spliced_cons (wpAny_mono (h1.two h2 S w) (fun u s₁ h₁=>spliced_cons (wpAny_mono h₁ (fun u' s₂ ⟨v,v',H₂,S₂,r,r',q⟩=>spliced_cons (wpAny_mono (h3.max S₂ q) (fun u'' s₃ ⟨k,v'',H₃,S₃,r'',q⟩=>spliced_nil ?_) fun ξ ξ x=>x)) fun ξ ξ x=>x)) fun ξ ξ x=>x)))
 have r:=r.mono k
 have r':=r'.mono k
 obtain⟨lo,rfl,q1⟩:=int1_inv q
 obtain⟨hi,st,t,t',rfl,rfl,hl,hn,hs,h0,q2⟩:=int2_inv q1 r' r''
 obtain⟨t₀,rfl⟩:=r
 refine call_range_3 h0 ?_ (.inl ?_)
 ·refine spliced_nil ?_
  exact iter_enum (s:={ s₃ with heap:=s₃.heap.push { cls:=.type "range",data:=.fields #[.int _ _,.int _ _,.int _ _] },toks:=s₃.toks }) (C.hand hf) (S₃.grow fun b o e=>Heap.get?_push_of_some _ e) (IsRange.new ..) (small_of hl hn hs h0) (turns_size h0) q2
 ·refine PyProof.noPylong_of_log2 ?_
  unfold Ix at hs
  refine (Nat.log2_lt (by omega)).mpr (Nat.lt_of_lt_of_le (m:=2 ^ 62) (by omega) (Nat.pow_le_pow_right (by decide) (by decide)))
end
end Mine
end

section
set_option maxRecDepth 100000
namespace Mine
open PySem PySem.W PySem.Calls PyProof.Rows PySem.SeqAt
section
variable {W:Wd}{A:Around}
theorem TupAt.of {h:Heap}{T:Addr}{a b:Value} (p:IsPair h T a b):TupAt h T:=⟨_,_,_,p,rfl,rfl⟩
inductive ZipI (z TI TO i1 i2 l1 l2:Addr) (xs ys:List V) (its:List It) (h:Heap):Prop
 | mk (i:Nat) (a b:Value) (hz:IsZip h z TI TO .none) (hI:IsPair h TI (.ref i1) (.ref i2)) (hO:IsPair h TO a b) (h1:h.IsListIter i1 l1 i) (h2:h.IsListIter i2 l2 i) (e:its=zipL (xs.drop i) (ys.drop i))
theorem zipL_cons {xs ys:List V}{i:Nat}{it:It}{its:List It} (e:it :: its=zipL (xs.drop i) (ys.drop i)) :
  ∃x y,xs[i]?=some x∧ys[i]?=some y∧it=.p x y∧its=zipL (xs.drop (i+1)) (ys.drop (i+1)):=by
 rcases Nat.lt_or_ge i xs.length with q | q
 ·rcases Nat.lt_or_ge i ys.length with q' | q'
  ·rw[List.drop_eq_getElem_cons q,List.drop_eq_getElem_cons q'] at e
   cases e
   exact⟨_,_,List.getElem?_eq_getElem q,List.getElem?_eq_getElem q',rfl,rfl⟩
  ·rw[List.drop_eq_nil_of_le q',List.drop_eq_getElem_cons q] at e;cases e
 ·rw[List.drop_eq_nil_of_le q] at e;cases e
theorem zipL_nil {xs ys:List V}{i:Nat} (e:[]=zipL (xs.drop i) (ys.drop i)):xs.length≤i∨ys.length≤i:=by
 rcases Nat.lt_or_ge i xs.length with q | q
 ·rcases Nat.lt_or_ge i ys.length with q' | q'
  ·rw[List.drop_eq_getElem_cons q,List.drop_eq_getElem_cons q'] at e;cases e
  ·exact .inr q'
 ·exact .inl q
theorem zip_rec {h:Heap}{z TI TO i1 i2 l1 l2:Addr}{f0 a b:Value}{k1 k2:Nat} (s1:W.scr TI) (s2:W.scr TO) (hz:IsZip h z TI TO f0) (hI:IsPair h TI (.ref i1) (.ref i2)) (hO:IsPair h TO a b) (h1:h.IsListIter i1 l1 k1) (h2:h.IsListIter i2 l2 k2) :
  ∀x∈[z,TI,TO,i1,i2],∃o,h.get? x=some o∧ItRec W x o:=fun x hx=>by
 simp only[List.mem_cons,List.not_mem_nil,or_false] at hx
 rcases hx with rfl | rfl | rfl | rfl | rfl
 ·exact⟨_,hz,.of ⟨⟨_,rfl,by decide⟩,_,rfl⟩⟩
 ·exact⟨_,hI,_,rfl,fun ξ=>s1,by exact nofun,by exact nofun⟩
 ·exact⟨_,hO,_,rfl,fun ξ=>s2,by exact nofun,by exact nofun⟩
 ·obtain⟨o,e,hc,hd⟩:=h1;exact⟨o,e,.of ⟨⟨_,hc,by decide⟩,_,hd⟩⟩
 ·obtain⟨o,e,hc,hd⟩:=h2;exact⟨o,e,.of ⟨⟨_,hc,by decide⟩,_,hd⟩⟩
theorem not_mem5 {x z TI TO i1 i2:Addr} (h:x∉[z,TI,TO,i1,i2]):x≠z∧x≠TO∧x≠i1∧x≠i2:=by
 simp only[List.mem_cons,List.not_mem_nil,or_false,not_or] at h
 exact⟨h.1,h.2.2.1,h.2.2.2.1,h.2.2.2.2⟩
theorem itok_zip (hh:A.handled=none) {Z:Addr→Prop} (sub:∀b,W.scr b→Z b) {z TI TO i1 i2 l1 l2:Addr} (D:ZipApart z TI TO i1 i2 l1 l2) (s1:Z TI) (s2:Z TO) (n1:¬W.scr TI) (n2:¬W.scr TO) (xs ys:List V) :
  ItOk W Z A z [z,TI,TO,i1,i2] [(l1,.list xs),(l2,.list ys)] (ZipI z TI TO i1 i2 l1 l2 xs ys) where
 sub:=sub
 frame:=fun its h h' ⟨i,a,b,hz,hI,hO,h1,h2,e⟩ k=>⟨i,a,b,k z (by simp) _ hz,k TI (by simp) _ hI,k TO (by simp) _ hO,h1.at fun o q=>k i1 (by simp) o q,h2.at fun o q=>k i2 (by simp) o q,e⟩
 there:=fun its h ⟨i,a,b,hz,hI,hO,h1,h2,e⟩=>zip_rec (W:=W.z Z) s1 s2 hz hI hO h1 h2
 item:=fun c P ρ H s it its tx E hA S f ok ⟨i,a,b,hz,hI,hO,h1,h2,e⟩ t=>by
  obtain⟨x,y,ex,ey,rfl,rfl⟩:=zipL_cons e
  obtain⟨es,k,p,rfl⟩:=t
  obtain⟨_,it1,m1,g1,r1⟩:=S.heap _ _ (ok (l1,.list xs) (by simp))
  obtain⟨_,it2,m2,g2,r2⟩:=S.heap _ _ (ok (l2,.list ys) (by simp))
  obtain⟨u,eu,ru⟩:=r1.get ex
  obtain⟨v,ev,rv⟩:=r2.get ey
  have th:∀b∈[z,TI,TO,i1,i2],∀o,s.heap.get? b=some o→ItRec (W.z Z) b o:=fun b hb o eo=>by
   obtain⟨o',eo',q⟩:=zip_rec (W:=W.z Z) s1 s2 hz hI hO h1 h2 b hb
   rw[eo] at eo';cases eo';exact q
  have nz:s.heap.objs.size≠z:=Nat.ne_of_gt (Heap.lt_size hz)
  refine wpAny_pyNext_zip_item D hz hI hO h1 h2 (xs:=it1) (ys:=it2) ⟨_,g1,rfl,m1,rfl⟩ ⟨_,g2,rfl,m2,rfl⟩ (by simpa using eu) (by simpa using ev) fun h' a1 a2 a3 a4 a5 a6 hk=>⟨_,rfl,?_⟩
  have hI':IsPair h' TI (.ref i1) (.ref i2):=hk _ _ D.TIz D.TITO D.TIi1 D.TIi2 hI
  have ht:∀b∈[z,TI,TO,i1,i2],(W.z Z).scr b→TupAt s.heap b→TupAt h' b:=fun b hb ξ tb=>by
   simp only[List.mem_cons,List.not_mem_nil,or_false] at hb
   rcases hb with rfl | rfl | rfl | rfl | rfl
   ·obtain⟨o,_,_,eo,_,hd⟩:=tb;rw[hz] at eo;cases eo;cases hd
   ·exact .of hI'
   ·exact .of a2
   ·obtain⟨o,_,_,eo,_,hd⟩:=tb;obtain⟨o',eo',_,hd'⟩:=h1;rw[eo] at eo';cases eo';rw[hd] at hd';cases hd'
   ·obtain⟨o,_,_,eo,_,hd⟩:=tb;obtain⟨o',eo',_,hd'⟩:=h2;rw[eo] at eo';cases eo';rw[hd] at hd';cases hd'
  obtain⟨S₁,k₁⟩:=Sim.turnZ (W:=W.z Z) (z:=Z) (h':=h') (tk:=s.toks) (fun ξ q=>q) S f th ht fun b o hb eo=>by obtain⟨q1,q2,q3,q4⟩:=not_mem5 hb;exact hk b o q1 q2 q3 q4 eo
  refine wpAny_letOwnedTupleGo_zip (s:={ s with heap:=h' }) a1 fun h'' hz'' hs''=>?_
  obtain⟨S₂,k₂⟩:=S₁.turn (tk:=s.toks) (h':=h'') (f z (by simp)) a1 ⟨_,rfl,by decide⟩ ⟨_,rfl⟩ fun b o q eo=>hs''.extBut b o q eo
  have kk:=k₁.trans k₂
  refine⟨S₂,kk,?_,i+1,u,v,hz'',hs''.extBut _ _ D.TIz hI',hs''.extBut _ _ D.TOz a2,a3.extBut hs''.extBut D.i1z,a4.extBut hs''.extBut D.i2z,rfl⟩
  exact Rep.tup (W:=W.z Z) (hs''.extBut _ _ nz a5) rfl rfl (Nat.le_of_ble_eq_true rfl) (.cons (ru.mono kk) (.cons (rv.mono kk) .nil)) (S.noScr (size_none _))
 fin:=fun c P ρ H s E hA S f ok ⟨i,a,b,hz,hI,hO,h1,h2,e⟩=>by
  obtain⟨_,it1,m1,g1,r1⟩:=S.heap _ _ (ok (l1,.list xs) (by simp))
  obtain⟨_,it2,m2,g2,r2⟩:=S.heap _ _ (ok (l2,.list ys) (by simp))
  have th:∀b∈[z,TI,TO,i1,i2],∀o,s.heap.get? b=some o→ItRec (W.z Z) b o:=fun b hb o eo=>by
   obtain⟨o',eo',q⟩:=zip_rec (W:=W.z Z) s1 s2 hz hI hO h1 h2 b hb
   rw[eo] at eo';cases eo';exact q
  have hend:it1[i]?=none∨it2[i]?=none:=by
   rcases zipL_nil e with q | q
   ·exact .inl (Array.getElem?_eq_none (by rw[r1.size];exact q))
   ·exact .inr (Array.getElem?_eq_none (by rw[r2.size];exact q))
  refine wpAny_pyNext_zip_end hh D hz hI hO h1 h2 (xs:=it1) (ys:=it2) ⟨_,g1,rfl,m1,rfl⟩ ⟨_,g2,rfl,m2,rfl⟩ hend fun h' hk=>⟨rfl,?_⟩
  refine Sim.turnZ (W:=W) (z:=Z) (tk:=s.toks) sub S f th (fun b hb w tb=>?_) fun b o hb eo=>by obtain⟨q1,q2,q3,q4⟩:=not_mem5 hb;exact hk b o q1 q2 q3 q4 eo
  simp only[List.mem_cons,List.not_mem_nil,or_false] at hb
  rcases hb with rfl | rfl | rfl | rfl | rfl
  ·obtain⟨o,_,_,eo,_,hd⟩:=tb;rw[hz] at eo;cases eo;cases hd
  ·exact (n1 w).elim
  ·exact (n2 w).elim
  ·obtain⟨o,_,_,eo,_,hd⟩:=tb;obtain⟨o',eo',_,hd'⟩:=h1;rw[eo] at eo';cases eo';rw[hd] at hd';cases hd'
  ·obtain⟨o,_,_,eo,_,hd⟩:=tb;obtain⟨o',eo',_,hd'⟩:=h2;rw[eo] at eo';cases eo';rw[hd] at hd';cases hd'
 self:=fun its s Q E ⟨i,a,b,hz,hI,hO,h1,h2,e⟩ h=>wpAny_pyIter_zip hz h
end
section
variable {W:Wd}{T:Tx W}{c:Cx}{K:Kc}{hd:Bool}{G:Gl}
theorem iter_zip {P:Addr→Obj→Prop}{ρ:Loc}{H:Hp}{s:Shared}{KK:List It→List (Addr×Ob)→Hp→Prop}{E:Value→Shared→Prop}{l1 l2:Addr}{xs ys:List V} (hh:c.A.handled=none) (S:Sim W c P ρ H s) (e1:H l1=some (.list xs)) (e2:H l2=some (.list ys)) (q:KK (zipL xs ys) [(l1,.list xs),(l2,.list ys)] H) :
  wpAny (model W.prog W.w) c.A (call (.type "zip") [.ref l1,.ref l2]) (fun xv s₁=>wpAny (model W.prog W.w) c.A (pyIter xv) (Itr W c P ρ KK) E s₁) E s:=by
 obtain⟨_,it1,m1,g1,r1⟩:=S.heap _ _ e1
 obtain⟨_,it2,m2,g2,r2⟩:=S.heap _ _ e2
 refine call_zip_2 (xs:=it1) (ys:=it2) ⟨_,g1,rfl,m1,rfl⟩ ⟨_,g2,rfl,m2,rfl⟩ fun h' hz hI hO h1 h2 hsz hk=>?_
 have b1:l1<s.heap.objs.size:=Heap.lt_size g1
 have b2:l2<s.heap.objs.size:=Heap.lt_size g2
 have fr:∀k,s.heap.get? (s.heap.objs.size+k)=none:=fun k=>Heap.get?_none_of_le (Nat.le_add_right ..)
 have D:ZipApart (s.heap.objs.size+4) (s.heap.objs.size+2) (s.heap.objs.size+3) s.heap.objs.size (s.heap.objs.size+1) l1 l2:=zipApart_new b1 b2
 let Z:Addr→Prop:=fun b=>W.scr b∨b=s.heap.objs.size+2∨b=s.heap.objs.size+3
 have S':Sim (W.z Z) c P ρ H { s with heap:=h' }:=by
  refine S.growZ (z:=Z) (tk:=s.toks) (fun b o i n eb ξ ξ w q=>?_) (fun b q=>?_) hk
  ·rcases q with q | q | q
   ·exact w q
   ·rw[q,fr 2] at eb;cases eb
   ·rw[q,fr 3] at eb;cases eb
  ·rcases q with q | q | q
   ·exact (S.scr b q).at fun o e ξ ξ=>hk b o e
   ·rw[q];exact .of hI
   ·rw[q];exact .of hO
 have O:=itok_zip (W:=W) (A:=c.A) hh (Z:=Z) (fun b q=>.inl q) D (.inr (.inl rfl)) (.inr (.inr rfl)) (S.noScr (fr 2)) (S.noScr (fr 3)) xs ys
 have R0:ZipI (s.heap.objs.size+4) (s.heap.objs.size+2) (s.heap.objs.size+3) s.heap.objs.size (s.heap.objs.size+1) l1 l2 xs ys (zipL xs ys) h':=⟨0,_,_,hz,hI,hO,h1,h2,rfl⟩
 refine O.self _ { s with heap:=h' } _ _ R0 ⟨s.heap.objs.size+4,_,_,_,_,H,Z,rfl,O,R0,S',fun b hb=>?_,q⟩
 simp only[List.mem_cons,List.not_mem_nil,or_false] at hb
 rcases hb with rfl | rfl | rfl | rfl | rfl
 ·exact S.free (fr 4)
 ·exact S.free (fr 2)
 ·exact S.free (fr 3)
 ·exact S.free (fr 0)
 ·exact S.free (fr 1)
theorem ss_zip {a b x y q p} (C:CxOk T c K hd) (g:K.gl (Str.ofString "zip")=true) (m:Pl x) (m':Pl y) (h1:SE W c G hd a x) (h2:SE W c G hd b y):SS W c G hd (.zip a b) (.Call (.Name (Str.ofString "zip") q) [x,y] [] p):=fun P ρ H s KK X hf S w=>by
 replace w:=qSr_zip.mp w
 refine wpAny_Call_Name_kw (sound_builtin C S g T.zip ?_)
 rw[m.star,m'.star]
 refine PySem.callWith_type rfl (evalArgs_plain (spliced_cons (wpAny_mono (h1.two h2 S w) (fun u s₁ h₁=>spliced_cons (wpAny_mono h₁ (fun u' s₂ ⟨v,v',H₂,S₂,r,r',q⟩=>spliced_nil ?_) fun ξ ξ x=>x)) fun ξ ξ x=>x)))
 obtain⟨l1,rfl,q1⟩:=ref1_inv q
 obtain⟨l2,rfl,xs,ys,e1,e2,q2⟩:=ref1_inv q1
 cases r;cases r'
 exact iter_zip (C.hand hf) S₂ e1 e2 q2
end
end Mine
end

section
namespace Mine
open PySem PySem.W PySem.Calls PyProof.Rows PySem.SeqAt
section
variable {W:Wd}{T:Tx W}{c:Cx}{K:Kc}{hd:Bool}{G:Gl}

inductive Bind2 (i j:Nat) (it:It) (ρ ρ':Loc):Prop
 | p (x y:V) (hi:it=.p x y) (hr:ρ'=(ρ.set i (some x)).set j (some y))
 | v (x y:V) (hi:it=.v (.tup [x,y])) (hr:ρ'=(ρ.set i (some x)).set j (some y))
theorem bind2_inv {i j:Nat}{it:It}{ρ ρ':Loc} (b:bindT (.two i j) it ρ=some ρ'):Bind2 i j it ρ ρ':=by
 cases it with
 | p x y=>exact .p x y rfl (Option.some.inj b).symm
 | v z =>
  cases z with
  | tup l =>
   cases l with
   | nil=>cases b
   | cons x l=>cases l with
    | nil=>cases b
    | cons y l=>cases l with
     | nil=>exact .v x y rfl (Option.some.inj b).symm
     | cons _ _=>cases b
  | _=>cases b
set_option tactic.hygienic true in
theorem sound_assign {t:Tg}{tx:Expr}{it:It}{v:Value}{P:Addr→Obj→Prop}{ρ ρ':Loc}{H:Hp}{s:Shared}{E:Value→Shared→Prop}{Q:Unit→Shared→Prop} (C:CxOk T c K hd) (hh:c.A.handled=none) (S:Sim W c P ρ H s) (m:MTg K t tx) (b:bindT t it ρ=some ρ') (r:RepIt W s.heap it v)
  (h:∀s',Sim W c P ρ' H s'→KeepR W s.heap s'.heap→Q () s'):wpAny (model W.prog W.w) c.A (assign tx c.env v) Q E s:=by
 cases m with
 | one g =>
  cases it with
  | p _ _=>cases b
  | v x =>
   cases b
   exact wpAny_assign_Name (sound_store C S g r h)
 | two g1 g2 =>
  rename_i i j _ _ _ _ _ _
  have r':∃x y,Rep W s.heap (.tup [x,y]) v∧ρ'=(ρ.set i (some x)).set j (some y):=by
   cases bind2_inv b with
   | p x y hi hr=>subst hi;exact⟨x,y,r,hr⟩
   | v x y hi hr=>subst hi;exact⟨x,y,r,hr⟩
  obtain⟨x,y,r',rfl⟩:=r'
  obtain⟨a,o,items,n,rfl,e,k,d,l,rs⟩:=r'.tupR
  obtain⟨u1,u2,e2,r1,r2⟩:=rs.two
  have hs:items.size=2:=by rw[←Array.length_toList,e2];rfl
  refine wpAny_assign_Tuple hh (items:=items) ⟨_,e,k,n,d⟩ (by rw[hs];rfl) rfl fun h' hx=>?_
  have hk:∀b o,s.heap.get? b=some o→h'.get? b=some o:=fun b o e=>hx b o (fun q=>by rw[q,size_none] at e;cases e) e
  have S₁:Sim W c P ρ H { s with heap:=h' }:=S.grow (tk:=s.toks) hk
  rw[e2]
  show wpAny _ _ (assignInOrder [assign (.Name _ _) c.env,assign (.Name _ _) c.env] [u1,u2]) _ _ _
  refine wpAny_assignInOrder_more (wpAny_assign_Name (sound_store C S₁ g1 (r1.mono (.of_keeps hk)) fun s₂ S₂ k₂=>?_))
  refine wpAny_assignInOrder_more (wpAny_assign_Name (sound_store C S₂ g2 (r2.mono ((KeepR.of_keeps hk).trans k₂)) fun s₃ S₃ k₃=>?_))
  exact wpAny_assignInOrder_none (h s₃ S₃ (((KeepR.of_keeps hk).trans k₂).trans k₃))

theorem cOk_spec {scope:Scope}{t:Tg} (h:cOk K scope t=true):scope.kind=.function∧(∀y∈scope.names,y.2≠.cell)∧(∀y∈scope.names,y.2=.local→scope.names.lookup y.1=some .local)∧(∀y∈scope.names,y.2=.free→K.sc.names.lookup y.1=some .cell) ∧
  (∀i x,K.names[i]?=some x→scope.names.lookup (Str.ofString x)=some .local→i∈t.slots):=by
 unfold cOk at h
 simp only[Bool.and_eq_true,beq_iff_eq,List.all_eq_true] at h
 obtain⟨⟨h1,h2⟩,h3⟩:=h
 refine⟨h1,fun y hy=>?_,fun y hy q=>?_,fun y hy q=>?_,fun i x e q=>?_⟩
 ·have:=(h2 y hy).1.1;simpa using this
 ·have:=(h2 y hy).1.2;simpa [q] using this
 ·have:=(h2 y hy).2;simpa [q] using this
 ·have hi:i<K.names.length:=by
   rcases Nat.lt_or_ge i K.names.length with z | z
   ·exact z
   ·rw[List.getElem?_eq_none z] at e;cases e
  have:=h3 i (List.mem_range.mpr hi)
  simp only[e,q] at this
  simpa using this

theorem lookup_mem {names:List (Str×NameKind)}{x:Str}{k:NameKind} (h:names.lookup x=some k):(x,k)∈names:=by
 induction names with
 | nil=>cases h
 | cons p r ih =>
  obtain⟨n,k'⟩:=p
  rw[List.lookup_cons] at h
  cases q:x == n with
  | true=>rw[q] at h;cases h;rw[beq_iff_eq.mp q];exact .head _
  | false=>rw[q] at h;exact .tail _ (ih h)

theorem closure_go {env:Env}:∀(names:List (Str×NameKind)) (cs:List (Str×Addr)),(∀y∈names,y.2=.free→∃a,env.cells.lookup y.1=some a)→(∀x a,cs.lookup x=some a→env.cells.lookup x=some a) →
  ∃cl,(forIn names cs fun (x:Str×NameKind) (r:List (Str×Addr))=>(do if x.2 == .free then pure (ForInStep.yield ((x.1,←cellOf env x.1) :: r)) else pure (ForInStep.yield r):Sem _))=pure cl∧(∀x a,cl.lookup x=some a→env.cells.lookup x=some a)∧(∀x a,cs.lookup x=some a→cl.lookup x=some a)∧(∀y∈names,y.2=.free→∃a,cl.lookup y.1=some a)
 | [],cs,_,h=>⟨cs,rfl,h,fun ξ ξ e=>e,fun ξ h=>by cases h⟩
 | (n,k) :: r,cs,hf,h=>by
  by_cases hk:k=.free
  ·subst hk
   obtain⟨a,ha⟩:=hf (n,.free) (.head _) rfl
   obtain⟨cl,e1,e2,e3,e4⟩:=closure_go r ((n,a) :: cs) (fun y hy=>hf y (.tail _ hy)) (fun x b e=>by
    rw[List.lookup_cons] at e
    cases q:x == n with
    | true=>rw[q] at e;cases e;rw[beq_iff_eq.mp q];exact ha
    | false=>rw[q] at e;exact h x b e)
   have hn:cl.lookup n=some a:=e3 n a (by rw[List.lookup_cons,beq_self_eq_true])
   refine⟨cl,?_,e2,fun x b e=>?_,fun y hy q=>?_⟩
   ·rw[List.forIn_cons,←e1]
    simp only[beq_self_eq_true,if_true]
    unfold cellOf
    rw[ha]
    rfl
   ·by_cases q:x=n
    ·subst q
     have:=h x b e
     rw[ha] at this;cases this;exact hn
    ·exact e3 x b (by rw[List.lookup_cons,beq_eq_false_iff_ne.mpr q];exact e)
   ·rcases List.mem_cons.mp hy with rfl | hy
    ·exact⟨a,hn⟩
    ·exact e4 y hy q
  ·obtain⟨cl,e1,e2,e3,e4⟩:=closure_go r cs (fun y hy=>hf y (.tail _ hy)) h
   refine⟨cl,?_,e2,e3,fun y hy q=>?_⟩
   ·rw[List.forIn_cons,←e1]
    simp only[beq_eq_false_iff_ne.mpr hk,Bool.false_eq_true,if_false]
    rfl
   ·rcases List.mem_cons.mp hy with rfl | hy
    ·exact absurd q hk
    ·exact e4 y hy q
theorem closure_of {scope:Scope}{t:Tg} (C:CxOk T c K hd) (h:cOk K scope t=true):∃cl,closureFor scope c.env=pure cl∧(∀x a,cl.lookup x=some a→c.env.cells.lookup x=some a)∧(∀x,scope.names.lookup x=some .free→∃a,cl.lookup x=some a):=by
 obtain⟨h1,h2,h3,h4,h5⟩:=cOk_spec h
 obtain⟨cl,e1,e2,e3,e4⟩:=closure_go (env:=c.env) scope.names [] (fun y hy q=>C.cellKind _ (by unfold Env.kindOf;rw[C.sc];exact h4 y hy q)) (fun x a e=>by cases e)
 refine⟨cl,?_,e2,fun x e=>e4 (x,.free) (lookup_mem e) rfl⟩
 unfold closureFor
 show (forIn scope.names [] _ >>= pure)=pure cl
 rw[show (fun (x:Str×NameKind) (r:List (Str×Addr))=>(match x with | (name,kind)=>if (kind == NameKind.free)=true then (do let __do_lift ←cellOf c.env name;pure (ForInStep.yield ((name,__do_lift) :: r))) else pure (ForInStep.yield r):Sem (ForInStep (List (Str×Addr)))))=(fun x r=>do if x.2 == .free then pure (ForInStep.yield ((x.1,←cellOf c.env x.1) :: r)) else pure (ForInStep.yield r)) from rfl,e1]
 rfl
end
end Mine
end

section
namespace Mine
open PySem PySem.W PySem.Calls PyProof.Rows PySem.SeqAt
section
variable {W:Wd}{T:Tx W}{c:Cx}{K:Kc}{hd:Bool}{G:Gl}

noncomputable def Cx.comp (c:Cx) (K:Kc) (scope:Scope) (cl:List (Str×Addr)) (C:Addr) (m:Str→Option Value):Cx :=
 { A:=c.A,env:=compEnvC scope cl C c.env,fenvs:=c.fenvs,names:=c.names,vis:=(K.comp scope).vis,own:=[C],outer:=(c.env.locals,m) :: c.outer }
noncomputable def PC (c:Cx) (H:Hp) (h:Heap) (ad:List Addr):Addr→Obj→Prop:=fun b o=>h.get? b=some o∧H b=none∧b∉c.frs∧b∉ad

theorem relabel_lookup {scope outer:Scope}{x:Str}:(relabelS scope outer).names.lookup x=(scope.names.lookup x).map fun k=>if (k == .free && outer.kind == .function && outer.names.lookup x == some .cell) then .cell else k:=by
 unfold relabelS
 dsimp only
 induction scope.names with
 | nil=>rfl
 | cons p r ih =>
  obtain⟨n,k⟩:=p
  have key:∀k':NameKind,(x,k')=(x,k'):=fun ξ=>rfl
  by_cases hc:(k == .free && outer.kind == .function && outer.names.lookup n == some .cell)=true
  ·rw[List.map_cons]
   simp only[hc,if_true]
   rw[List.lookup_cons,List.lookup_cons]
   cases q:x == n with
   | true=>have e:=beq_iff_eq.mp q;subst e;simp only[Option.map,hc,if_true]
   | false=>exact ih
  ·rw[List.map_cons]
   simp only[hc,Bool.false_eq_true,if_false]
   rw[List.lookup_cons,List.lookup_cons]
   cases q:x == n with
   | true=>have e:=beq_iff_eq.mp q;subst e;simp only[Option.map,hc,Bool.false_eq_true,if_false]
   | false=>exact ih

theorem CxOk.comp {scope:Scope}{t:Tg}{cl:List (Str×Addr)}{C:Addr}{m:Str→Option Value} (O:CxOk T c K hd) (h:cOk K scope t=true) (e2:∀x a,cl.lookup x=some a→c.env.cells.lookup x=some a) (e3:∀x,scope.names.lookup x=some .free→∃a,cl.lookup x=some a) :
  CxOk T (c.comp K scope cl C m) (K.comp scope) hd:=by
 obtain⟨h1,h2,h3,h4,h5⟩:=cOk_spec h
 refine⟨?_,h1,O.names,rfl,O.gint,O.fns,O.cls,O.glob,O.bi,O.hand,O.units,O.frames,O.inj,(fun x a e q=>by cases q),fun x a e=>O.cellFr x a (e2 x a e),fun x e=>?_,fun x y a ex ey=>O.cellInj x y a (e2 x a ex) (e2 y a ey)⟩
 ·show relabelS scope c.env.scope=relabelS scope K.sc
  rw[O.sc]
 ·have e:(relabelS scope c.env.scope).names.lookup x=some .cell:=e
  rw[relabel_lookup] at e
  cases q:scope.names.lookup x with
  | none=>rw[q] at e;cases e
  | some k =>
   rw[q] at e
   cases k with
   | free=>exact e3 x q
   | cell=>exact absurd rfl (h2 _ (lookup_mem q))
   | _=>simp at e

theorem Sim.intoC {P:Addr→Obj→Prop}{ρ ρ₀:Loc}{H:Hp}{s:Shared}{h':Heap}{tk:Nat}{scope:Scope}{t:Tg}{cl:List (Str×Addr)}{C:Addr}{m:Str→Option Value}{ad:List Addr} (O:CxOk T c K hd) (h:cOk K scope t=true) (e2:∀x a,cl.lookup x=some a→c.env.cells.lookup x=some a)
  (e3:∀x,scope.names.lookup x=some .free→∃a,cl.lookup x=some a) (S:Sim W c P ρ H s) (hk:∀b o,s.heap.get? b=some o→h'.get? b=some o) (hC:s.heap.get? C=none) (hn:h'.Ns C (fun ξ=>none)) (hm:s.heap.Ns c.env.locals m)
  (hv:∀i x v,c.vis i=true→c.names[i]?=some x→ρ[i]?=some (some v)→HasVar W c.env s.heap m (Str.ofString x) v) (h0:∀(i:Nat) (v:V),ρ₀[i]?=some (some v)→ρ[i]?=some (some v)∧i∉t.slots) :
  Sim W (c.comp K scope cl C m) (PC c H s.heap ad) ρ₀ H { s with heap:=h',toks:=tk }:=by
 obtain⟨h1,h2,h3,h4,h5⟩:=cOk_spec h
 have kr:KeepR W s.heap h':=.of_keeps hk
 obtain⟨f1,f2,f3,f4⟩:=S.fresh hC
 have hCne:∀b o,s.heap.get? b=some o→b≠C:=fun b o e q=>by rw[q,hC] at e;cases e
 obtain⟨oC,esC,epC,eC,dC,rC⟩:=id hn
 refine⟨?_,fun b o e=>hk b o (S.base b o e),funFrames_at S.frames fun b hb o e d=>⟨o,hk b o e,d⟩,fun p hp=>?_,⟨fun ξ=>none,hn,fun i x v v1 v2 v3=>?_⟩,by simp [Cx.comp,compEnvC],fun b hb=>?_,fun b hb p hp=>?_,
  fun a o e=>(S.heap a o e).at kr fun ob z=>hk a ob z,S.new,fun a o e=>?_,fun b o p=>hk b o p.1,fun b o p=>p.2.1,fun b o p=>⟨?_,p.2.2.1⟩,fun x a e=>?_,fun b hb=>?_,fun b hb=>(S.scr b hb).at fun o e ξ ξ=>hk b o e⟩
 ·obtain⟨hp,tk',e⟩:=S.rest
  exact⟨h',tk,by rw[e]⟩
 ·rcases List.mem_cons.mp hp with rfl | hp
  ·exact hm.at' fun o e=>hk _ o e
  ·exact (S.outer p hp).at' fun o e=>hk _ o e
 ·obtain⟨w1,w2⟩:=h0 i v v3
  have v2':K.names[i]?=some x:=by rw[←O.names];exact v2
  have v1':(K.comp scope).vis i=true:=v1
  unfold Kc.comp at v1'
  dsimp only at v1'
  rw[v2'] at v1'
  dsimp only at v1'
  split at v1'
  ·rename_i q;exact absurd (h5 i x v2' q) w2
  ·rename_i q
   simp only[Bool.and_eq_true,beq_iff_eq] at v1'
   obtain⟨z1,z2⟩:=v1'
   obtain⟨a,ha⟩:=e3 _ q
   have ke:c.env.kindOf (Str.ofString x)=some .cell:=by unfold Env.kindOf;rw[O.sc];exact z2
   rcases hv i x v (by rw[O.vis];exact z1) v2 w1 with ⟨k,_⟩ | ⟨k,cl',o,u,e',ho,hd',r'⟩
   ·rw[ke] at k;cases k
   ·have:=e2 _ _ ha
    rw[e'] at this;cases this
    refine .cel (?_) a o u ha (hk _ _ ho) hd' (r'.mono kr)
    show (relabelS scope c.env.scope).names.lookup (Str.ofString x)=some .cell
    rw[relabel_lookup,q,O.sc]
    simp [O.kind,z2]
  ·cases v1'
 ·simp [Cx.comp] at hb;subst hb;exact f1
 ·simp [Cx.comp] at hb;subst hb
  rcases List.mem_cons.mp hp with rfl | hp
  ·rintro q
   obtain⟨o,_,_,e,_⟩:=hm
   exact hCne _ _ e q
  ·rintro q
   obtain⟨o,_,_,e,_⟩:=S.outer p hp
   exact hCne _ _ e q
 ·have:=S.apart a o e
  obtain⟨ob,ea,_⟩:=(S.heap a o e).obj
  have ne:=hCne _ _ ea
  simp only[Cx.all,Cx.comp,Cx.frs,List.mem_append,List.map_cons,List.mem_cons,List.not_mem_nil,or_false,not_or] at this ⊢
  exact⟨⟨ne,this.1.2⟩,fun q=>this.1.1 (q▸S.locOwn),this.2⟩
 ·simp [Cx.comp];exact hCne _ _ p.1
 ·obtain⟨u,o,e1,e2'⟩:=S.cells x a (e2 x a e)
  exact⟨u,o,hk _ _ e1,e2'⟩
 ·rcases hb with hb | hb
  ·simp [Cx.comp] at hb;subst hb
   exact⟨oC,eC,.inl ⟨_,_,dC⟩⟩
  ·obtain⟨o,e,q⟩:=S.ownD b (.inr hb)
   exact⟨o,hk _ _ e,q⟩

theorem Sim.outC {z:Addr→Prop} (hz:∀b,W.scr b→z b) {P:Addr→Obj→Prop}{ρ ρc:Loc}{H H':Hp}{s s':Shared}{h'':Heap}{scope:Scope}{cl:List (Str×Addr)}{C:Addr}{m:Str→Option Value}{ad:List Addr} (O:CxOk T c K hd) (S:Sim (W.z z) c P ρ H s) (hC:s.heap.get? C=none) (hm:s.heap.Ns c.env.locals m)
  (hv:∀i x v,c.vis i=true→c.names[i]?=some x→ρ[i]?=some (some v)→HasVar (W.z z) c.env s.heap m (Str.ofString x) v) (hin:K.inC=false) (had:∀b∈ad,Free W c P H b) (hadT:∀b∈ad,∀o,s.heap.get? b=some o→ItRec (W.z z) b o)
  (S':Sim W (c.comp K scope cl C m) (PC c H s.heap ad) ρc H' s') (hs:Heap.SameBut C s'.heap h''):Sim W c P ρ H' { s' with heap:=h'' }∧KeepR (W.z z) s.heap h'':=by
 have k0:∀b o,b≠C→s'.heap.get? b=some o→h''.get? b=some o:=fun b o q e=>hs.extBut b o q e
 have hCne:∀b o,s.heap.get? b=some o→b≠C:=fun b o e q=>by rw[q,hC] at e;cases e
 have kp:∀b o,s.heap.get? b=some o→H b=none→b∉c.frs→b∉ad→h''.get? b=some o:=fun b o e q1 q2 q3=>k0 b o (hCne b o e) (S'.prot b o ⟨e,q1,q2,q3⟩)
 obtain⟨f1,f2,f3,f4⟩:=S.fresh hC
 have nfr:∀b o,s.heap.get? b=some o→(∀es n,o.data≠.dict es n)→(∀v,o.data≠.cell v)→b∉c.frs:=fun b o e d1 d2 mm=>by
  obtain⟨o',e',q⟩:=S.ownD b (.inr mm)
  rw[e] at e';cases e'
  rcases q with ⟨_,_,q⟩ | ⟨_,q⟩
  ·exact d1 _ _ q
  ·exact d2 _ q
 have nH:∀b o,s.heap.get? b=some o→o.cls≠.type "list" → o.cls≠.type "dict" → H b=none:=fun b o e h1 h2=>by
  cases q:H b with
  | none=>rfl
  | some x =>
   obtain⟨ob,e',k,_⟩:=(S.heap b x q).obj
   rw[e] at e';cases e'
   rcases k with k | k
   ·exact absurd k h1
   ·exact absurd k h2
 have kr:KeepR (W.z z) s.heap h'':=by
  refine⟨fun b o i n e k d nz=>kp b o e (nH b o e (by rw[k];decide) (by rw[k];decide)) (nfr b o e (by rw[d];exact nofun) (by rw[d];exact nofun)) fun z=>?_,fun b o D ws e k d=>⟨o,ws,kp b o e (nH b o e (by rw[k];exact nofun) (by rw[k];exact nofun)) (nfr b o e (by rw[d];exact nofun) (by rw[d];exact nofun)) fun z=>?_,k,d⟩⟩
  ·obtain⟨n',q1,q2,_,_⟩:=hadT b z o e
   rw[k] at q1;cases q1;exact nz (q2 rfl)
  ·obtain⟨n',q1,q2,_,_⟩:=hadT b z o e
   rw[k] at q1;cases q1
 have nad:∀b o,s.heap.get? b=some o→((∃es n,o.data=.dict es n)∨(∃v,o.data=.cell v))→b∉ad:=fun b o e q z=>by
  obtain⟨_,_,_,d1,d2⟩:=hadT b z o e
  rcases q with ⟨_,_,q⟩ | ⟨_,q⟩
  ·exact d1 _ _ q
  ·exact d2 _ q
 have own:∀b,b∈c.own→b∉c.frs→∃o,s.heap.get? b=some o∧h''.get? b=some o∧H' b=none:=fun b hb hf=>by
  obtain⟨o,e,q⟩:=S.ownD b (.inl hb)
  have hH:H b=none:=by
   cases z:H b with
   | none=>rfl
   | some x=>exact absurd (Cx.mem_all_own hb) (S.apart b x z)
  exact⟨o,e,kp b o e hH hf (nad b o e q),S'.protH b o ⟨e,hH,hf,nad b o e q⟩⟩
 have fr:∀b,b∈c.frs→∃o,h''.get? b=some o∧((∃es n,o.data=.dict es n)∨(∃v,o.data=.cell v)):=fun b hb=>by
  obtain⟨o,e,q⟩:=S'.ownD b (.inr hb)
  obtain⟨o',e',_⟩:=S.ownD b (.inr hb)
  exact⟨o,k0 b o (hCne b o' e') e,q⟩
 refine⟨⟨?_,fun b o e=>k0 b o (fun q=>by rw[q,f1] at e;cases e) (S'.base b o e),funFrames_at (h:=s'.heap) S'.frames fun b hb o e d=>⟨o,k0 b o ?_ e,d⟩,fun p hp=>?_,⟨m,?_,fun i x v h1 h2 h3=>(hv i x v h1 h2 h3).monoZ (z:=W.scr) kr (fun ξ ξ ξ ξ ξ ξ ξ q w=>q (hz _ w)) fun cl' o u e1 ho hq=>?_⟩,S.locOwn,S.ownNew,S.ownOut,
  fun a o e=>?_,S'.new,fun a o e=>?_,fun b o p=>?_,fun b o p=>?_,S.protF,fun x a e=>?_,fun b hb=>?_,fun b hb=>?_⟩,kr⟩
 ·obtain⟨hp,tk',e⟩:=S'.rest;exact⟨h'',tk',by rw[e]⟩
 ·obtain⟨o',e',_⟩:=S.ownD b (.inr hb);exact hCne b o' e'
 ·refine (S'.outer p (.tail _ hp)).at' fun o e=>k0 _ o ?_ e
  obtain⟨o',_,_,e',_⟩:=S.outer p hp
  exact hCne _ _ e'
 ·refine (S'.outer (c.env.locals,m) (.head _)).at' fun o e=>k0 _ o ?_ e
  obtain⟨o',_,_,e',_⟩:=hm
  exact hCne _ _ e'
 ·obtain⟨o',q1,q2,_⟩:=own cl' (O.cellOwn _ _ e1 hin) (O.cellFr _ _ e1)
  rw[ho] at q1;cases q1
  exact⟨o,q2,rfl⟩
 ·have z:=S'.heap a o e
  obtain⟨ob,ea,_⟩:=z.obj
  have ne:a≠C:=by
   have:=S'.apart a o e
   simp only[Cx.all,Cx.comp,List.mem_append,List.mem_cons,List.not_mem_nil,or_false,not_or] at this
   exact this.1.1
  refine z.at ?_ fun ob' e'=>k0 _ _ ne e'
  have hl:=S'.loc
  obtain⟨m',⟨oC,esC,epC,eC,dC,_⟩,_⟩:=hl
  have nt:∀b o,s'.heap.get? b=some o→(∀es n,o.data≠.dict es n)→b≠C:=fun b o e d q=>by rw[q,show s'.heap.get? C=some oC from eC] at e;cases e;exact d _ _ dC
  exact⟨fun b o i n e k d ξ=>k0 b o (nt b o e (by rw[d];exact nofun)) e,fun b o D ws e k d=>⟨o,ws,k0 b o (nt b o e (by rw[d];exact nofun)) e,k,d⟩⟩
 ·have:=S'.apart a o e
  simp only[Cx.all,Cx.comp,Cx.frs,List.mem_append,List.map_cons,List.mem_cons,List.not_mem_nil,or_false,not_or] at this ⊢
  refine⟨⟨fun q=>?_,this.1.2⟩,this.2.2⟩
  by_cases hf:a∈c.frs
  ·exact this.1.2 hf
  ·obtain⟨_,_,_,z⟩:=own a q hf
   rw[e] at z;cases z
 ·exact kp b o (S.prot b o p) (S.protH b o p) (S.protF b o p).2 fun z=>(had b z).2.2.1 o p
 ·exact S'.protH b o ⟨S.prot b o p,S.protH b o p,(S.protF b o p).2,fun z=>(had b z).2.2.1 o p⟩
 ·obtain⟨u,o,e1,e2⟩:=S.cells x a e
  obtain⟨o',q1,q2,_⟩:=own a (O.cellOwn _ _ e hin) (O.cellFr _ _ e)
  rw[e1] at q1;cases q1
  exact⟨u,o,q2,e2⟩
 ·rcases hb with hb | hb
  ·by_cases hf:b∈c.frs
   ·exact fr b hf
   ·obtain⟨o,e,q2,_⟩:=own b hb hf
    obtain⟨o',e',q⟩:=S.ownD b (.inl hb)
    rw[e] at e';cases e'
    exact⟨o,q2,q⟩
  ·exact fr b hb
 ·obtain⟨m',⟨oC,esC,epC,eC,dC,_⟩,_⟩:=S'.loc
  exact (S'.scr b hb).at fun o e _ ⟨i,n,d⟩=>k0 b o (fun q=>by rw[q,show s'.heap.get? C=some oC from eC] at e;cases e;rw[d] at dC;cases dC) e
end
end Mine
end

section
namespace Mine
open PySem PySem.W PySem.Calls PyProof.Rows PySem.SeqAt
section
variable {W:Wd}{T:Tx W}{c:Cx}{K:Kc}{hd:Bool}{G:Gl}

theorem comp_rule {prog:Program}{w:World}{A:Around}{R:Result→Shared→Prop}{s:Shared}{elt target iter:Expr}{ifs:List Expr}{scope:Scope}{pos:Pos}{it acc:Value}{env:Env} (I:Nat→Shared→Prop)
  (turn:∀n s,I n s→wpAny (model prog w) A (pyNext it) (fun r s₁=>match r with
   | none=>R (.ok .next) s₁
   | some v=>wpAny (model prog w) A (letOwnedTupleGo target it v) (fun ξ s₁'=>wpAny (model prog w) A (assign target env v) (fun ξ s₂ =>
     wpAny (model prog w) A (forIn ifs true fun c r=>if r=true then do let ok ←isTrue c env (eval c env);pure (ForInStep.yield ok) else pure (ForInStep.yield r)) (fun ok s₃ =>
      if ok=true then wpAny (model prog w) A (eval elt env) (fun x s₄ =>
       wpAny (model prog w) A (call (.builtin "list.append") [acc,x]) (fun ξ s₅=>∃m,m<n∧I m s₅) (fun ξ ξ=>False) s₄) (fun ξ ξ=>False) s₃
      else ∃m,m<n∧I m s₃) (fun ξ ξ=>False) s₂) (fun ξ ξ=>False) s₁') (fun ξ ξ=>False) s₁) (fun ξ ξ=>False) s)
  (n:Nat) (h:I n s):codeAny (model prog w) A (.compLoop (.ListComp elt [⟨target,iter,ifs,0⟩] scope pos) 0 it acc env) R s:=by
 refine codeAny_loop rfl I (fun n s hI=>?_) n h
 show wpAny _ A ((compTurn (.ListComp elt [⟨target,iter,ifs,0⟩] scope pos) 0 it acc env).onRaise (fun x=>do noteFrame x env;theTreesLotGoes x)) _ _ s
 refine wpAny_noted ?_
 rw[compTurn_list]
 refine wpAny_bind (wpAny_standAt (wpAny_bind (wpAny_mono (turn n s hI) (fun r s₁ h₁=>?_) fun ξ ξ f=>f.elim)))
 cases r with
 | none=>exact wpAny_pure h₁
 | some v =>
  refine wpAny_bind (wpAny_mono h₁ (fun ξ s₁' h₁'=>?_) fun ξ ξ f=>f.elim)
  refine wpAny_bind (wpAny_mono h₁' (fun ξ s₂ h₂=>wpAny_bind (wpAny_mono h₂ (fun ok s₃ h₃=>?_) fun ξ ξ f=>f.elim)) fun ξ ξ f=>f.elim)
  cases ok with
  | false=>exact wpAny_pure ⟨rfl,h₃⟩
  | true =>
   exact wpAny_bind (wpAny_bind (wpAny_mono h₃ (fun x s₄ h₄=>wpAny_bind (wpAny_mono h₄ (fun ξ s₅ h₅=>wpAny_pure (wpAny_pure ⟨rfl,h₅⟩)) fun ξ ξ f=>f.elim)) fun ξ ξ f=>f.elim))

theorem Sim.addP {P:Addr→Obj→Prop}{ρ:Loc}{H:Hp}{s:Shared} (S:Sim W c P ρ H s) (X:Addr→Obj→Prop) (hX:∀b o,X b o→s.heap.get? b=some o∧H b=none∧b∉c.own∧b∉c.frs):Sim W c (fun b o=>P b o∨X b o) ρ H s :=
 { S with prot:=fun b o p=>p.elim (S.prot b o) fun x=>(hX b o x).1,protH:=fun b o p=>p.elim (S.protH b o) fun x=>(hX b o x).2.1,protF:=fun b o p=>p.elim (S.protF b o) fun x=>(hX b o x).2.2 }
theorem Free.out {P:Addr→Obj→Prop}{H:Hp}{b:Addr} (f:Free W c P H b):b∉c.own∧b∉c.frs:=⟨fun m=>f.2.1 (Cx.mem_all_own m),fun m=>f.2.1 (Cx.mem_all_frs m)⟩

inductive CompI (W:Wd) (c:Cx) (P:Addr→Obj→Prop) (ρ:Loc) (D:Addr) (ad:List Addr) (w:List (Addr×Ob)) (R:List It→Heap→Prop) (t:Tg) (elt:Loc→(V→Hp→Prop)→Hp→Prop) (test:Loc→(Bool→Hp→Prop)→Hp→Prop) (QQ:List V→Hp→Prop) (n:Nat) (s:Shared):Prop
 | mk (its:List It) (acc:List V) (ρc:Loc) (H:Hp) (items:Array Value) (k:Nat) (en:n=its.length) (S:Sim W c P ρc H s) (hb:∀it ρ',bindT t it ρ=some ρ'→bindT t it ρc=some ρ') (gD:s.heap.get? D=some { cls:=.type "list",data:=.seq items k }) (rD:Reps W s.heap acc items.toList) (hl:acc.length≤Lim)
  (fD:Free W c P H D) (r:R its s.heap) (fad:∀b∈ad,Free W c P H b) (g:compGo t w ρ elt test its acc QQ H)
theorem comp_turns {z:Addr→Prop}{A:Around}{P:Addr→Obj→Prop}{ρ:Loc}{D I:Addr}{ad:List Addr}{w:List (Addr×Ob)}{R:List It→Heap→Prop}{t:Tg}{tx sx x:Expr}{ifs:List Expr}{scope:Scope}{pos:Pos}{RR:Result→Shared→Prop}{elt:Loc→(V→Hp→Prop)→Hp→Prop}{test:Loc→(Bool→Hp→Prop)→Hp→Prop}{QQ:List V→Hp→Prop}
  (C:CxOk T c K false) (hA:c.A=A) (O:ItOk W z A I ad w R) (m:MTg K t tx)
  (hE:∀(P':Addr→Obj→Prop) (ρ':Loc) (H':Hp) (s':Shared) (Q:V→Hp→Prop),Sim (W.z z) c P' ρ' H' s'→elt ρ' Q H'→wpAny (model W.prog W.w) A (eval x c.env) (PE (W.z z) c P' ρ' Q) (fun ξ ξ=>False) s')
  (hT:∀(P':Addr→Obj→Prop) (ρ':Loc) (H':Hp) (s':Shared) (B:Bool→Hp→Prop),Sim (W.z z) c P' ρ' H' s'→test ρ' B H'→wpAny (model W.prog W.w) A (forIn ifs true fun cx r=>if r=true then do let ok ←isTrue cx c.env (eval cx c.env);pure (ForInStep.yield ok) else pure (ForInStep.yield r)) (fun b s''=>∃H'',Sim (W.z z) c P' ρ' H'' s''∧B b H'') (fun ξ ξ=>False) s')
  (hset:∀it it' ρ₁ ρ₂,bindT t it ρ=some ρ₁→bindT t it' ρ=some ρ₂→bindT t it' ρ₁=some ρ₂)
  (hRR:∀vs H' s' ρc,Sim W c P ρc H' s'→H' D=none→Free W c P H' D→(∃items n,s'.heap.get? D=some { cls:=.type "list",data:=.seq items n }∧Reps W s'.heap vs items.toList)→QQ vs H'→vs.length≤Lim→RR (.ok .next) s') (hDad:D∉ad) :
  ∀(its:List It) (acc:List V) (ρc:Loc) (H:Hp) (s:Shared),Sim (W.z z) c P ρc H s→(∀it ρ',bindT t it ρ=some ρ'→bindT t it ρc=some ρ')→(∃items n,s.heap.get? D=some { cls:=.type "list",data:=.seq items n }∧Reps (W.z z) s.heap acc items.toList)→acc.length≤Lim →
   Free W c P H D→R its s.heap→(∀b∈ad,Free W c P H b)→compGo t w ρ elt test its acc QQ H →
   codeAny (model W.prog W.w) A (.compLoop (.ListComp x [⟨tx,sx,ifs,0⟩] scope pos) 0 (.ref I) (.ref D) c.env) RR s:=by
 intro its acc ρc H s S hb hD hl fD r fad g
 obtain⟨items,k,gD,rD⟩:=hD
 refine comp_rule (I:=CompI (W.z z) c P ρ D ad w R t elt test QQ) (fun n s hI=>?_) its.length ⟨its,acc,ρc,H,items,k,rfl,S,hb,gD,rD,hl,fD,r,fad,g⟩
 clear its acc ρc H S hb gD rD hl fD r fad g items k
 obtain⟨its,acc,ρc,H,items,n,rfl,S,hb,gD,rD,hl,fD,r,fad,g⟩:=hI
 cases its with
 | nil =>
  refine wpAny_mono (O.fin c (fun b o=>P b o∨(b=D∧s.heap.get? D=some o)) ρc H s _ hA (S.addP (fun b o=>b=D∧s.heap.get? D=some o) ?_) ?_ g.1 r) (fun q s₁ h₁=>?_) fun ξ ξ f=>f
  ·rintro b o ⟨rfl,e⟩;exact⟨e,fD.2.2.2,fD.out⟩
  ·intro b hbad
   refine⟨(fad b hbad).1,(fad b hbad).2.1,fun o p=>p.elim ((fad b hbad).2.2.1 o) fun⟨q,_⟩=>hDad (q▸hbad),(fad b hbad).2.2.2⟩
  ·obtain⟨rfl,S₁,kr⟩:=h₁
   have k:=S₁.prot D _ (.inr ⟨rfl,gD⟩)
   refine hRR acc H s₁ ρc (S₁.weaken fun b o p=>.inl p) fD.2.2.2 fD ⟨items,n,k,(rD.mono kr).monoZ (z:=W.scr) (.refl _) fun ξ ξ ξ ξ ξ ξ ξ q w=>q (O.sub _ w)⟩ g.2 hl
 | cons it its =>
  obtain⟨ok,hlt,ρ',eb,g⟩:=g
  have free1:∀b∈ad,Free W c (fun b o=>P b o∨(b=D∧s.heap.get? D=some o)) H b:=fun b hbad =>
   ⟨(fad b hbad).1,(fad b hbad).2.1,fun o p=>p.elim ((fad b hbad).2.2.1 o) fun⟨q,_⟩=>hDad (q▸hbad),(fad b hbad).2.2.2⟩
  refine wpAny_mono (O.item c (fun b o=>P b o∨(b=D∧s.heap.get? D=some o)) ρc H s it its tx _ hA (S.addP (fun b o=>b=D∧s.heap.get? D=some o) ?_) free1 ok r (m.xi eb)) (fun q s₁ h₁=>?_) fun ξ ξ f=>f
  ·rintro b o ⟨rfl,e⟩;exact⟨e,fD.2.2.2,fD.out⟩
  obtain⟨v,rfl,h₁⟩:=h₁
  refine wpAny_mono h₁ (fun ξ s₂ hx=>?_) fun ξ ξ f=>f
  obtain⟨S₂,k₂,rv,r₂⟩:=hx
  have gD₂:=S₂.prot D _ (.inr ⟨rfl,gD⟩)
  have S₂':=S₂.addP (fun b o=>b∈ad∧s₂.heap.get? b=some o) fun b o ⟨hbad,e⟩=>⟨e,(fad b hbad).2.2.2,(fad b hbad).out⟩
  refine hA▸sound_assign (W:=W.z z) (T:=T.z z) (C.z z) (C.hand rfl) S₂' m (hb it ρ' eb) rv fun s₃ S₃ k₃=>?_
  refine hA▸wpAny_mono (hT _ ρ' H s₃ _ S₃.max g) (fun b s₄ hx=>?_) fun ξ ξ f=>f
  obtain⟨H₄,S₄m,g₄⟩:=hx
  have k₄:=S₃.keepR S₄m
  have S₄:=S₄m.weaken S₃.le_max
  have rest:∀(H₅:Hp) (s₅:Shared) (acc':List V) (items':Array Value) (n':Nat),Sim (W.z z) c P ρ' H₅ s₅→H₅ D=none→(∀b∈ad,H₅ b=none)→(∀b∈ad,∀o,s₂.heap.get? b=some o→s₅.heap.get? b=some o)→s₅.heap.get? D=some { cls:=.type "list",data:=.seq items' n' }→Reps (W.z z) s₅.heap acc' items'.toList→acc'.length≤Lim→compGo t w ρ elt test its acc' QQ H₅ →
    ∃m,m<(it :: its).length∧CompI (W.z z) c P ρ D ad w R t elt test QQ m s₅ :=
   fun H₅ s₅ acc' items' n' S₅ hDn had hk g' r' l' gg=>⟨its.length,Nat.lt_succ_self _,its,acc',ρ',H₅,items',n',rfl,S₅,fun it' ρ₂ e'=>hset it it' ρ' ρ₂ eb e',g',r',l',⟨fD.1,fD.2.1,fD.2.2.1,hDn⟩,O.frame _ _ _ r₂ hk,fun b hbad=>⟨(fad b hbad).1,(fad b hbad).2.1,(fad b hbad).2.2.1,had b hbad⟩,gg⟩
  have pD:(fun b o=>(P b o∨(b=D∧s.heap.get? D=some o))∨(b∈ad∧s₂.heap.get? b=some o)) D { cls:=.type "list",data:=.seq items n }:=.inl (.inr ⟨rfl,gD⟩)
  have rD₄:=(((rD.mono k₂).mono k₃).mono k₄)
  have wk:∀b o,P b o→(P b o∨(b=D∧s.heap.get? D=some o))∨(b∈ad∧s₂.heap.get? b=some o):=fun b o p=>.inl (.inl p)
  cases b with
  | false =>
   simp only[Bool.false_eq_true,if_false] at g₄ ⊢
   exact rest H₄ s₄ acc items n (S₄.weaken wk) (S₄.protH D _ pD) (fun b hbad=>by obtain⟨o,e,_⟩:=O.there _ _ r₂ b hbad;exact S₄.protH b o (.inr ⟨hbad,e⟩)) (fun b hbad o e=>S₄.prot b o (.inr ⟨hbad,e⟩)) (S₄.prot D _ pD) rD₄ hl g₄
  | true =>
   simp only[if_true] at g₄ ⊢
   refine wpAny_mono (hE _ ρ' H₄ s₄ _ S₄.max g₄) (fun u s₅ hx=>?_) fun ξ ξ f=>f
   obtain⟨v₅,H₅,S₅m,rz,g₅⟩:=hx
   have k₅:=S₄.keepR S₅m
   have S₅:=S₅m.weaken S₄.le_max
   have gD₅:=S₅.prot D _ pD
   have rD₅:=rD₄.mono k₅
   have hsz:items.size=acc.length:=by rw[rD.length];simp
   refine call_meets F.slot_list_append ⟨_,gD₅,rfl⟩ F.entry_list_append (F.args_list_append_2 _ _) (list_append D items n u ?_) ⟨gD₅,?_⟩
   ·rw[hsz,sizeLine_eq];unfold Lim at hlt;exact lA [] [_] (.n 0) (.c 16777216) [.B (.n 0) (.c 16777216)] [1,1] rfl hlt
   have hkk:=upd_keep (h:=s₅.heap) (a:=D) (Obj.mapSeq (·.push u))
   have kr:KeepR (W.z z) s₅.heap (s₅.heap.update D (Obj.mapSeq (·.push u))):=⟨fun b o i n' e k d ξ=>hkk b o (by rintro rfl;rw[gD₅] at e;cases e;exact absurd (show Value.type "list" = Value.type "tuple" from k) (by decide)) e,fun b o C' ws e k d=>⟨o,ws,hkk b o (by rintro rfl;rw[gD₅] at e;cases e;cases k) e,k,d⟩⟩
   have S₆:Sim (W.z z) c P ρ' H₅ { s₅ with heap:=s₅.heap.update D (Obj.mapSeq (·.push u)) }:=by
    refine (S₅.weaken wk).change (tk:=s₅.toks) D (fun o e=>?_) fD.1 fD.2.1 fD.2.2.1 hkk (fun ξ ξ=>rfl) fun o e=>?_
    ·rw[gD₅] at e;cases e;exact⟨show Value.type "list" ≠ Value.type "tuple" by decide,by exact nofun,by exact nofun⟩
    ·rw[S₅.protH D _ pD] at e;cases e
   refine rest H₅ _ (acc++[v₅]) _ _ S₆ (S₅.protH D _ pD) (fun b hbad=>by obtain⟨o,e,_⟩:=O.there _ _ r₂ b hbad;exact S₅.protH b o (.inr ⟨hbad,e⟩)) (fun b hbad o e=>hkk b o (fun q=>hDad (q▸hbad)) (S₅.prot b o (.inr ⟨hbad,e⟩))) (upd_list gD₅ (·.push u)) ?_ ?_ g₅
   ·rw[Array.toList_push]
    exact (rD₅.mono kr).append (.cons (rz.mono kr) .nil)
   ·rw[List.length_append];simp only[List.length_cons,List.length_nil];exact lA [] [_,_] (.a (.n 0) (.a (.c 0) (.c 1))) (.n 1) [.B (.n 0) (.n 1)] [1,1] rfl hlt
end
end Mine
end

section
namespace Mine
open PySem PySem.W PySem.Calls PyProof.Rows PySem.SeqAt

noncomputable def eraseT:Tg→Loc→Loc
 | .one i,ρ=>ρ.set i none
 | .two i j,ρ=>(ρ.set i none).set j none
theorem set4 (ρ:Loc) (i j:Nat) (a b x y:Option V):(((ρ.set i a).set j b).set i x).set j y=(ρ.set i x).set j y:=by
 apply List.ext_getElem?
 intro k
 simp only[List.getElem?_set,List.length_set]
 by_cases h1:j=k <;> by_cases h2:i=k <;> simp [h1,h2]
theorem set2 (ρ:Loc) (i:Nat) (a x:Option V):(ρ.set i a).set i x=ρ.set i x:=by
 apply List.ext_getElem?
 intro k
 simp only[List.getElem?_set,List.length_set]
 by_cases h2:i=k <;> simp [h2]
theorem bind_over {t:Tg}{it it':It}{ρ ρ₁ ρ₂:Loc} (h1:bindT t it ρ=some ρ₁) (h2:bindT t it' ρ=some ρ₂):bindT t it' ρ₁=some ρ₂:=by
 cases t with
 | one i =>
  cases it with
  | p _ _=>cases h1
  | v x =>
   cases it' with
   | p _ _=>cases h2
   | v y=>cases h1;cases h2;show some _=some _;rw[set2]
 | two i j =>
  have k:∃x y,ρ₁=(ρ.set i (some x)).set j (some y):=by
   cases bind2_inv h1 with
   | p x y _ hr=>exact⟨x,y,hr⟩
   | v x y _ hr=>exact⟨x,y,hr⟩
  obtain⟨x,y,rfl⟩:=k
  cases bind2_inv h2 with
  | p x' y' hi hr=>subst hi hr;exact congrArg some (set4 ..)
  | v x' y' hi hr=>subst hi hr;exact congrArg some (set4 ..)
theorem bind_erase {t:Tg}{it:It}{ρ ρ':Loc} (h:bindT t it ρ=some ρ'):bindT t it (eraseT t ρ)=some ρ':=by
 cases t with
 | one i =>
  cases it with
  | p _ _=>cases h
  | v x=>cases h;show some _=some _;unfold eraseT;rw[set2]
 | two i j =>
  cases bind2_inv h with
  | p x y hi hr=>subst hi hr;exact congrArg some (set4 ..)
  | v x y hi hr=>subst hi hr;exact congrArg some (set4 ..)
theorem erase_spec {t:Tg}{ρ:Loc}{i:Nat}{v:V} (h:(eraseT t ρ)[i]?=some (some v)):ρ[i]?=some (some v)∧i∉t.slots:=by
 cases t with
 | one j =>
  unfold eraseT at h
  rw[List.getElem?_set] at h
  by_cases q:j=i
  ·rw[if_pos q] at h;split at h <;> simp at h
  ·rw[if_neg q] at h;exact⟨h,by simp [Tg.slots];exact fun z=>q z.symm⟩
 | two j k =>
  unfold eraseT at h
  rw[List.getElem?_set,List.getElem?_set] at h
  by_cases q:k=i
  ·rw[if_pos q] at h;split at h <;> simp at h
  ·rw[if_neg q] at h
   by_cases q2:j=i
   ·rw[if_pos q2] at h;split at h <;> simp at h
   ·rw[if_neg q2] at h;exact⟨h,by simp [Tg.slots];exact⟨fun z=>q2 z.symm,fun z=>q z.symm⟩⟩

section
variable {W:Wd}{T:Tx W}{c:Cx}{K:Kc}{G:Gl}

noncomputable def CompEnd (W:Wd) (c:Cx) (P:Addr→Obj→Prop) (ρ:Loc) (Q:V→Hp→Prop) (D C:Addr) (s':Shared):Prop :=
 (∃m,s'.heap.Ns C m)∧(∀o,¬P C o)∧C∉c.own∧C∉c.frs∧(W.base.get? C=none∧C∉c.all)∧∃vs H',H' D=none∧newL vs Q H'∧(H'.set D (.list vs)) C=none∧∀h'',Heap.SameBut C s'.heap h''→Sim W c P ρ (H'.set D (.list vs)) { s' with heap:=h'' }

theorem comp_core {z:Addr→Prop}{P:Addr→Obj→Prop}{ρ:Loc}{H:Hp}{s₂:Shared}{I:Addr}{ad:List Addr}{w:List (Addr×Ob)}{R:List It→Heap→Prop}{its:List It}{t:Tg}{tx sx x:Expr}{ifs:List Expr}{scope:Scope}{pos:Pos}{cl:List (Str×Addr)}{E:Value→Shared→Prop}{Q:V→Hp→Prop}
  {RR:Value→Addr→Result→Shared→Prop}{elt:Loc→(V→Hp→Prop)→Hp→Prop}{test:Loc→(Bool→Hp→Prop)→Hp→Prop}
  (C:CxOk T c K false) (hin:K.inC=false) (hc:cOk K scope t=true) (e2:∀x a,cl.lookup x=some a→c.env.cells.lookup x=some a) (e3:∀x,scope.names.lookup x=some .free→∃a,cl.lookup x=some a)
  (mt:MTg (K.comp scope) t tx) (O:ItOk W z c.A I ad w R) (r:R its s₂.heap) (S:Sim (W.z z) c P ρ H s₂) (fad:∀b∈ad,Free W c P H b) (g:compGo t w ρ elt test its [] (fun vs H'=>newL vs Q H') H)
  (hE:∀c',CxOk (T.z z) c' (K.comp scope) false→c'.A=c.A→∀(P':Addr→Obj→Prop) (ρ':Loc) (H':Hp) (s':Shared) (Q:V→Hp→Prop),Sim (W.z z) c' P' ρ' H' s'→elt ρ' Q H'→wpAny (model W.prog W.w) c.A (eval x c'.env) (PE (W.z z) c' P' ρ' Q) (fun ξ ξ=>False) s')
  (hT:∀c',CxOk (T.z z) c' (K.comp scope) false→c'.A=c.A→∀(P':Addr→Obj→Prop) (ρ':Loc) (H':Hp) (s':Shared) (B:Bool→Hp→Prop),Sim (W.z z) c' P' ρ' H' s'→test ρ' B H'→wpAny (model W.prog W.w) c.A (forIn ifs true fun cx r=>if r=true then do let ok ←isTrue cx c'.env (eval cx c'.env);pure (ForInStep.yield ok) else pure (ForInStep.yield r)) (fun b s''=>∃H'',Sim (W.z z) c' P' ρ' H'' s''∧B b H'') (fun ξ ξ=>False) s')
  (hRR:∀D C' s',CompEnd W c P ρ Q D C' s'→RR (.ref D) C' (.ok .next) s') :
  wpAny (model W.prog W.w) c.A (newList []) (fun acc s₃=>wpAny (model W.prog W.w) c.A (newFunctionEnv scope c.env.globals cl [] c.env.qual none .none (some c.env)) (fun cenv s₄ =>
   codeAny (model W.prog W.w) c.A (.compStart (.ListComp x [⟨tx,sx,ifs,0⟩] scope pos) 0 (.ref I) acc { cenv with scope:=relabel scope c.env }) (RR acc cenv.locals) s₄) E s₃) E s₂:=by
 obtain⟨h1,h2,h3,h4,h5⟩:=cOk_spec hc
 refine wpAny_newObj_type (wpAny_newFunctionEnv h2 (by intro y hy;simp at hy) (fun h₁ hns₁ hsb₁=>?_) h1)
 dsimp only at hns₁ hsb₁ ⊢
 generalize hH2:s₂.heap.push { cls:=.type "list",dict:=none,data:=.seq ([]:List Value).toArray }=HH at hns₁ hsb₁ ⊢
 have hsz:HH.objs.size=s₂.heap.objs.size+1:=by rw[←hH2,Heap.size_push]
 have hDC:s₂.heap.objs.size≠HH.objs.size:=by rw[hsz];exact Nat.ne_of_lt (Nat.lt_succ_self _)
 have below:∀b,b<s₂.heap.objs.size→b≠HH.objs.size∧b≠s₂.heap.objs.size:=fun b hb=>⟨by rw[hsz];exact Nat.ne_of_lt (Nat.lt_succ_of_lt hb),Nat.ne_of_lt hb⟩
 have old:∀b o,s₂.heap.get? b=some o→h₁.get? b=some o:=fun b o e=>hsb₁.extBut b o (below b (Heap.lt_size e)).1 (Heap.get?_push_of_some _ (hH2▸Heap.get?_push_of_some _ e))
 have gD:h₁.get? s₂.heap.objs.size=some { cls:=.type "list",data:=.seq #[] }:=hsb₁.extBut _ _ hDC (Heap.get?_push_of_some _ (hH2▸Heap.get?_push_size _ rfl))
 have nC:s₂.heap.get? HH.objs.size=none:=Heap.get?_none_of_le (by rw[hsz];exact Nat.le_succ _)
 have nD:s₂.heap.get? s₂.heap.objs.size=none:=size_none _
 have hn:h₁.Ns HH.objs.size (fun ξ=>none):=by simpa using hns₁
 obtain⟨m,hm,hv⟩:=S.loc
 have S₁:=S.intoC (tk:=s₂.toks+([]:List (Str×Value)).length) (ad:=ad) (C.z z) hc e2 e3 old nC hn hm hv (fun i v e=>erase_spec e)
 have C':=C.comp (C:=HH.objs.size) (m:=m) hc e2 e3
 obtain⟨d1,d2,d3,d4⟩:=S.fresh nD
 obtain⟨c1,c2,c3,c4⟩:=S.fresh nC
 have adlt:∀b∈ad,b<s₂.heap.objs.size:=fun b hb=>by obtain⟨o,e,_⟩:=O.there _ _ r b hb;exact Heap.lt_size e
 have mem_all:∀b,b∉c.all→b≠HH.objs.size→b∉(c.comp K scope cl HH.objs.size m).all:=fun b hb hne=>by
  simp only[Cx.all,Cx.comp,Cx.frs,List.mem_append,List.map_cons,List.mem_cons,List.not_mem_nil,or_false,not_or] at hb ⊢
  exact⟨⟨hne,hb.1.2⟩,fun q=>hb.1.1 (q▸S.locOwn),hb.2⟩
 have hDad:s₂.heap.objs.size∉ad:=fun z=>Nat.lt_irrefl _ (adlt _ z)
 have loop:∀s₄:Shared,s₄={ s₂ with heap:=h₁,toks:=s₂.toks+([]:List (Str×Value)).length } →
   codeAny (model W.prog W.w) c.A (.compLoop (.ListComp x [⟨tx,sx,ifs,0⟩] scope pos) 0 (.ref I) (.ref s₂.heap.objs.size) (compEnvC scope cl HH.objs.size c.env)) (RR (.ref s₂.heap.objs.size) HH.objs.size) s₄:=by
  rintro s₄ rfl
  refine comp_turns (c:=c.comp K scope cl HH.objs.size m) (P:=PC c H s₂.heap ad) (ρ:=ρ) (D:=s₂.heap.objs.size) (ad:=ad) (w:=w) (R:=R) (t:=t) (elt:=elt) (test:=test) (QQ:=fun vs H'=>newL vs Q H') C' rfl O mt (hE _ (C'.z z) rfl) (hT _ (C'.z z) rfl) (fun it it' ρ₁ ρ₂ a b=>bind_over a b) ?_ hDad its [] (eraseT t ρ) H _ S₁ (fun it ρ' e=>bind_erase e) ⟨#[],0,gD,.nil⟩ (by simp) ?_ ?_ ?_ g
  ·intro vs H' s' ρc S' hD0 fD ⟨items,n,gD',rD⟩ hq hl
   refine hRR _ _ _ ⟨?_,c3,fun q=>c2 (Cx.mem_all_own q),fun q=>c2 (Cx.mem_all_frs q),⟨c1,c2⟩,vs,H',hD0,hq,?_,fun h'' hs=>?_⟩
   ·obtain⟨m',hn',_⟩:=S'.loc;exact⟨m',hn'⟩
   ·have:H' HH.objs.size=none:=by
     cases q:H' HH.objs.size with
     | none=>rfl
     | some o=>exact absurd (by simp [Cx.all,Cx.comp]) (S'.apart _ _ q)
    simp [Hp.set,Ne.symm hDC,this]
   ·obtain⟨S'',kr⟩:=Sim.outC O.sub (hd:=false) C S nC hm hv hin fad (fun b hb o e=>by obtain⟨o',e',q⟩:=O.there _ _ r b hb;rw[e] at e';cases e';exact q) S' hs
    obtain⟨m',⟨oC,esC,epC,eC,dC,_⟩,_⟩:=S'.loc
    have k0:∀b o,b≠HH.objs.size→s'.heap.get? b=some o→h''.get? b=some o:=fun b o q e=>hs.extBut b o q e
    have nt:∀b o,s'.heap.get? b=some o→(∀es n,o.data≠.dict es n)→b≠HH.objs.size:=fun b o e d q=>by rw[q,show s'.heap.get? HH.objs.size=some oC from eC] at e;cases e;exact d _ _ dC
    have kr':KeepR W s'.heap h'':=⟨fun b o i n e k d ξ=>k0 b o (nt b o e (by rw[d];exact nofun)) e,fun b o D ws e k d=>⟨o,ws,k0 b o (nt b o e (by rw[d];exact nofun)) e,k,d⟩⟩
    exact S''.adopt d1 d2 d3 (rep_list hl (k0 _ _ hDC gD') (rD.mono kr'))
  ·refine⟨d1,mem_all _ d2 hDC,fun o p=>?_,d4⟩
   have:=p.1;rw[nD] at this;cases this
  ·exact O.frame _ _ _ r fun b hb o e=>old b o e
  ·intro b hb
   exact⟨(fad b hb).1,mem_all _ (fad b hb).2.1 (below b (adlt b hb)).1,fun o p=>p.2.2.2 hb,(fad b hb).2.2.2⟩
 exact codeAny_compStart_list (loop _ rfl) (O.self its _ _ _ (O.frame _ _ _ r fun b hb o e=>old b o e) (loop _ rfl))
end
end Mine
end

section
namespace Mine
open PySem PySem.W PySem.Calls PyProof.Rows PySem.SeqAt
section
variable {W:Wd}{T:Tx W}{c:Cx}{K:Kc}{G:Gl}{hd:Bool}

theorem ex_false {P:Addr→Obj→Prop}{ρ:Loc}{e:Value}{s:Shared} (h:EX W c P ρ (fun ξ ξ=>False) e s):False:=by cases h with | mk _ _ _ _ x=>exact x

theorem comp_any {t:Tg}{src:Sr}{x tx sx:Expr}{ifs:List Expr}{scope:Scope}{p:Pos}{P:Addr→Obj→Prop}{ρ:Loc}{H:Hp}{s:Shared}{Q:V→Hp→Prop}{X:String→Hp→Prop}{use:Option (Value→Sem Unit)}{QQ:Value→Shared→Prop}{E:Value→Shared→Prop}{pp:Pos}
  {elt:Loc→(V→Hp→Prop)→Hp→Prop}{test:Loc→(Bool→Hp→Prop)→Hp→Prop}
  (C:CxOk T c K false) (hin:K.inC=false) (hc:cOk K scope t=true) (hs:∀v,foldedSetIterable sx c.env v=pure v) (hsrc:SS W c G false src sx) (mt:MTg (K.comp scope) t tx)
  (hE:∀z c',CxOk (T.z z) c' (K.comp scope) false→c'.A=c.A→∀(P':Addr→Obj→Prop) (ρ':Loc) (H':Hp) (s':Shared) (Q:V→Hp→Prop),Sim (W.z z) c' P' ρ' H' s'→elt ρ' Q H'→wpAny (model W.prog W.w) c.A (eval x c'.env) (PE (W.z z) c' P' ρ' Q) (fun ξ ξ=>False) s')
  (hT:∀z c',CxOk (T.z z) c' (K.comp scope) false→c'.A=c.A→∀(P':Addr→Obj→Prop) (ρ':Loc) (H':Hp) (s':Shared) (B:Bool→Hp→Prop),Sim (W.z z) c' P' ρ' H' s'→test ρ' B H'→wpAny (model W.prog W.w) c.A (forIn ifs true fun cx r=>if r=true then do let ok ←isTrue cx c'.env (eval cx c'.env);pure (ForInStep.yield ok) else pure (ForInStep.yield r)) (fun b s''=>∃H'',Sim (W.z z) c' P' ρ' H'' s''∧B b H'') (fun ξ ξ=>False) s')
  (S:Sim W c P ρ H s) (w:wpSr G false src ρ (fun its w H₁=>compGo t w ρ elt test its [] (fun vs H₂=>newL vs Q H₂) H₁) X H)
  (hX:∀e s',EX W c P ρ X e s'→E e s') (hQ:∀D C' s',CompEnd W c P ρ Q D C' s'→compPost (model W.prog W.w) c.A E use QQ (.ref D) C' (.ok .next) s') :
  wpAny (model W.prog W.w) c.A (comprehension (.ListComp x [⟨tx,sx,ifs,0⟩] scope p) scope c.env pp (newList []) false (eval sx c.env) use) QQ E s:=by
 obtain⟨h1,h2,h3,h4,h5⟩:=cOk_spec hc
 obtain⟨cl,ecl,e2,e3⟩:=closure_of C hc
 refine wpAny_comprehension_free rfl hs ecl h1 h3 (wpAny_mono (hsrc P ρ H s _ X rfl S w) (fun xv s₁ g₁=>wpAny_mono g₁ (fun it s₂ g₂=>?_) hX) hX)
 obtain⟨I,ad,w',R,its,H₂,z,rfl,O,r,S₂,fad,g⟩:=g₂
 exact comp_core (Q:=Q) (RR:=fun acc C'=>compPost (model W.prog W.w) c.A E use QQ acc C') C hin hc e2 e3 mt O r S₂ fad g (hE z) (hT z) hQ

theorem comp_end {P:Addr→Obj→Prop}{ρ:Loc}{Q:V→Hp→Prop}{E:Value→Shared→Prop}{D C':Addr}{s':Shared} (h:CompEnd W c P ρ Q D C' s'):compPost (model W.prog W.w) c.A E none (PE W c P ρ Q) (.ref D) C' (.ok .next) s':=by
 obtain⟨⟨m,hn⟩,_,_,_,_,vs,H',hD,hq,_,hS⟩:=h
 exact⟨m,hn,fun h'' hs=>⟨.ref D,_,hS h'' hs,.ref D,hq.2 D hD⟩⟩

theorem se_comp {elt t src x tx sx scope p} (C:CxOk T c K hd) (hin:K.inC=false) (hc:cOk K scope t=true) (hs:∀v,foldedSetIterable sx c.env v=pure v) (hsrc:SS W c G hd src sx) (mt:MTg (K.comp scope) t tx)
  (hE:∀z c',CxOk (T.z z) c' (K.comp scope) hd→c'.A=c.A→SE (W.z z) c' G hd elt x):SE W c G hd (.comp elt t src) (.ListComp x [⟨tx,sx,[],0⟩] scope p):=fun P ρ H s Q X S w=>by
 replace w:=qE_comp.mp w
 obtain⟨rfl,w⟩:=w
 rw[eval_ListComp]
 refine comp_any (Q:=Q) C hin hc hs hsrc mt (fun z c' C' hA P' ρ' H' s' Q' S' w'=>?_) (fun z c' C' hA P' ρ' H' s' B S' w'=>wpAny_tests_nil ⟨H',S',w'⟩) S w (fun ξ ξ e=>e) fun D C' s' h=>comp_end h
 exact wpAny_mono (hA▸hE z c' C' hA P' ρ' H' s' Q' _ S' w') (fun ξ ξ z=>z) fun ξ ξ z=>ex_false z
theorem se_compIf {elt t src d x tx sx cx scope p} (C:CxOk T c K hd) (hin:K.inC=false) (hc:cOk K scope t=true) (hs:∀v,foldedSetIterable sx c.env v=pure v) (hsrc:SS W c G hd src sx) (mt:MTg (K.comp scope) t tx)
  (hE:∀z c',CxOk (T.z z) c' (K.comp scope) hd→c'.A=c.A→SE (W.z z) c' G hd elt x) (hT:∀z c',CxOk (T.z z) c' (K.comp scope) hd→c'.A=c.A→ST (W.z z) c' G hd d cx):SE W c G hd (.compIf elt t src d) (.ListComp x [⟨tx,sx,[cx],0⟩] scope p):=fun P ρ H s Q X S w=>by
 replace w:=qE_compIf.mp w
 obtain⟨rfl,w⟩:=w
 rw[eval_ListComp]
 refine comp_any (Q:=Q) C hin hc hs hsrc mt (fun z c' C' hA P' ρ' H' s' Q' S' w'=>?_) (fun z c' C' hA P' ρ' H' s' B S' w'=>wpAny_tests_one ?_) S w (fun ξ ξ e=>e) fun D C' s' h=>comp_end h
 ·exact wpAny_mono (hA▸hE z c' C' hA P' ρ' H' s' Q' _ S' w') (fun ξ ξ z=>z) fun ξ ξ z=>ex_false z
 ·exact wpAny_mono (hA▸hT z c' C' hA P' ρ' H' s' B _ S' w') (fun ξ ξ z=>z) fun ξ ξ z=>ex_false z

theorem se_st {e x} (h:SE W c G hd e x) (he:∀whole,isTrue x c.env whole=(do let v ←whole;standAt x.pos;holding [v] (truthy v))):SE W c G hd e x∧ST W c G hd e x:=⟨h,st_plain h he⟩
end
theorem ff {P:Prop}{b:Bool} (h:b=true) (e:b=false):P:=by rw[e] at h;cases h

noncomputable def OkE {W:Wd} (T:Tx W) (G:Gl) (hd:Bool) (e:Ex):Prop:=∀(K:Kc) (x:Expr),(encE e K x).1=true→Pl (encE e K x).2∧∀(z:Addr→Prop) (c:Cx) (_:CxOk (T.z z) c K hd) (_:hd=false→∀z,GOk (T.z z) G c.A),SE (W.z z) c G hd e (encE e K x).2∧ST (W.z z) c G hd e (encE e K x).2
noncomputable def OkEs {W:Wd} (T:Tx W) (G:Gl) (hd:Bool) (e:Exs):Prop:=∀(K:Kc) (x:List Expr),(encEs e K x).1=true→NSs (encEs e K x).2∧∀(z:Addr→Prop) (c:Cx) (_:CxOk (T.z z) c K hd) (_:hd=false→∀z,GOk (T.z z) G c.A),SEs (W.z z) c G hd e (encEs e K x).2∧SB (W.z z) c G hd e (encEs e K x).2
noncomputable def OkR {W:Wd} (T:Tx W) (G:Gl) (hd:Bool) (e:Sr):Prop:=∀(K:Kc) (x:Expr),(encR e K x).1=true→Pl (encR e K x).2∧∀(z:Addr→Prop) (c:Cx) (_:CxOk (T.z z) c K hd) (_:hd=false→∀z,GOk (T.z z) G c.A),SS (W.z z) c G hd e (encR e K x).2∧(enB e=true→K.gl (Str.ofString "enumerate")=true→∀q p,SS (W.z z) c G hd (.enum e) (.Call (.Name (Str.ofString "enumerate") q) [(encR e K x).2] [] p))

set_option maxHeartbeats 4000000
theorem sound_E {W:Wd}{T:Tx W}{G:Gl}{hd:Bool} (hG:G.anc=T.anc):(∀e,OkE T G hd e)∧∀e,OkR T G hd e:=by
 refine⟨@Ex.rec (OkE T G hd) (OkEs T G hd) (OkR T G hd)
  ?none
  ?bool
  ?int
  ?str
  ?var
  ?glob
  ?bin
  ?neg
  ?nt
  ?cmp
  ?cmp2
  ?bop
  ?list
  ?tup
  ?dict0
  ?idx
  ?rev
  ?call
  ?bc
  ?mt
  ?isi
  ?comp
  ?compIf
  ?nil
  ?cons
  ?ex
  ?range1
  ?range2
  ?range3
  ?enum
  ?zip
  ,@Sr.rec (OkE T G hd) (OkEs T G hd) (OkR T G hd)
  ?none
  ?bool
  ?int
  ?str
  ?var
  ?glob
  ?bin
  ?neg
  ?nt
  ?cmp
  ?cmp2
  ?bop
  ?list
  ?tup
  ?dict0
  ?idx
  ?rev
  ?call
  ?bc
  ?mt
  ?isi
  ?comp
  ?compIf
  ?nil
  ?cons
  ?ex
  ?range1
  ?range2
  ?range3
  ?enum
  ?zip
  ⟩
 case none=>intro K x _;exact⟨pl_of rfl,fun z c C O=>se_st se_const fun ξ=>rfl⟩
 case bool=>intro b K x _;exact⟨pl_of rfl,fun z c C O=>se_st se_bool fun ξ=>rfl⟩
 case int=>intro b K x _;exact⟨pl_of rfl,fun z c C O=>se_st se_int fun ξ=>rfl⟩
 case str=>intro b K x _;exact⟨pl_of rfl,fun z c C O=>se_st se_str fun ξ=>rfl⟩
 case var=>intro b K x h;exact⟨pl_of rfl,fun z c C O=>se_st (sound_var C h) fun ξ=>rfl⟩
 case glob=>intro y n K x h;exact⟨pl_of rfl,fun z c C O=>se_st (se_glob C (an h).1 (beq_iff_eq.mp (an h).2)) fun ξ=>rfl⟩
 case bin=>intro op a b ha hb K x h;exact⟨pl_of rfl,fun z c C O=>se_st (se_bin ((ha _ _ (an h).1).2 z c C O).1 ((hb _ _ (an h).2).2 z c C O).1) fun ξ=>rfl⟩
 case neg=>intro a ha K x h;exact⟨pl_of rfl,fun z c C O=>se_st (se_neg ((ha _ _ h).2 z c C O).1) fun ξ=>rfl⟩
 case nt=>intro a ha K x h;exact⟨pl_of rfl,fun z c C O=>⟨se_nt ((ha _ _ h).2 z c C O).1,st_nt ((ha _ _ h).2 z c C O).2⟩⟩
 case cmp=>intro op a b ha hb K x h;exact⟨pl_of rfl,fun z c C O=>⟨se_cmp C ((hb _ _ (an h).2).1.mark _) ((ha _ _ (an h).1).2 z c C O).1 ((hb _ _ (an h).2).2 z c C O).1,st_cmp C ((hb _ _ (an h).2).1.mark _) ((ha _ _ (an h).1).2 z c C O).1 ((hb _ _ (an h).2).2 z c C O).1⟩⟩
 case cmp2=>intro o1 o2 a b d ha hb hd K x h;exact⟨pl_of rfl,fun z c C O=>⟨se_cmp2 C ((hd _ _ (an (an h).2).2).1.mark _) ((ha _ _ (an h).1).2 z c C O).1 ((hb _ _ (an (an h).2).1).2 z c C O).1 ((hd _ _ (an (an h).2).2).2 z c C O).1,st_cmp2 C ((hd _ _ (an (an h).2).2).1.mark _) ((ha _ _ (an h).1).2 z c C O).1 ((hb _ _ (an (an h).2).1).2 z c C O).1 ((hd _ _ (an (an h).2).2).2 z c C O).1⟩⟩
 case bop=>intro j es ih K x h;refine⟨pl_of rfl,fun z c C O=>?_⟩;have ih:=((ih _ _ h).2 z c C O).2;cases j;exact⟨se_or ih,st_or ih⟩;exact⟨se_and ih,st_and ih⟩
 case list=>intro es ih K x h;exact⟨pl_of rfl,fun z c C O=>se_st (se_list ((ih _ _ h).2 z c C O).1) fun ξ=>rfl⟩
 case tup=>intro es ih K x h;exact⟨pl_of rfl,fun z c C O=>se_st (se_tup ((ih _ _ h).2 z c C O).1) fun ξ=>rfl⟩
 case dict0=>intro K x h;exact⟨pl_of rfl,fun z c C O=>se_st (se_dict0 (T.z z).mods) fun ξ=>rfl⟩
 case idx=>intro a b ha hb K x h;exact⟨pl_of rfl,fun z c C O=>se_st (se_idx (hb _ _ (an h).2).1.sub ((ha _ _ (an h).1).2 z c C O).1 ((hb _ _ (an h).2).2 z c C O).1) fun ξ=>rfl⟩
 case rev=>intro a ha K x h;exact⟨pl_of rfl,fun z c C O=>se_st (se_rev ((ha _ _ (an h).1).2 z c C O).1 (se_neg se_int)) fun ξ=>rfl⟩
 case call=>intro f es ih K x h;have i:=ih _ _ (an (an h).2).2;exact⟨pl_of rfl,fun z c C O=>se_st (se_call (nem_of (an (an h).2).1) C (fun q=>O q z) (an (an h).1).1 (an (an h).1).2 i.1 (i.2 z c C O).1) fun ξ=>rfl⟩
 case bc=>intro f es ih K x h;have i:=ih _ _ (an (an h).2).2;exact⟨pl_of rfl,fun z c C O=>se_st (se_bcS (nem_of (an (an h).2).1) C (an (an h).1).1 i.1 (i.2 z c C O).1) fun ξ=>rfl⟩
 case mt=>intro m a es ha ih K x h;have i:=ih _ _ (an (an (an h).2).2).2;exact⟨pl_of rfl,fun z c C O=>se_st (se_mt (of_decide_eq_true (an (an h).1).1) C (an (an (an h).1).2).1 (ab_of (an (an (an h).1).2).2 _ _ _) (Nat.le_of_ble_eq_true (an (an h).2).1) i.1 ((ha _ _ (an (an (an h).2).2).1).2 z c C O).1 (i.2 z c C O).1) fun ξ=>rfl⟩
 case isi => 
  intro a cs ha K x h
  have i:=ha _ _ (an (an (an h).2).2).1
  have g:=(an (an h).1).1
  have hc:=(an (an (an (an h).2).2).2).1
  refine⟨pl_of rfl,fun z c C O=>?_⟩
  cases cs with
  | nil=>cases hc
  | cons d r=>cases r with
   | nil=>exact se_st (se_isi1 (T:=T.z z) hG C g i.1 (i.2 z c C O).1 (cn_ok hc)) fun ξ=>rfl
   | cons e r=>exact se_st (se_isiN (T:=T.z z) (Nat.le_of_succ_le_succ (Nat.le_of_succ_le_succ (Nat.le_of_ble_eq_true (an (an h).1).2))) hG C g i.1 (i.2 z c C O).1 (cnl_ok hc)) fun ξ=>rfl
 case comp=>intro a t s ha hs K x h;have i:=hs _ _ (an (an (an h).2).2).1;have j:=ha _ _ (an (an (an (an h).2).2).2).1;exact⟨pl_of rfl,fun z c C O=>se_st (se_comp C (Bool.not_eq_true' _▸(an (an h).1).1) (an (an h).1).2 (i.1.fold _) (i.2 z c C O).1 (tg_ok (an (an h).2).1) fun z c' C' hA=>(j.2 z c' C' (hA▸O)).1) fun ξ=>rfl⟩
 case compIf=>intro a t s d ha hs hd K x h;have i:=hs _ _ (an (an (an h).2).2).1;have j:=ha _ _ (an (an (an (an h).2).2).2).1;have k:=hd _ _ (an (an (an (an (an h).2).2).2).2).1;exact⟨pl_of rfl,fun z c C O=>se_st (se_compIf C (Bool.not_eq_true' _▸(an (an h).1).1) (an (an h).1).2 (i.1.fold _) (i.2 z c C O).1 (tg_ok (an (an h).2).1) (fun z c' C' hA=>(j.2 z c' C' (hA▸O)).1) fun z c' C' hA=>(k.2 z c' C' (hA▸O)).2) fun ξ=>rfl⟩
 case nil=>intro K xs _;exact⟨fun ξ ξ=>rfl,fun z c C O=>⟨ses_nil,.nil⟩⟩
 case cons=>intro e r he hr K xs h;have i:=he _ _ (an h).1;have j:=hr _ _ (an h).2;exact⟨nss_cons i.1 j.1,fun z c C O=>⟨ses_cons i.1.star (i.2 z c C O).1 (j.2 z c C O).1,.cons (i.2 z c C O).1 (i.2 z c C O).2 (j.2 z c C O).2⟩⟩
 case ex=>intro e he K x h;have i:=he _ _ h;exact⟨i.1,fun z c C O=>⟨ss_ex C (i.2 z c C O).1,fun h=>ff h rfl⟩⟩
 case range1=>intro a ha K x h;have i:=ha _ _ (an (an (an h).2).2).1;exact⟨pl_of rfl,fun z c C O=>⟨ss_range1 C (an (an h).1).1 i.1 (i.2 z c C O).1,fun h=>ff h rfl⟩⟩
 case range2=>intro a b ha hb K x h;have i:=ha _ _ (an (an (an h).2).2).1;have j:=hb _ _ (an (an (an (an h).2).2).2).1;exact⟨pl_of rfl,fun z c C O=>⟨ss_range2 C (an (an h).1).1 i.1 j.1 (i.2 z c C O).1 (j.2 z c C O).1,fun h=>ff h rfl⟩⟩
 case range3=>intro a b d ha hb hd K x h;have i:=ha _ _ (an (an (an h).2).2).1;have j:=hb _ _ (an (an (an (an h).2).2).2).1;have k:=hd _ _ (an (an (an (an (an h).2).2).2).2).1;exact⟨pl_of rfl,fun z c C O=>⟨ss_range3 C (an (an h).1).1 i.1 j.1 k.1 (i.2 z c C O).1 (j.2 z c C O).1 (k.2 z c C O).1,fun ξ g q p=>ss_enumR3 C g (an (an h).1).1 i.1 j.1 k.1 (i.2 z c C O).1 (j.2 z c C O).1 (k.2 z c C O).1⟩⟩
 case enum=>intro s hs K x h;have i:=hs _ _ (an (an (an h).2).2).1;exact⟨pl_of rfl,fun z c C O=>⟨(i.2 z c C O).2 (an (an h).1).2 (an (an h).1).1 _ _,fun h=>ff h rfl⟩⟩
 case zip=>intro a b ha hb K x h;have i:=ha _ _ (an (an (an h).2).2).1;have j:=hb _ _ (an (an (an (an h).2).2).2).1;exact⟨pl_of rfl,fun z c C O=>⟨ss_zip C (an (an h).1).1 i.1 j.1 (i.2 z c C O).1 (j.2 z c C O).1,fun h=>ff h rfl⟩⟩
end Mine
end

section
namespace Mine
open PySem PySem.W PySem.Calls PyProof.Rows PySem.SeqAt
section
variable {W:Wd}{T:Tx W}{c:Cx}{K:Kc}{G:Gl}{hd:Bool}

noncomputable def PS (W:Wd) (c:Cx) (P:Addr→Obj→Prop) (N:Loc→Hp→Prop) (R:V→Hp→Prop):Flow→Shared→Prop:=fun f s'=>match f with
 | .next=>∃ρ' H',Sim W c P ρ' H' s'∧N ρ' H'
 | .ret u=>∃v ρ' H',Sim W c P ρ' H' s'∧Rep W s'.heap v u∧R v H'
 | _=>False
theorem PS.weaken {P P':Addr→Obj→Prop}{N:Loc→Hp→Prop}{R:V→Hp→Prop}{f:Flow}{s':Shared} (h:PS W c P' N R f s') (q:∀b o,P b o→P' b o):PS W c P N R f s':=by
 cases f with
 | next=>obtain⟨ρ',H',S,n⟩:=h;exact⟨ρ',H',S.weaken q,n⟩
 | ret u=>obtain⟨v,ρ',H',S,r,n⟩:=h;exact⟨v,ρ',H',S.weaken q,r,n⟩
 | _=>exact h.elim
theorem PS.down {z:Addr→Prop}{P:Addr→Obj→Prop}{N:Loc→Hp→Prop}{R:V→Hp→Prop}{f:Flow}{s':Shared} (hz:∀b,W.scr b→z b) (h:PS (W.z z) c P N R f s'):PS W c P N R f s':=by
 cases f with
 | next=>obtain⟨ρ',H',S,n⟩:=h;exact⟨ρ',H',S.down hz,n⟩
 | ret u=>obtain⟨v,ρ',H',S,r,n⟩:=h;exact⟨v,ρ',H',S.down hz,r.monoZ (z:=W.scr) (.refl _) (fun ξ ξ ξ ξ ξ ξ ξ q w=>q (hz _ w)),n⟩
 | _=>exact h.elim
theorem EXs.down {z:Addr→Prop}{P:Addr→Obj→Prop}{X:String→Loc→Hp→Prop}{e:Value}{s':Shared} (hz:∀b,W.scr b→z b) (h:EXs (W.z z) c P X e s'):EXs W c P X e s' :=
 let ⟨k,ρ',H',S,F,x⟩:=h;⟨k,ρ',H',S.down hz,F.down,x⟩
noncomputable def SX (W:Wd) (c:Cx) (G:Gl) (hd:Bool) (e:St) (x:Stmt):Prop:=∀(P:Addr→Obj→Prop) (ρ:Loc) (H:Hp) (s:Shared) (N:Loc→Hp→Prop) (R:V→Hp→Prop) (X:String→Loc→Hp→Prop),Sim W c P ρ H s→wpS G hd e ρ N R X H→wpAny (model W.prog W.w) c.A (exec x c.env) (PS W c P N R) (EXs W c P X) s
noncomputable def SXs (W:Wd) (c:Cx) (G:Gl) (hd:Bool) (e:Sts) (x:List Stmt):Prop:=∀(P:Addr→Obj→Prop) (ρ:Loc) (H:Hp) (s:Shared) (N:Loc→Hp→Prop) (R:V→Hp→Prop) (X:String→Loc→Hp→Prop),Sim W c P ρ H s→wpSs G hd e ρ N R X H→wpAny (model W.prog W.w) c.A (execs x c.env) (PS W c P N R) (EXs W c P X) s

theorem sx_pass {p}:SX W c G hd .pass (.Pass p):=fun P ρ H s N R X S w=>wpAny_Pass ⟨ρ,H,S,by simpa [qS_asg,qS_asg2,qS_setIt,qS_ex,qS_ret,qS_ife,qS_whl,qS_for,qS_raise,qS_tr,qS_pass] using w⟩
theorem sx_ret {e x p} (h:SE W c G hd e x):SX W c G hd (.ret e) (.Return (some x) p):=fun P ρ H s N R X S w=>by
 replace w:=qS_ret.mp w
 exact wpAny_Return_some (wpAny_mono (h P ρ H s _ _ S w) (fun u s₁ ⟨v,H₁,S₁,r,q⟩=>⟨v,ρ,H₁,S₁,r,q⟩) fun ξ ξ z=>z.toS)
theorem sx_asg {i e x v p q} (C:CxOk T c K hd) (g:K.tgt i x=true) (hs:swapsWith v (some (.Name x p)) q.line c.env=pure false) (h:SE W c G hd e v):SX W c G hd (.asg i e) (.Assign [.Name x p] v q):=fun P ρ H s N R X S w=>by
 replace w:=qS_asg.mp w
 refine wpAny_Assign_Name (wpAny_mono (h P ρ H s _ _ S w) (fun u s₁ hx=>?_) fun ξ ξ z=>z.toS) hs
 obtain⟨v,H₁,S₁,r,q⟩:=hx
 exact sound_store C S₁ g r fun s₂ S₂ ξ=>⟨_,_,S₂,q⟩
theorem sx_ex {e v q} (C:CxOk T c K hd) (hs:swapsWith v none q.line c.env=pure false) (h:SE W c G hd e v):SX W c G hd (.ex e) (.Expr v q):=fun P ρ H s N R X S w=>by
 replace w:=qS_ex.mp w
 refine wpAny_Expr_any (wpAny_mono (h P ρ H s _ _ S w) (fun u s₁ ⟨v,H₁,S₁,r,q⟩=>⟨_,_,S₁,q⟩) fun ξ ξ z=>z.toS) ?_ hs
 unfold interactive;rw[C.sc,C.kind];rfl
theorem sx_if {d a b x y z p} (hc:ST W c G hd d x) (ha:SXs W c G hd a y) (hb:SXs W c G hd b z):SX W c G hd (.ife d a b) (.If x y z p):=fun P ρ H s N R X S w=>by
 replace w:=qS_ife.mp w
 refine wpAny_If (wpAny_mono (hc P ρ H s _ _ S w) (fun t s₁ hx=>?_) fun ξ ξ z=>z.toS)
 obtain⟨H₁,S₁,q⟩:=hx
 cases t with
 | true=>simp only[if_true] at q ⊢;exact ha P ρ H₁ s₁ N R X S₁ q
 | false=>simp only[Bool.false_eq_true,if_false] at q ⊢;exact hb P ρ H₁ s₁ N R X S₁ q
theorem sxs_nil:SXs W c G hd .nil []:=fun P ρ H s N R X S w=>wpAny_execs_nil ⟨ρ,H,S,by simpa [qSs_nil,qSs_cons] using w⟩
theorem sxs_cons {e r x xs} (h1:SX W c G hd e x) (h2:SXs W c G hd r xs):SXs W c G hd (.cons e r) (x :: xs):=fun P ρ H s N R X S w=>by
 replace w:=qSs_cons.mp w
 rw[execs_cons]
 refine wpAny_bind (wpAny_mono (h1 P ρ H s _ R X S w) (fun f s₁ h₁=>?_) fun ξ ξ z=>z)
 cases f with
 | next=>obtain⟨ρ',H',S',n⟩:=h₁;exact h2 P ρ' H' s₁ N R X S' n
 | ret u=>exact wpAny_pure h₁
 | _=>exact h₁.elim

theorem while_step {A:Around}{R:Result→Shared→Prop}{s:Shared}{test:Expr}{body:List Stmt}{env:Env}
  (h:wpAny (model W.prog W.w) A (isTrue test env (eval test env)) (fun b s₂ =>
    if b then wpAny (model W.prog W.w) A (execs body env) (fun f s₃=>match f with
      | .next | .cont=>codeAny (model W.prog W.w) A (.whileLoop test body [] env) R s₃
      | .brk=>R (.ok .next) s₃
      | .ret v=>R (.ok (.ret v)) s₃) (notedBy (model W.prog W.w) A env fun e s'=>R (.error e) s') s₂
    else R (.ok .next) s₂)
    (notedBy (model W.prog W.w) A env fun e s'=>R (.error e) s') s):codeAny (model W.prog W.w) A (.whileLoop test body [] env) R s:=by
 refine codeAny_of_tree ?_
 show wpAny _ A ((whileTurn test body [] env).onRaise (fun x=>do noteFrame x env;theTreesLotGoes x)) _ _ s
 refine wpAny_noted ?_
 simp only[whileTurn]
 refine wpAny_bind (wpAny_mono h (fun b s₂ h₂=>?_) fun ξ ξ h'=>h')
 cases b with
 | false =>
  simp only[Bool.false_eq_true,if_false] at h₂ ⊢
  exact wpAny_bind (wpAny_execs_nil (wpAny_pure h₂))
 | true =>
  simp only[if_true] at h₂ ⊢
  refine wpAny_bind (wpAny_mono h₂ (fun f s₃ h₃=>?_) fun ξ ξ h'=>h')
  cases f with
  | next=>exact wpAny_pure ⟨rfl,h₃⟩
  | cont=>exact wpAny_pure ⟨rfl,h₃⟩
  | brk=>exact wpAny_pure h₃
  | ret v=>exact wpAny_pure h₃

structure FxOk {W:Wd} (T:Tx W) (c:Cx) (K:Kc) (hd:Bool):Prop extends CxOk T c K hd where
 head:∃outer,c.fenvs=c.env :: outer
 fr:∃L,c.env.frame=some L
 inF:K.inC=false

theorem FxOk.z (C:FxOk T c K hd) (z:Addr→Prop):FxOk (T.z z) c K hd:=⟨C.toCxOk.z z,C.head,C.fr,C.inF⟩
theorem FxOk.passes (C:FxOk T c K hd) {P:Addr→Obj→Prop}{X:String→Loc→Hp→Prop}{e:Value}{s':Shared} (h:EXs W c P X e s'):notedBy (model W.prog W.w) c.A c.env (fun e s'=>cameBackBy (model W.prog W.w) c.A c.env (EXs W c P X) e s') e s':=by
 obtain⟨outer,ho⟩:=C.head
 obtain⟨L,hL⟩:=C.fr
 exact passes_own (A:=c.A) (by rw[C.frames,ho]) ho hL e s' h

theorem sx_while {d b x y p} (C:FxOk T c K hd) (hc:ST W c G hd d x) (hb:SXs W c G hd b y):SX W c G hd (.whl d b) (.While x y [] p):=fun P ρ H s N R X S w=>by
 replace w:=qS_whl.mp w
 refine wpAny_While ?_
 refine w (fun ρ' H'=>∀s',Sim W c P ρ' H' s'→codeAny (model W.prog W.w) c.A (.whileLoop x y [] c.env) (fun r s'=>match r with | .ok f=>PS W c P N R f s' | .error e=>cameBackBy (model W.prog W.w) c.A c.env (EXs W c P X) e s') s') (fun ρ' H' h s' S'=>?_) s S
 refine while_step (wpAny_mono (hc P ρ' H' s' _ _ S' h) (fun t s₁ hx=>?_) fun e s' z=>C.passes z.toS)
 obtain⟨H₁,S₁,q⟩:=hx
 cases t with
 | false=>simp only[Bool.false_eq_true,if_false] at q ⊢;exact⟨_,_,S₁,q⟩
 | true =>
  simp only[if_true] at q ⊢
  refine wpAny_mono (hb P ρ' H₁ s₁ _ R X S₁ q) (fun f s₂ h₂=>?_) fun e s' z=>C.passes z
  cases f with
  | next=>obtain⟨ρ₂,H₂,S₂,n⟩:=h₂;exact n s₂ S₂
  | ret u=>exact h₂
  | _=>exact h₂.elim

theorem for_step {A:Around}{R:Result→Shared→Prop}{s:Shared}{target:Expr}{it:Value}{body:List Stmt}{env:Env}
  (h:wpAny (model W.prog W.w) A (pyNext it) (fun r s₁=>match r with
   | none=>R (.ok .next) s₁
   | some v=>wpAny (model W.prog W.w) A (letOwnedTupleGo target it v) (fun ξ s₁'=>wpAny (model W.prog W.w) A (assign target env v) (fun ξ s₂=>wpAny (model W.prog W.w) A (execs body env) (fun f s₃=>match f with
     | .next | .cont=>codeAny (model W.prog W.w) A (.forLoop target it body [] env) R s₃
     | .brk=>R (.ok .next) s₃
     | .ret v=>R (.ok (.ret v)) s₃) (notedBy (model W.prog W.w) A env fun e s'=>R (.error e) s') s₂) (notedBy (model W.prog W.w) A env fun e s'=>R (.error e) s') s₁') (notedBy (model W.prog W.w) A env fun e s'=>R (.error e) s') s₁) (notedBy (model W.prog W.w) A env fun e s'=>R (.error e) s') s) :
  codeAny (model W.prog W.w) A (.forLoop target it body [] env) R s:=by
 refine codeAny_of_tree ?_
 show wpAny _ _ ((forTurn target it body [] env).onRaise (fun x=>do noteFrame x env;theTreesLotGoes x)) _ _ s
 refine wpAny_noted ?_
 simp only[forTurn]
 refine wpAny_bind (wpAny_standAt (wpAny_bind (wpAny_onRaise (wpAny_mono h (fun r s₁ h₁=>?_) fun ξ ξ h'=>wpAny_standAt h'))))
 cases r with
 | none=>exact wpAny_pure ⟨rfl,codeAny_block (wpAny_execs_nil h₁)⟩
 | some v =>
  refine wpAny_bind (wpAny_mono h₁ (fun ξ s₁' h₁'=>?_) fun ξ ξ h'=>h')
  refine wpAny_bind (wpAny_mono h₁' (fun ξ s₂ h₂=>wpAny_bind (wpAny_mono h₂ (fun f s₃ h₃=>?_) fun ξ ξ h'=>h')) fun ξ ξ h'=>h')
  cases f with
  | next=>exact wpAny_pure ⟨rfl,h₃⟩
  | cont=>exact wpAny_pure ⟨rfl,h₃⟩
  | brk=>exact wpAny_pure h₃
  | ret v=>exact wpAny_pure h₃

theorem for_turns {z:Addr→Prop}{I:Addr}{ad:List Addr}{w:List (Addr×Ob)}{RI:List It→Heap→Prop}{t:Tg}{tx:Expr}{b:Sts}{y:List Stmt}{P:Addr→Obj→Prop}{N:Loc→Hp→Prop}{R:V→Hp→Prop}{X:String→Loc→Hp→Prop}
  (C:FxOk T c K false) (O:ItOk W z c.A I ad w RI) (m:MTg K t tx) (hb:SXs (W.z z) c G false b y) :
  ∀(its:List It) (ρ:Loc) (H:Hp) (s:Shared),Sim (W.z z) c P ρ H s→RI its s.heap→(∀b∈ad,Free W c P H b)→forGo t w (fun ρ' KK H₂=>wpSs G false b ρ' KK R X H₂) its ρ N H →
   codeAny (model W.prog W.w) c.A (.forLoop tx (.ref I) y [] c.env) (fun r s'=>match r with | .ok f=>PS W c P N R f s' | .error e=>cameBackBy (model W.prog W.w) c.A c.env (EXs W c P X) e s') s
 | [],ρ,H,s,S,r,fad,g=>by
  refine for_step (wpAny_mono (O.fin c P ρ H s _ rfl S fad g.1 r) (fun q s₁ h₁=>?_) fun ξ ξ z=>z)
  obtain⟨rfl,S₁,_⟩:=h₁
  exact⟨ρ,H,S₁,g.2⟩
 | it :: its,ρ,H,s,S,r,fad,g=>by
  obtain⟨ok,ρ',eb,g⟩:=g
  refine for_step (wpAny_mono (O.item c P ρ H s it its tx _ rfl S fad ok r (m.xi eb)) (fun q s₁ h₁=>?_) fun ξ ξ z=>z)
  obtain⟨v,rfl,h₁⟩:=h₁
  refine wpAny_mono h₁ (fun ξ s₂ hx=>?_) fun ξ ξ z=>z
  obtain⟨S₂,k₂,rv,r₂⟩:=hx
  have S₂':=S₂.addP (fun b o=>b∈ad∧s₂.heap.get? b=some o) fun b o ⟨hbad,e⟩=>⟨e,(fad b hbad).2.2.2,(fad b hbad).out⟩
  have wk:∀b o,P b o→P b o∨(b∈ad∧s₂.heap.get? b=some o):=fun b o p=>.inl p
  refine sound_assign (W:=W.z z) (T:=T.z z) (C.toCxOk.z z) (C.hand rfl) S₂' m eb rv fun s₃ S₃ k₃=>?_
  refine wpAny_mono (hb _ ρ' H s₃ _ R X S₃ g) (fun f s₄ h₄=>?_) fun e s' q=>C.passes ((q.weaken wk).down O.sub)
  cases f with
  | next =>
   obtain⟨ρ₄,H₄,S₄,g₄⟩:=h₄
   exact for_turns C O m hb its ρ₄ H₄ s₄ (S₄.weaken wk) (O.frame _ _ _ r₂ fun b hbad o e=>S₄.prot b o (.inr ⟨hbad,e⟩)) (fun b hbad=>⟨(fad b hbad).1,(fad b hbad).2.1,(fad b hbad).2.2.1,by obtain⟨o,e,_⟩:=O.there _ _ r₂ b hbad;exact S₄.protH b o (.inr ⟨hbad,e⟩)⟩) g₄
  | ret u=>exact (PS.weaken (f:=.ret u) h₄ wk).down O.sub
  | _=>exact h₄.elim

theorem sx_for {t src b tx sx y p} (C:FxOk T c K hd) (hs:∀v,foldedSetIterable sx c.env v=pure v) (hsrc:SS W c G hd src sx) (m:MTg K t tx) (hb:∀z,SXs (W.z z) c G hd b y):SX W c G hd (.for t src b) (.For tx sx y [] p):=fun P ρ H s N R X S w=>by
 replace w:=qS_for.mp w
 obtain⟨rfl,w⟩:=w
 refine wpAny_For (wpAny_mono (hsrc P ρ H s _ _ rfl S w) (fun xv s₁ g₁=>wpAny_mono g₁ (fun it s₂ g₂=>?_) fun ξ ξ z=>z.toS) fun ξ ξ z=>z.toS) hs
 obtain⟨I,ad,w',RI,its,H₂,z,rfl,O,r,S₂,fad,g⟩:=g₂
 exact for_turns C O m (hb z) its ρ H₂ s₂ S₂ r fad g
end
end Mine
end

section
namespace Mine
open PySem PySem.W PySem.Calls PyProof.Rows PySem.SeqAt
section
variable {W:Wd}{T:Tx W}{c:Cx}{K:Kc}{G:Gl}{hd:Bool}

theorem sx_raise {k msg x y q kk p cp pp} (C:CxOk T c K hd) (hx:x=Str.ofString k) (g:K.gl x=true) (hk:K.cls.contains k=true):SX W c G hd (.raise k msg) (.Raise (some (.Call (.Name x q) [.Constant (.str y) kk p] [] cp)) none pp):=fun P ρ H s N R X S w=>by
 subst hx
 replace w:=qS_raise.mp w
 obtain⟨rfl,w⟩:=w
 obtain⟨D,eD,O⟩:=T.own k (C.cls▸hk)
 obtain⟨tl,NN,nm,qq,bs,hdct,sn,sub,ab,col,dd,k0,k1,k2,k3,k5,mN,hC,hN,hni,TT⟩:=O.obj
 refine wpAny_Raise_call_subT (C:=D) (nm:=nm) (q:=qq) (N:=NN) (bs:=bs) (bm:=tl) (hdct:=hdct) (sn:=sn) (sub:=sub) (ab:=ab) (col:=col) (dd:=dd) (k0:=k0) (k1:=k1) (k2:=k2) (k3:=k3) (k5:=k5)
  PySem.F.excBase_ValueError (mN:=mN) (TT.hasType PySem.F.excBase_ValueError.hasBase) (C.hand rfl) rfl hni (sound_global C S g O.bound ⟨rfl,?_⟩)
 refine evalArgs_plain (spliced_cons (Constant_str (k:=kk) (pos:=p) (spliced_nil ?_)))
 have S₁:Sim W c P ρ H { s with toks:=s.toks+1 }:=S.toks _
 have kb:∀b o,W.base.get? b=some o→s.heap.get? b=some o:=fun b o e=>S.base b o e
 refine⟨rfl,by simp [sizeLine_eq],kb _ _ hC,hN.at' fun o e=>kb _ _ e,TT.keeps kb,fun h' e M=>?_⟩
 obtain⟨t,he,htn,ht⟩:=M.there
 obtain⟨f1,f2,f3,f4⟩:=S.fresh M.new
 exact⟨k,ρ,H,S.grow (tk:=s.toks+1) M.keeps,⟨e,D,_,_,.ref t,rfl,eD,he,rfl,rfl,rfl,f1,f3,.inl rfl⟩,w⟩

theorem RepKV.set {h:Heap}{k:Int}{v:V}{u:Value} (r:Rep W h v u) {kvs:List (Int×V)}:∀ {ys:List (Int×Value)},RepKV W h kvs ys→(ys.map (·.1)).Nodup→RepKV W h (dset k v kvs) (stored ys k u):=by
 induction kvs with
 | nil=>intro ys q _;cases q;exact RepKV.cons (k:=k) r .nil
 | cons p kvs ih =>
  intro zs q hn
  obtain⟨⟨j,x⟩,ys,rfl,⟨e,a⟩,b⟩:=q
  obtain⟨i,z⟩:=p
  cases (show j=i from e)
  rw[List.map_cons,List.nodup_cons] at hn
  by_cases q:j=k
  ·subst q
   have hne:∀p∈ys,p.1≠j:=fun p hp e=>hn.1 (List.mem_map.mpr ⟨p,hp,e⟩)
   have e1:stored ((j,x) :: ys) j u=(j,u) :: ys:=by
    unfold stored
    rw[if_pos (by simp)]
    rw[List.map_cons]
    simp only[if_true]
    congr 1
    conv=>rhs;rw[←List.map_id ys]
    apply List.map_congr_left
    intro p hp
    simp [hne p hp]
   rw[e1]
   simp only[dset,if_true]
   exact .cons r b
  ·have ih:=ih b hn.2
   have e1:stored ((j,x) :: ys) k u=(j,x) :: stored ys k u:=by
    unfold stored
    by_cases z:ys.any (fun kv=>decide (kv.1=k))=true
    ·rw[if_pos (by simp only[List.any_cons,z,Bool.or_true]),if_pos z,List.map_cons];simp [q]
    ·rw[if_neg (by simp only[List.any_cons];simp only[Bool.or_eq_true,not_or];exact⟨by simpa using q,z⟩),if_neg z];rfl
   rw[e1]
   simp only[dset,if_neg q]
   exact .cons a ih

theorem dset_length (k:Int) (v:V):∀kvs:List (Int×V),(dset k v kvs).length≤kvs.length+1
 | []=>by simp [dset]
 | (j,x) :: r=>by simp only[dset];split <;> simp;exact dset_length k v r

theorem Reps.set {h:Heap}{v:V}{u:Value} (r:Rep W h v u) {xs:List V}:∀ {us:List Value} (n:Nat),Reps W h xs us→Reps W h (xs.set n v) (us.set n u):=by
 induction xs with
 | nil=>intro us n q;cases q;exact .nil
 | cons x xs ih =>
  intro us n q
  obtain⟨y,ys,rfl,a,b⟩:=q
  cases n with
  | zero=>exact .cons r b
  | succ n=>exact .cons a (ih n b)

theorem sx_setIt {o i v x y z p q} (hs:swapsWith z (some (.Subscript x y p)) q.line c.env=pure false) (ho:SE W c G hd o x) (hi:SE W c G hd i y) (hv:SE W c G hd v z):SX W c G hd (.setIt o i v) (.Assign [.Subscript x y p] z q):=fun P ρ H s N R X S w=>by
 replace w:=qS_setIt.mp w
 refine wpAny_Assign_Subscript (wpAny_mono (hv.two ho S w) (fun u s₁ h₁=>wpAny_mono h₁ (fun uo s₂ ⟨v1,v2,H₂,S₂,r1,r2,q⟩=>?_) fun ξ ξ z=>z.toS) fun ξ ξ z=>z.toS) hs
 refine wpAny_mono (hi.max S₂ q) (fun ui s₃ ⟨kr,v3,H₃,S₃,r3,q⟩=>?_) fun ξ ξ z=>z.toS
 have r1:=r1.mono kr
 have r2:=r2.mono kr
 obtain⟨a,rfl,q⟩:=ref1_inv q
 obtain⟨k,rfl,q⟩:=int1_inv q
 cases r2
 obtain⟨t,rfl⟩:=r3
 rcases ob1_inv q with ⟨xs,ea,⟨h0,h1⟩,q⟩ | ⟨kvs,ea,hlt,q⟩
 ·obtain⟨hl,it,n,g,ri⟩:=S₃.heap _ _ ea
  have hsz:it.size=xs.length:=ri.size
  refine ki_setAt (n:=n) g h0 (by unfold Lim at hl;exact lb [_] [_] (.v 0) (.c (2 ^ 63)) [.b (.v 0) (.t (.n 0)),.L (.n 0) (.c 16777216)] [1,1,1] rfl h1 hl) (by exact lb [_] [_,_] (.v 0) (.t (.n 0)) [.b (.v 0) (.t (.n 1)),.E (.n 0) (.n 1)] [1,1,-1] rfl h1 hsz) ?_
  refine⟨ρ,_,S₃.writeL (xs:=xs.set k.toNat v1) ea g _ (by rw[List.length_set];exact hl) ?_,q⟩
  rw[Array.toList_setIfInBounds]
  exact ri.set r1 k.toNat
 ·obtain⟨⟨hl,hms⟩,ys,hD,rk⟩:=S₃.heap _ _ ea
  have hn:(ys.map (·.1)).Nodup:=by obtain⟨_,_,_,_,_,_,_,_,hn⟩:=hD;exact hn
  have hkl:ys.length=kvs.length:=rk.length
  obtain⟨od,esd,epd,eod,xd,dd,_⟩:=id hD
  refine wpAny_setItem_pairs (k:=k) (intKind_is _ _ _ _) hD (fun h' hD' hs'=>?_) (by rw[sizeLine_eq];unfold Lim at hl;exact lA [] [_,_] (.n 0) (.c 16777216) [.L (.n 1) (.c 16777216),.E (.n 0) (.n 1)] [1,1,1] rfl hl hkl)
  have hk:∀b o,b≠a→s₃.heap.get? b=some o→h'.get? b=some o:=fun b o q e=>hs'.extBut b o q e
  have kr':KeepR W s₃.heap h':=by
   have nt:∀b o,s₃.heap.get? b=some o→(∀es n,o.data≠.dict es n)→b≠a:=fun b o e d q=>by rw[q,eod] at e;cases e;exact d _ _ dd
   exact⟨fun b o i n e k d ξ=>hk b o (nt b o e (by rw[d];exact nofun)) e,fun b o C ws e k d=>⟨o,ws,hk b o (nt b o e (by rw[d];exact nofun)) e,k,d⟩⟩
  refine⟨ρ,_,S₃.write (o:=.dict (dset k v1 kvs)) (tk:=s₃.toks+1) ea hk ⟨⟨?_,hms⟩,_,hD',(rk.set r1 hn).mono kr'⟩,q⟩
  have:=dset_length k v1 kvs
  exact lA [] [_,_,_] (.n 0) (.n 1) [.B (.n 2) (.n 1),.L (.n 0) (.a (.n 2) (.c 1))] [1,1,1] rfl hlt this

theorem sx_asg2 {i j e x y v kk p1 p2 tp q} (C:CxOk T c K hd) (g1:K.tgt i x=true) (g2:K.tgt j y=true) (hs:swapsWithSole [.Tuple [.Name x p1,.Name y p2] kk tp] v q.line c.env=pure false) (hw:swappedStores [.Tuple [.Name x p1,.Name y p2] kk tp] v c.env=pure none) (h:SE W c G hd e v) :
  SX W c G hd (.asg2 i j e) (.Assign [.Tuple [.Name x p1,.Name y p2] kk tp] v q):=fun P ρ H s N R X S w=>by
 replace w:=qS_asg2.mp w
 obtain⟨rfl,w⟩:=w
 refine Assign_Tuple (wpAny_mono (h P ρ H s _ _ S w) (fun u s₁ ⟨v,H₁,S₁,r,q⟩=>?_) fun ξ ξ z=>z.toS) hs hw
 obtain⟨l,rfl,q⟩:=tup1_inv q
 obtain⟨a,b,rfl,hN⟩:=two1_inv q
 exact sound_assign C (C.hand rfl) S₁ (.two g1 g2) (it:=.p a b) rfl r fun s₂ S₂ ξ=>⟨_,_,S₂,hN⟩

theorem Sim.changeD {W:Wd}{c:Cx}{P:Addr→Obj→Prop}{ρ:Loc}{H H':Hp}{s:Shared}{h':Heap}{tk:Nat} (S:Sim W c P ρ H s) (d:Addr)
  (hd:∀o,s.heap.get? d=some o→∃es n,o.data=.dict es n)
  (hnew:W.base.get? d=none) (hall:d∉c.all) (hP:∀o,¬P d o)
  (hk:∀b o,b≠d→s.heap.get? b=some o→h'.get? b=some o)
  (hH:∀b,b≠d→H' b=H b) (hO:∀o,H' d=some o→RepO W h' d o):Sim W c P ρ H' { s with heap:=h',toks:=tk }:=by
 have kr:KeepR W s.heap h':=⟨fun b o ξ ξ e k q ξ=>hk b o (by rintro rfl;obtain⟨_,_,z⟩:=hd o e;rw[q] at z;cases z) e,fun b o C ws e k q=>⟨o,ws,hk b o (by rintro rfl;obtain⟨_,_,z⟩:=hd o e;rw[q] at z;cases z) e,k,q⟩⟩
 have hne:∀b,b∈c.all→b≠d:=fun b hb q=>hall (q▸hb)
 have hloc:d≠c.env.locals:=fun q=>hall (q▸Cx.mem_all_own S.locOwn)
 refine⟨?_,fun b o e=>hk b o (by rintro rfl;rw[hnew] at e;cases e) (S.base b o e),funFrames_at S.frames fun b hb o e d=>⟨o,hk b o (hne b (Cx.mem_all_frs hb)) e,d⟩,fun p hp=>?_,?_,S.locOwn,S.ownNew,S.ownOut,
  fun a o e=>?_,fun a o e=>?_,fun a o e=>?_,fun b o p=>hk b o (by rintro rfl;exact hP o p) (S.prot b o p),fun b o p=>?_,S.protF,fun x a e=>?_,fun b hb=>?_,fun b hb=>(S.scr b hb).at fun o e _ ⟨_,_,q⟩=>hk b o (by rintro rfl;obtain⟨_,_,z⟩:=hd o e;rw[q] at z;cases z) e⟩
 ·obtain⟨h,tk',rfl⟩:=S.rest;exact⟨h',tk,rfl⟩
 ·obtain⟨o,es,ep,e,r⟩:=S.outer p hp
  exact⟨o,es,ep,hk _ _ (hne _ (Cx.mem_all_outer hp)) e,r⟩
 ·obtain⟨m,⟨o,es,ep,e,r⟩,hv⟩:=S.loc
  refine⟨m,⟨o,es,ep,hk _ _ (Ne.symm hloc) e,r⟩,fun i x v h1 h2 h3=>(hv i x v h1 h2 h3).mono kr fun cl o u ξ ho hq=>⟨o,hk _ _ (by rintro rfl;obtain⟨_,_,z⟩:=hd o ho;rw[hq] at z;cases z) ho,rfl⟩⟩
 ·by_cases q:a=d
  ·subst q;exact hO o e
  ·rw[hH a q] at e;exact (S.heap a o e).at kr fun ob h=>hk a ob q h
 ·by_cases q:a=d
  ·subst q;exact hnew
  ·rw[hH a q] at e;exact S.new a o e
 ·by_cases q:a=d
  ·subst q;exact hall
  ·rw[hH a q] at e;exact S.apart a o e
 ·have q:b≠d:=by rintro rfl;exact hP o p
  rw[hH b q];exact S.protH b o p
 ·obtain⟨u,o,e1,e2⟩:=S.cells x a e
  exact⟨u,o,hk a o (by rintro rfl;obtain⟨_,_,z⟩:=hd o e1;rw[e2] at z;cases z) e1,e2⟩
 ·obtain⟨o,e,q⟩:=S.ownD b hb
  exact⟨o,hk b o (hne b (hb.elim Cx.mem_all_own Cx.mem_all_frs)) e,q⟩


theorem comp_use {P:Addr→Obj→Prop}{ρ:Loc}{Q:V→Hp→Prop}{E:Value→Shared→Prop}{D C':Addr}{s':Shared}{i:Nat}{x:Str}{p:Pos}{N:Loc→Hp→Prop} (C:CxOk T c K hd) (g:K.tgt i x=true) (h:CompEnd W c P ρ (fun v H₁=>N (ρ.set i (some v)) H₁) D C' s') :
  compPost (model W.prog W.w) c.A E (some (assign (.Name x p) c.env)) (fun ξ s''=>∃ρ' H',Sim W c P ρ' H' s''∧N ρ' H') (.ref D) C' (.ok .next) s':=by
 obtain⟨⟨m,hn⟩,hP,hown,hfr,⟨hbase,hall⟩,vs,H',hD,hq,hCn,hS⟩:=h
 have S0:=hS s'.heap (Heap.SameBut.refl _ _)
 show wpAny _ _ (assign (.Name x p) c.env (.ref D)) _ _ s'
 obtain⟨oC,esC,epC,eC,dC,rC⟩:=id hn
 have S1:Sim W c (fun b o=>P b o∨(b=C'∧s'.heap.get? b=some o)) ρ (H'.set D (.list vs)) s':=Sim.addP (s:=s') S0 (fun b o=>b=C'∧s'.heap.get? b=some o) fun b o ⟨e,z⟩=>⟨z,e▸hCn,e▸hown,e▸hfr⟩
 refine wpAny_assign_Name (sound_store C S1 g (.ref D) fun s₂ S₂ kr=>?_)
 have eC₂:=S₂.prot C' oC (.inr ⟨rfl,eC⟩)
 refine⟨m,⟨oC,esC,epC,eC₂,dC,rC⟩,fun h'' hs=>⟨_,_,?_,hq.2 D hD⟩⟩
 have S₃:=S₂.weaken (P:=P) fun b o z=>.inl z
 refine S₃.changeD (tk:=s₂.toks) C' (fun o e=>?_) hbase hall hP (fun b o q e=>hs.extBut b o q e) (fun ξ ξ=>rfl) (fun o e=>?_)
 ·rw[eC₂] at e;cases e;exact⟨_,_,dC⟩
 ·rw[S₂.protH C' oC (.inr ⟨rfl,eC⟩)] at e;cases e
end
end Mine
end

section
namespace Mine
open PySem PySem.W PySem.Calls PyProof.Rows PySem.SeqAt
section
variable {W:Wd}{T:Tx W}{c:Cx}{K:Kc}{G:Gl}{hd:Bool}

theorem sx_asgComp {i elt t src x tx sx v scope p pp q} (C:CxOk T c K hd) (g:K.tgt i v=true) (hsw:swapsWith (.ListComp x [⟨tx,sx,[],0⟩] scope p) (some (.Name v pp)) q.line c.env=pure true) (hin:K.inC=false) (hc:cOk K scope t=true) (hs:∀v,foldedSetIterable sx c.env v=pure v) (hsrc:SS W c G hd src sx) (mt:MTg (K.comp scope) t tx)
  (hE:∀z c',CxOk (T.z z) c' (K.comp scope) hd→c'.A=c.A→SE (W.z z) c' G hd elt x):SX W c G hd (.asg i (.comp elt t src)) (.Assign [.Name v pp] (.ListComp x [⟨tx,sx,[],0⟩] scope p) q):=fun P ρ H s N R X S w=>by
 replace w:=qS_asg.mp w;replace w:=qE_comp.mp w
 obtain⟨rfl,w⟩:=w
 rw[exec_Assign_Name_used _ _ _ _ hsw]
 refine wpAny_bind (wpAny_standAt (wpAny_bind ?_))
 show wpAny _ _ (do let _ ←comprehension (.ListComp x [⟨tx,sx,[],0⟩] scope p) scope c.env _ (newList []) false (eval sx c.env) (some (assign (.Name v pp) c.env))) _ _ s
 refine wpAny_bind (wpAny_mono (comp_any (Q:=fun v H₁=>N (ρ.set i (some v)) H₁) (QQ:=fun ξ s''=>∃ρ' H',Sim W c P ρ' H' s''∧N ρ' H') C hin hc hs hsrc mt (fun z c' C' hA P' ρ' H' s' Q' S' w'=>?_) (fun z c' C' hA P' ρ' H' s' B S' w'=>wpAny_tests_nil ⟨H',S',w'⟩) S w (fun ξ ξ e=>e.toS) fun D C' s' h=>comp_use (Q:=fun ξ ξ=>True) C g h) (fun ξ s₁ h₁=>wpAny_pure (wpAny_pure h₁)) fun ξ ξ z=>z)
 exact wpAny_mono (hA▸hE z c' C' hA P' ρ' H' s' Q' _ S' w') (fun ξ ξ z=>z) fun ξ ξ z=>ex_false z
theorem sx_asgCompIf {i elt t src d x tx sx cx v scope p pp q} (C:CxOk T c K hd) (g:K.tgt i v=true) (hsw:swapsWith (.ListComp x [⟨tx,sx,[cx],0⟩] scope p) (some (.Name v pp)) q.line c.env=pure true) (hin:K.inC=false) (hc:cOk K scope t=true) (hs:∀v,foldedSetIterable sx c.env v=pure v) (hsrc:SS W c G hd src sx) (mt:MTg (K.comp scope) t tx)
  (hE:∀z c',CxOk (T.z z) c' (K.comp scope) hd→c'.A=c.A→SE (W.z z) c' G hd elt x) (hT:∀z c',CxOk (T.z z) c' (K.comp scope) hd→c'.A=c.A→ST (W.z z) c' G hd d cx):SX W c G hd (.asg i (.compIf elt t src d)) (.Assign [.Name v pp] (.ListComp x [⟨tx,sx,[cx],0⟩] scope p) q):=fun P ρ H s N R X S w=>by
 replace w:=qS_asg.mp w;replace w:=qE_compIf.mp w
 obtain⟨rfl,w⟩:=w
 rw[exec_Assign_Name_used _ _ _ _ hsw]
 refine wpAny_bind (wpAny_standAt (wpAny_bind ?_))
 show wpAny _ _ (do let _ ←comprehension (.ListComp x [⟨tx,sx,[cx],0⟩] scope p) scope c.env _ (newList []) false (eval sx c.env) (some (assign (.Name v pp) c.env))) _ _ s
 refine wpAny_bind (wpAny_mono (comp_any (Q:=fun v H₁=>N (ρ.set i (some v)) H₁) (QQ:=fun ξ s''=>∃ρ' H',Sim W c P ρ' H' s''∧N ρ' H') C hin hc hs hsrc mt (fun z c' C' hA P' ρ' H' s' Q' S' w'=>?_) (fun z c' C' hA P' ρ' H' s' B S' w'=>wpAny_tests_one ?_) S w (fun ξ ξ e=>e.toS) fun D C' s' h=>comp_use (Q:=fun ξ ξ=>True) C g h) (fun ξ s₁ h₁=>wpAny_pure (wpAny_pure h₁)) fun ξ ξ z=>z)
 ·exact wpAny_mono (hA▸hE z c' C' hA P' ρ' H' s' Q' _ S' w') (fun ξ ξ z=>z) fun ξ ξ z=>ex_false z
 ·exact wpAny_mono (hA▸hT z c' C' hA P' ρ' H' s' B _ S' w') (fun ξ ξ z=>z) fun ξ ξ z=>ex_false z

set_option tactic.hygienic true in
theorem exc_match {P:Addr→Obj→Prop}{ρ:Loc}{H:Hp}{s:Shared}{a C D:Addr}{oe:Obj}{k d:String}{A:Around}{E:Value→Shared→Prop}{Q:Bool→Shared→Prop} (S:Sim W c P ρ H s) (ho:s.heap.get? a=some oe) (hc:oe.cls=.ref C) (hk:W.cls k=some C) (hdd:W.cls d=some D) (h:Q ((T.anc k).contains d) s) :
  wpAny (model W.prog W.w) A (excMatches (.ref a) (.ref D)) Q E s:=by
 have Z:=T.kcl d D hdd
 have X:=S.frag (T:=T)
 have hsub:=T.ksub k C d D hk hdd
 obtain⟨hh,g,dr,t,os⟩:=s
 have L0:=looks_ty (M:=model W.prog W.w) ho hc
 have L1:=looks_subIn (M:=model W.prog W.w) X hsub
 have L2:=looks_typeIn (M:=model W.prog W.w) X Z.ty
 have L3:=looks_mroIn (M:=model W.prog W.w) X Z.base
 have L4:Looks (model W.prog W.w) hh (isInstance (.ref D) (.type "tuple")) false:=L2.andThen (Looks.of_pure tc_notTuple)
 have L5:Looks (model W.prog W.w) hh (isType (.ref D)) true:=by
  obtain⟨cdD,hcD⟩:=Option.isSome_iff_exists.mp Z.cls
  unfold clsIn at hcD
  split at hcD
  ·rename_i c' d' cd' sl' ho'
   intro A' Q' E' s' kk q
   unfold isType loadHead
   exact wpAny_bind (wpAny_loadPart (kk _ _ (X _ _ ho')) (wpAny_pure q))
  ·cases hcD
 have L6:Looks (model W.prog W.w) hh (isExcClass (.ref D)) true:=L5.andThen L3
 unfold excMatches
 refine wpAny_bind (L4.at ?_)
 simp only[Bool.false_eq_true,if_false]
 refine wpAny_bind (wpAny_pure ?_)
 simp only[List.forIn_cons,List.forIn_nil]
 refine wpAny_bind (wpAny_bind (wpAny_bind (L6.at ?_)))
 simp only[Bool.not_true,Bool.false_eq_true,if_false]
 refine wpAny_pure (wpAny_pure ?_)
 refine wpAny_bind (L0.at ?_)
 refine wpAny_bind (wpAny_bind (wpAny_bind (L1.at ?_)))
 cases hb:(T.anc k).contains d <;> rw[hb] at h
 ·simp only[Bool.false_eq_true,if_false]
  exact wpAny_pure (wpAny_pure (wpAny_pure h))
 ·simp only[if_true]
  exact wpAny_pure (wpAny_pure (wpAny_pure h))
end
end Mine
end

section
namespace Mine
open PySem PySem.W PySem.Calls PyProof.Rows PySem.SeqAt
section
variable {W:Wd}{T:Tx W}{c:Cx}{K:Kc}{G:Gl}{hd:Bool}

theorem Sim.reA {P:Addr→Obj→Prop}{ρ:Loc}{H:Hp}{s:Shared} (A:Around) (S:Sim W c P ρ H s):Sim W { c with A:=A } P ρ H s :=
 ⟨S.rest,S.base,S.frames,S.outer,by obtain⟨m,n,v⟩:=S.loc;exact⟨m,n,v⟩,S.locOwn,S.ownNew,S.ownOut,S.heap,S.new,S.apart,S.prot,S.protH,S.protF,S.cells,S.ownD,S.scr⟩
theorem Sim.unA {P:Addr→Obj→Prop}{ρ:Loc}{H:Hp}{s:Shared}{A:Around} (S:Sim W { c with A:=A } P ρ H s):Sim W c P ρ H s :=
 ⟨S.rest,S.base,S.frames,S.outer,by obtain⟨m,n,v⟩:=S.loc;exact⟨m,n,v⟩,S.locOwn,S.ownNew,S.ownOut,S.heap,S.new,S.apart,S.prot,S.protH,S.protF,S.cells,S.ownD,S.scr⟩
theorem PS.unA {P:Addr→Obj→Prop}{N:Loc→Hp→Prop}{R:V→Hp→Prop}{f:Flow}{s:Shared}{A:Around} (h:PS W { c with A:=A } P N R f s):PS W c P N R f s:=by
 cases f with
 | next=>obtain⟨ρ',H',S,n⟩:=h;exact⟨ρ',H',S.unA,n⟩
 | ret u=>obtain⟨v,ρ',H',S,r,n⟩:=h;exact⟨v,ρ',H',S.unA,r,n⟩
 | _=>exact h.elim
theorem exs_false {P:Addr→Obj→Prop}{e:Value}{s:Shared} (h:EXs W c P (fun ξ ξ ξ=>False) e s):False:=by cases h with | mk _ _ _ _ _ x=>exact x
theorem FxOk.mark (C:FxOk T c K hd) (e:Option Value):FxOk T { c with A:=c.A.mark e } K true :=
 { sc:=C.sc,kind:=C.kind,names:=C.names,vis:=C.vis,gint:=C.gint,fns:=C.fns,cls:=C.cls,glob:=C.glob,bi:=C.bi,hand:=(fun q=>by cases q),units:=C.units,frames:=C.frames,inj:=C.inj,cellOwn:=C.cellOwn,cellFr:=C.cellFr,cellKind:=C.cellKind,cellInj:=C.cellInj,head:=C.head,fr:=C.fr,inF:=C.inF }

inductive SH (W:Wd) (c:Cx) (K:Kc) (G:Gl):Hs→List ExceptHandler→Prop
 | nil:SH W c K G .nil []
 | cons0 {d x q b ys pos r hx}:x=Str.ofString d→K.gl x=true→K.cls.contains d=true→ys.isEmpty=false→(∀e,SXs W { c with A:=c.A.mark e } G true b ys)→SH W c K G r hx→SH W c K G (.cons d none b r) (.ExceptHandler (some (.Name x q)) none ys pos :: hx)
 | cons1 {d x q i n b ys pos r hx}:x=Str.ofString d→K.gl x=true→K.cls.contains d=true→K.tgt i n=true→K.sc.names.lookup n=some .local→ys.isEmpty=false→(∀e,SXs W { c with A:=c.A.mark e } G true b ys)→SH W c K G r hx→SH W c K G (.cons d (some i) b r) (.ExceptHandler (some (.Name x q)) (some n) ys pos :: hx)

theorem FlyAt.rep {P:Addr→Obj→Prop}{fl:Value}{h:Heap}{e:Value}{k:String} (F:FlyAt W P fl h e k):Rep W h (.exc k) e:=by
 obtain⟨a,C,oe,vs,a0,Tb,oT,ts,rfl,h2,h3,h4,h5,_⟩:=F
 exact .exc h3 h4 h5 h2

theorem unbind_as {P:Addr→Obj→Prop}{ρ:Loc}{H:Hp}{s:Shared}{i:Nat}{n:Str}{pos:Pos}{E:Value→Shared→Prop}{Q:Unit→Shared→Prop} (C:CxOk T c K hd) (g:K.tgt i n=true) (hl:K.sc.names.lookup n=some .local) (S:Sim W c P ρ H s)
  (h:∀s',Sim W c P (ρ.set i none) H s'→KeepR W s.heap s'.heap→Q () s'):wpAny (model W.prog W.w) c.A (do bindName c.env n .none;unbindBehindTheSuite c.env n pos) Q E s:=by
 have hk:c.env.kindOf n=some .local:=by unfold Env.kindOf;rw[C.sc];exact hl
 have hp:(c.env.scope.kind == .class || (c.env.scope.kind == .module && c.env.locals != c.env.globals))=false:=by rw[C.sc,C.kind];rfl
 obtain⟨h1,y,h2,rfl⟩:=Kc.tgt_spec g
 obtain⟨m,hn,hv⟩:=S.loc
 refine wpAny_bind (wpAny_bindName (wpAny_storeName_local hk hn (fun h' hn' hs'=>?_) hp))
 unfold unbindBehindTheSuite
 refine wpAny_onRaise (wpAny_mono (wpAny_unbindName_local (s:={ s with heap:=h',toks:=s.toks+1 }) (E:=fun ξ ξ=>False) (Q:=Q) hk hn' (v:=.none) (by simp) hp fun h'' u hn'' hs''=>?_) (fun ξ ξ z=>z) fun ξ ξ f=>f.elim)
 have hkeep:∀b o,b≠c.env.locals→s.heap.get? b=some o→h''.get? b=some o:=fun b o q e=>hs''.extBut b o q (hs'.extBut b o q e)
 have kr:KeepR W s.heap h'':=by
  obtain⟨oL,esL,epL,eL,dL,kL,fL⟩:=id hn
  have nt:∀b o,s.heap.get? b=some o→(∀es n,o.data≠.dict es n)→b≠c.env.locals:=fun b o e d q=>by rw[q,eL] at e;cases e;exact d _ _ dL
  exact⟨fun b o i n e k d ξ=>hkeep b o (nt b o e (by rw[d];exact nofun)) e,fun b o C ws e k d=>⟨o,ws,hkeep b o (nt b o e (by rw[d];exact nofun)) e,k,d⟩⟩
 refine h { s with heap:=h'',toks:=s.toks+1 } (S.names (tk:=s.toks+1) hn hn'' hkeep fun kr' kc j z w hj1 hj2 hj3=>?_) kr
 have q:j≠i:=by
  rintro rfl
  rw[List.getElem?_set] at hj3
  simp only[if_true] at hj3
  split at hj3 <;> simp at hj3
 rw[List.getElem?_set_ne (Ne.symm q)] at hj3
 have ne:Str.ofString z≠Str.ofString y:=fun q'=>q (C.inj j i z y hj2 (by rw[C.names];exact h2) q')
 rcases hv j z w hj1 hj2 hj3 with ⟨k,u',e',r'⟩ | ⟨k,cl,o,u',e',ho,hd',r'⟩
 ·exact .loc k u' (by simp [ne,e']) (r'.mono kr)
 ·exact .cel k cl o u' e' (kc cl o _ ho hd') hd' (r'.mono kr)

theorem handle_by {P:Addr→Obj→Prop}{N:Loc→Hp→Prop}{R:V→Hp→Prop}{X:String→Loc→Hp→Prop}{e:Value}{k:String} (C:FxOk T c K false) (hG:G.anc=T.anc) {hs:Hs}{hx:List ExceptHandler} (h0:SH W c K G hs hx) :
  ∀(ρ:Loc) (H:Hp) (s:Shared),Sim W c P ρ H s→FlyAt W P .none s.heap e k→wpHs G k hs ρ N R (X k ρ H) H→wpAny (model W.prog W.w) c.A (handleBy e c.env hx) (PS W c P N R) (EXs W c P X) s:=by
 induction h0 with
 | nil =>
  intro ρ H s S F w
  (first | rw[qHs_nil] at w | rw[qHs_cons] at w)
  refine wpAny_handleBy_nil ?_
  obtain⟨L,hL⟩:=C.fr
  obtain⟨a,D,oe,vs,a0,Tb,oT,ts,rfl,h2,h3,h4,h5,h6,h7,h8,t1,_⟩:=id F
  unfold PySem.passOn
  refine wpAny_bind (wpAny_field h3 h5 t1 ?_)
  rw[if_neg (by simp)]
  rw[hL]
  refine wpAny_bind (setFlight_to (f:=some L) S F fun h' S' F'=>wpAny_throw ?_)
  exact⟨k,ρ,H,S',by rw[hL];exact FlyAt.flyL F',w⟩
 | @cons0 d x q b ys pos r hx2 hx g hc he hb hr ih =>
  intro ρ H s S F w
  obtain _ | ⟨b0,ys⟩:=ys
  ·cases he
  subst hx
  (first | rw[qHs_nil] at w | rw[qHs_cons] at w)
  obtain⟨D,eg,eD⟩:=T.hcls d (C.cls▸hc)
  obtain⟨a,Ck,oe,vs,a0,Tb,oT,ts,rfl,h2,h3,h4,h5,_⟩:=id F
  have Cm:=C.mark (some (.ref a))
  refine wpAny_handleBy_cons (codeAny_handlers_test (sound_global (c:={ c with A:=c.A.mark (some (.ref a)) }) Cm.toCxOk (S.reA _) g eg ?_)) (by intro q;cases q)
  refine exc_match (T:=T) S h3 h4 h2 eD ?_
  rw[←hG]
  by_cases hm:(G.anc k).contains d=true
  ·rw[if_pos hm] at w
   rw[hm]
   simp only[if_true]
   refine codeAny_handlers_suite (setFlight_to (f:=none) S F fun h' S' F'=>?_)
   refine wpAny_mono (hb (some (.ref a)) P ρ H _ N R _ (S'.reA _) w) (fun f s₂ z=>?_) fun ξ ξ z=>(exs_false z).elim
   exact z.unA
  ·rw[if_neg hm] at w
   rw[Bool.eq_false_iff.mpr hm]
   simp only[Bool.false_eq_true,if_false]
   exact ih ρ H s S F w
 | @cons1 d x q i n b ys pos r hx2 hx g hc ht hl he hb hr ih =>
  intro ρ H s S F w
  obtain _ | ⟨b0,ys⟩:=ys
  ·cases he
  subst hx
  (first | rw[qHs_nil] at w | rw[qHs_cons] at w)
  obtain⟨D,eg,eD⟩:=T.hcls d (C.cls▸hc)
  obtain⟨a,Ck,oe,vs,a0,Tb,oT,ts,rfl,h2,h3,h4,h5,_⟩:=id F
  have Cm:=C.mark (some (.ref a))
  refine wpAny_handleBy_cons (codeAny_handlers_test (sound_global (c:={ c with A:=c.A.mark (some (.ref a)) }) Cm.toCxOk (S.reA _) g eg ?_)) (by intro q;cases q)
  refine exc_match (T:=T) S h3 h4 h2 eD ?_
  rw[←hG]
  by_cases hm:(G.anc k).contains d=true
  ·rw[if_pos hm] at w
   rw[hm]
   simp only[if_true]
   refine codeAny_handlers_suite_as (setFlight_to (f:=none) S F fun h' S' F'=>?_)
   refine sound_store (c:={ c with A:=c.A.mark (some (.ref a)) }) Cm.toCxOk (S'.reA _) ht F'.rep fun s₂ S₂ ξ=>?_
   refine wpAny_mono (hb (some (.ref a)) P _ H s₂ _ R _ S₂ w) (fun f s₃ z=>?_) fun ξ ξ z=>(exs_false z).elim
   have z:=z.unA
   cases f with
   | next =>
    obtain⟨ρ',H',S₃,hN⟩:=z
    exact unbind_as C.toCxOk ht hl S₃ fun s₄ S₄ ξ=>⟨_,_,S₄,hN⟩
   | ret u =>
    obtain⟨v,ρ',H',S₃,r,hN⟩:=z
    exact unbind_as C.toCxOk ht hl S₃ fun s₄ S₄ kr=>⟨v,_,_,S₄,r.mono kr,hN⟩
   | _=>exact z.elim
  ·rw[if_neg hm] at w
   rw[Bool.eq_false_iff.mpr hm]
   simp only[Bool.false_eq_true,if_false]
   exact ih ρ H s S F w

theorem sx_try {b hs y hx p} (he:hx.isEmpty=false) (C:FxOk T c K hd) (hG:G.anc=T.anc) (hb:SXs W c G hd b y) (hh:hd=false→SH W c K G hs hx):SX W c G hd (.tr b hs) (.Try y hx [] [] p):=fun P ρ H s N R X S w=>by
 obtain _ | ⟨h₀,hx⟩:=hx
 ·cases he
 replace w:=qS_tr.mp w
 obtain⟨rfl,w⟩:=w
 obtain⟨outer,ho⟩:=C.head
 obtain⟨L,hL⟩:=C.fr
 refine wpAny_Try_except (wpAny_mono (hb P ρ H s N R _ S w) (fun f s₁ h₁=>?_) fun e s₁ h₁=>?_)
 ·cases f with
  | next=>exact wpAny_execs_nil h₁
  | ret u=>exact h₁
  | _=>exact h₁.elim
 ·obtain⟨k,ρ',H',S',F,g⟩:=h₁
  rw[hL] at F
  refine note_frame S' (by rw[C.frames,ho]) ho hL F fun h' S₂ F₂=>?_
  refine setFlight_to (s:={ s₁ with heap:=h' }) (f:=none) S₂ F₂ fun h'' S₃ F₃=>?_
  exact handle_by C hG (hh rfl) ρ' H' _ S₃ F₃ g
end
end Mine
end

section
namespace Mine
open PySem PySem.W PySem.Calls PyProof.Rows PySem.SeqAt

theorem swaps_of {K:Kc}{x:Expr}{gens:List Comprehension}{scope:Scope}{p pp:Pos}{t:Str}{line:Nat}{env:Env} (h:env.scope=K.sc)
  (e:swB K t pp (.ListComp x gens scope p)=true):swapsWith (.ListComp x gens scope p) (some (.Name t pp)) line env=pure true:=by
 unfold swB at e
 rw[←h] at e
 show pure _=pure _
 exact congrArg pure e

noncomputable def OkS {W:Wd} (T:Tx W) (G:Gl) (K:Kc) (b:St):Prop:=∀x,(encS K b x).1=true→∀ {hd:Bool} (z:Addr→Prop) (c:Cx) (_:FxOk (T.z z) c K hd) (_:hd=false→∀z,GOk (T.z z) G c.A),SX (W.z z) c G hd b (encS K b x).2
noncomputable def OkSs {W:Wd} (T:Tx W) (G:Gl) (K:Kc) (b:Sts):Prop:=∀x,(encSs K b x).1=true→∀ {hd:Bool} (z:Addr→Prop) (c:Cx) (_:FxOk (T.z z) c K hd) (_:hd=false→∀z,GOk (T.z z) G c.A),SXs (W.z z) c G hd b (encSs K b x).2
noncomputable def OkH {W:Wd} (T:Tx W) (G:Gl) (K:Kc) (b:Hs):Prop:=∀x,(encH K b x).1=true→∀(z:Addr→Prop) (c:Cx) (_:FxOk (T.z z) c K false) (_:∀z,GOk (T.z z) G c.A),SH (W.z z) c K G b (encH K b x).2

noncomputable def Txt (K:Kc) (b:Sts) (x:List Stmt):Prop:=x=(encSs K b x).2∧(encSs K b x).1=true

set_option maxHeartbeats 4000000
theorem asg_ok {W:Wd}{T:Tx W}{G:Gl} (hG:G.anc=T.anc) {K:Kc}{i:Nat}{e:Ex}:OkS T G K (.asg i e):=by
 intro x h hd z c C O
 have g:=(an h).1
 have he:=(an (an h).2).1
 by_cases hk:kdOf (encE e K (kidS 0 x)).2 false false true true true=true
 ·exact sx_asg C.toCxOk g (sw_of hk _ _ _) (((sound_E hG).1 e _ _ he).2 z c C.toCxOk O).1
 ·have hs:=(Bool.or_eq_true_iff.mp (an (an h).2).2).resolve_left hk
  cases e with
  | comp elt t src =>
   have i:=(sound_E (hd:=hd) hG).2 src _ _ (an (an (an he).2).2).1
   have j:=(sound_E (hd:=hd) hG).1 elt _ _ (an (an (an (an he).2).2).2).1
   exact sx_asgComp C.toCxOk g (swaps_of C.sc hs) C.inF (an (an he).1).2 (i.1.fold _) (i.2 z c C.toCxOk O).1 (tg_ok (an (an he).2).1) fun z c' C' hA=>(j.2 z c' C' (hA▸O)).1
  | compIf elt t src d =>
   have i:=(sound_E (hd:=hd) hG).2 src _ _ (an (an (an he).2).2).1
   have j:=(sound_E (hd:=hd) hG).1 elt _ _ (an (an (an (an he).2).2).2).1
   have k:=(sound_E (hd:=hd) hG).1 d _ _ (an (an (an (an (an he).2).2).2).2).1
   exact sx_asgCompIf C.toCxOk g (swaps_of C.sc hs) C.inF (an (an he).1).2 (i.1.fold _) (i.2 z c C.toCxOk O).1 (tg_ok (an (an he).2).1) (fun z c' C' hA=>(j.2 z c' C' (hA▸O)).1) fun z c' C' hA=>(k.2 z c' C' (hA▸O)).2
  | _=>exact (hk rfl).elim
theorem sound_MSs {W:Wd}{T:Tx W}{G:Gl} (hG:G.anc=T.anc) {K:Kc}{e:Sts}{x:List Stmt} (h0:Txt K e x) {hd:Bool} (z:Addr→Prop) (c:Cx) (C:FxOk (T.z z) c K hd) (O:hd=false→∀z,GOk (T.z z) G c.A):SXs (W.z z) c G hd e x:=by
 rw[h0.1]
 refine @Sts.rec (OkS T G K) (OkSs T G K) (OkH T G K)
  ?asg
  ?asg2
  ?setIt
  ?ex
  ?ret
  ?ife
  ?whl
  ?forr
  ?raise
  ?tr
  ?pass
  ?nil
  ?cons
  ?hnil
  ?hcons
  e x h0.2 hd z c C O
 case asg=>intro i e;exact asg_ok hG
 case asg2=>intro i j e x h hd z c C O;exact sx_asg2 C.toCxOk (an (an h).1).1 (an (an h).1).2 (tup_sw (an (an h).2).2 _ _).1 (tup_sw (an (an h).2).2 0 _).2 (((sound_E hG).1 _ _ _ (an (an h).2).1).2 z c C.toCxOk O).1
 case setIt=>intro o i v x h hd z c C O;exact sx_setIt (((sound_E (hd:=hd) hG).1 _ _ _ (an h).1).1.set _ _ _ _ _) (((sound_E hG).1 _ _ _ (an (an h).2).1).2 z c C.toCxOk O).1 (((sound_E hG).1 _ _ _ (an (an h).2).2).2 z c C.toCxOk O).1 (((sound_E hG).1 _ _ _ (an h).1).2 z c C.toCxOk O).1
 case ex=>intro e x h hd z c C O;exact sx_ex C.toCxOk (sw_of (an h).2 _ _ _) (((sound_E hG).1 _ _ _ (an h).1).2 z c C.toCxOk O).1
 case ret=>intro e x h hd z c C O;exact sx_ret (((sound_E hG).1 _ _ _ h).2 z c C.toCxOk O).1
 case ife=>intro d a b ha hb x h hd z c C O;exact sx_if (((sound_E hG).1 _ _ _ (an h).1).2 z c C.toCxOk O).2 (ha _ (an (an h).2).1 z c C O) (hb _ (an (an h).2).2 z c C O)
 case whl=>intro d b hb x h hd z c C O;exact sx_while C (((sound_E hG).1 _ _ _ (an h).1).2 z c C.toCxOk O).2 (hb _ (an h).2 z c C O)
 case forr=>intro t s b hb x h hd z c C O;have i:=(sound_E (hd:=hd) hG).2 s _ _ (an (an h).2).1;exact sx_for C (i.1.fold _) (i.2 z c C.toCxOk O).1 (tg_ok (an h).1) fun z'=>hb _ (an (an h).2).2 z' c (C.z z') O
 case raise=>intro k msg x h hd z c C O;exact sx_raise C.toCxOk rfl (an (an h).1).1 (an (an h).1).2
 case tr=>intro b hs hb hh x h hd z c C O;exact sx_try (T:=T.z z) (nem_of (an (an h).2).1) C hG (hb _ (an h).1 z c C O) fun q=>by subst q;exact hh _ (an (an h).2).2 z c C (O rfl)
 case pass=>intro x h hd z c C O;exact sx_pass
 case nil=>intro x h hd z c C O;exact sxs_nil
 case cons=>intro s r hs hr x h hd z c C O;exact sxs_cons (hs _ (an h).1 z c C O) (hr _ (an h).2 z c C O)
 case hnil=>intro x h z c C O;exact .nil
 case hcons => 
  intro d o b r hb hr x h z c C O
  have h1:=(an (an h).1).1
  have h2:=(an (an h).1).2
  have h3:=(an (an h).2).1
  cases o with
  | none=>exact .cons0 rfl (an h1).1 (an h1).2 (nem_of (an h3).1) (fun v=>hb _ (an h3).2 z _ (C.mark v) fun q=>by cases q) (hr _ (an (an h).2).2 z c C O)
  | some i=>exact .cons1 rfl (an h1).1 (an h1).2 (an h2).1 (beq_iff_eq.mp (an h2).2) (nem_of (an h3).1) (fun v=>hb _ (an h3).2 z _ (C.mark v) fun q=>by cases q) (hr _ (an (an h).2).2 z c C O)
end Mine
end

section
namespace Mine
open PySem PySem.W PySem.Calls PyProof.Rows PySem.SeqAt

theorem call_inv {defs:String→Option Fn}{anc:String→List String}{n:Nat}{f:String}{vs:List V}{Q:V→Hp→Prop}{X:String→Hp→Prop}{H:Hp} (w:callN defs anc (n+1) f vs Q X H) :
  ∃d,defs f=some d∧vs.length=d.params∧wpSs ⟨callN defs anc n,anc⟩ false d.body ((vs.map some)++List.replicate (d.slots.length-d.params) none) (fun ξ H₁=>Q .none H₁) Q (fun c ξ H₁=>X c H₁) H:=by
 have w:Option.casesOn (motive:=fun ξ=>Prop) (defs f) False (fun d=>vs.length=d.params∧wpSs ⟨callN defs anc n,anc⟩ false d.body ((vs.map some)++List.replicate (d.slots.length-d.params) none) (fun ξ H₁=>Q .none H₁) Q (fun c ξ H₁=>X c H₁) H):=w
 cases hf:defs f with
 | none=>rw[hf] at w;exact w.elim
 | some d=>rw[hf] at w;exact⟨d,rfl,w⟩
noncomputable def bindsOf (d:Fn) (us:List Value):List (Str×Value):=((d.slots.take d.params).map Str.ofString).zip us
noncomputable def fnK (gint:List (String×Int)) (fns cls:List String) (sc:Scope) (d:Fn):Kc :=
 { sc:=sc,names:=d.slots,vis:=fun i=>match d.slots[i]? with | some x=>(match sc.names.lookup (Str.ofString x) with | some .local=>true | some .cell=>true | _=>false) | none=>false,gint:=gint,fns:=fns,cls:=cls,inC:=false }

structure FnOk {W:Wd} (T:Tx W) (d:Fn) (a:Addr) (o:Obj) (fd:FuncData) (body:List Stmt):Prop where
 at_:W.base.get? a=some o
 data:o.data=.func fd
 co:fd.scope.isCoroutine=false
 gen:fd.scope.isGenerator=false
 bodyE:fd.body=.stmts body
 code:W.base.CodeRec fd.code fd.qualname
 clos:fd.closure=[]
 glob:fd.globals=T.G
 bi:fd.builtins=T.B
 kind:fd.scope.kind=.function
 slots:d.slots.Nodup
 str:∀x y:String,x∈d.slots→y∈d.slots→Str.ofString x=Str.ofString y→x=y
 par:d.params≤d.slots.length
 parK:∀x∈d.slots.take d.params,fd.scope.names.lookup (Str.ofString x)=some .local∨fd.scope.names.lookup (Str.ofString x)=some .cell
 binds:∀(us:List Value) (s:Shared),us.length=d.params→T.frag.In s.heap→BindsTo s fd ⟨us,[]⟩ (bindsOf d us)
 text:Txt (fnK T.gint T.fns T.cls fd.scope d) d.body body

theorem FnOk.z {W:Wd}{T:Tx W}{d:Fn}{a:Addr}{o:Obj}{fd:FuncData}{body:List Stmt} (F:FnOk T d a o fd body) (z:Addr→Prop):FnOk (T.z z) d a o fd body :=
 ⟨F.at_,F.data,F.co,F.gen,F.bodyE,F.code,F.clos,F.glob,F.bi,F.kind,F.slots,F.str,F.par,F.parK,F.binds,F.text⟩
theorem bindL_mem {kindOf:Str→Option NameKind}{x:Str}{u:Value}:∀ {bs:List (Str×Value)}{m:Str→Option Value},(bs.map (·.1)).Nodup→kindOf x=some .local→((x,u)∈bs∨(x∉bs.map (·.1)∧m x=some u))→bindL kindOf bs m x=some u
 | [],m,_,_,h=>by rcases h with h | h;cases h;exact h.2
 | (n,v) :: r,m,hn,hk,h=>by
  rw[List.map_cons,List.nodup_cons] at hn
  unfold bindL
  refine bindL_mem hn.2 hk ?_
  rcases h with h | ⟨h1,h2⟩
  ·rcases List.mem_cons.mp h with e | h
   ·cases e;right;exact⟨hn.1,by rw[if_pos hk];simp⟩
   ·exact .inl h
  ·right
   rw[List.map_cons,List.mem_cons,not_or] at h1
   refine⟨h1.2,?_⟩
   split
   ·simp [h1.1,h2]
   ·exact h2
theorem bindC_mem {kindOf:Str→Option NameKind}{x:Str}{u:Value}:∀ {bs:List (Str×Value)}{m:Str→Option Value},(bs.map (·.1)).Nodup→kindOf x≠some .local→((x,u)∈bs∨(x∉bs.map (·.1)∧m x=some u))→bindC kindOf bs m x=some u
 | [],m,_,_,h=>by rcases h with h | h;cases h;exact h.2
 | (n,v) :: r,m,hn,hk,h=>by
  rw[List.map_cons,List.nodup_cons] at hn
  unfold bindC
  refine bindC_mem hn.2 hk ?_
  rcases h with h | ⟨h1,h2⟩
  ·rcases List.mem_cons.mp h with e | h
   ·cases e;right;exact⟨hn.1,by rw[if_neg hk];simp⟩
   ·exact .inl h
  ·right
   rw[List.map_cons,List.mem_cons,not_or] at h1
   refine⟨h1.2,?_⟩
   split
   ·exact h2
   ·simp [h1.1,h2]

theorem cellsFrom_some {x:Str}:∀(names:List (Str×NameKind)) (n:Nat) (acc:List (Str×Addr)),((x,NameKind.cell)∈names∨(acc.lookup x).isSome=true)→((cellsFrom n names acc).lookup x).isSome=true
 | [],n,acc,h=>by rcases h with h | h;cases h;exact h
 | (y,k) :: r,n,acc,h=>by
  unfold cellsFrom
  by_cases hk:k=.cell
  ·rw[if_pos (by simp [hk])]
   refine cellsFrom_some r _ _ ?_
   rcases h with h | h
   ·rcases List.mem_cons.mp h with e | h
    ·cases e;right;simp [List.lookup_cons]
    ·exact .inl h
   ·right
    rw[List.lookup_cons]
    cases q:x == y <;> simp [h]
  ·rw[if_neg (by simp [hk])]
   refine cellsFrom_some r _ _ ?_
   rcases h with h | h
   ·rcases List.mem_cons.mp h with e | h
    ·cases e;exact absurd rfl hk
    ·exact .inl h
   ·exact .inr h
theorem pw_inj {l:List (Str×Addr)} (h:l.Pairwise fun x y=>x.2≠y.2):∀p∈l,∀q∈l,p.2=q.2→p=q:=by
 induction h with
 | nil=>intro p hp;cases hp
 | cons h1 h2 ih =>
  intro p hp q hq e
  rcases List.mem_cons.mp hp with e1 | hp' <;> rcases List.mem_cons.mp hq with e2 | hq'
  ·rw[e1,e2]
  ·subst e1;exact absurd e (h1 q hq')
  ·subst e2;exact absurd e.symm (h1 p hp')
  ·exact ih p hp' q hq' e

section
variable {W:Wd}{T:Tx W}{c:Cx}{K:Kc}{hd:Bool}

noncomputable def ownC (L:Addr) (cs:List (Str×Addr)):List Addr:=L :: cs.filterMap fun p=>if cs.lookup p.1=some p.2 then some p.2 else none
theorem mem_ownC {L b:Addr}{cs:List (Str×Addr)} (h:b∈ownC L cs):b=L∨∃x,(x,b)∈cs∧cs.lookup x=some b:=by
 unfold ownC at h
 rcases List.mem_cons.mp h with h | h
 ·exact .inl h
 ·obtain⟨p,hp,e⟩:=List.mem_filterMap.mp h
  split at e
  ·rename_i q;cases e;exact .inr ⟨p.1,hp,q⟩
  ·cases e
noncomputable def Cx.fn (c:Cx) (K:Kc) (env:Env) (m:Str→Option Value):Cx :=
 { A:=c.A.deeper env,env:=env,fenvs:=env :: c.fenvs,names:=K.names,vis:=K.vis,own:=ownC env.locals env.cells,outer:=(c.env.locals,m) :: c.outer }

theorem fn_ok {env:Env}{m:Str→Option Value} (C:CxOk T c K false) {K':Kc} (h1:env.scope=K'.sc) (h2:K'.sc.kind=.function) (hg:K'.gint=T.gint) (hf:K'.fns=T.fns) (hc:K'.cls=T.cls) (hin:K'.inC=false) (hgl:env.globals=T.G) (hbi:env.builtins=T.B) (hfr:env.frame=some env.locals) (hu:c.A.units+23<cLine)
  (hinj:∀(i j:Nat) (x y:String),K'.names[i]?=some x→K'.names[j]?=some y→Str.ofString x=Str.ofString y→i=j) (hck:∀x,env.kindOf x=some .cell→∃a,env.cells.lookup x=some a) (hpw:env.cells.Pairwise fun x y=>x.2≠y.2) (hab:∀x a,env.cells.lookup x=some a→a≠env.locals∧a∉c.frs) :
  FxOk T (c.fn K' env m) K' false where
 sc:=h1
 kind:=h2
 names:=rfl
 vis:=rfl
 gint:=hg
 fns:=hf
 cls:=hc
 glob:=hgl
 bi:=hbi
 hand:=fun ξ=>C.hand rfl
 units:=by show c.A.units+3+20<cLine;exact lB [] [_,_] (.a (.a (.n 0) (.c 3)) (.c 20)) (.n 1) [.B (.a (.n 0) (.c 23)) (.n 1)] [1,1] rfl hu
 frames:=by show c.A.frames.map (env :: ·)=some (env :: c.fenvs);rw[C.frames];rfl
 inj:=hinj
 cellOwn:=fun x a e ξ=>by
  show a∈ownC env.locals env.cells
  unfold ownC
  refine .tail _ (List.mem_filterMap.mpr ⟨(x,a),mem_of_lookup e,by simp [show env.cells.lookup x=some a from e]⟩)
 cellFr:=fun x a e q=>by
  have:=hab x a e
  simp only[Cx.frs,Cx.fn,List.filterMap_cons,hfr,List.mem_cons] at q
  rcases q with q | q
  ·exact this.1 q
  ·exact this.2 q
 cellKind:=hck
 cellInj:=fun x y a ex ey=>by
  have:=pw_inj hpw (x,a) (mem_of_lookup ex) (y,a) (mem_of_lookup ey) rfl
  cases this;rfl
 head:=⟨c.fenvs,rfl⟩
 fr:=⟨_,hfr⟩
 inF:=hin

theorem Sim.intoF {P:Addr→Obj→Prop}{ρ ρ₀:Loc}{H:Hp}{s s':Shared}{K':Kc}{env:Env}{m m' cm:Str→Option Value} (S:Sim W c P ρ H s) (hkd:env.scope.kind≠.module) (hfr:env.frame=some env.locals) (hL:env.locals=s.heap.objs.size) (x:InCallC s env.locals m' env.cells cm s') (hm:s.heap.Ns c.env.locals m)
  (hv:KeepR W s.heap s'.heap→∀i x v,K'.vis i=true→K'.names[i]?=some x→ρ₀[i]?=some (some v)→HasVar W env s'.heap m' (Str.ofString x) v) :
  Sim W (c.fn K' env m) (PC c H s.heap []) ρ₀ H s':=by
 have hk:=x.toInCall.keep
 have kr:KeepR W s.heap s'.heap:=.of_keeps hk
 have nL:s.heap.get? env.locals=none:=by rw[hL];exact size_none _
 obtain⟨f1,f2,f3,f4⟩:=S.fresh nL
 have ncell:∀y b,(y,b)∈env.cells→s.heap.get? b=none:=fun y b e=>Heap.get?_none_of_le (by have:=x.above y b e;rw[hL] at this;exact Nat.le_of_lt this)
 have own_none:∀b,b∈ownC env.locals env.cells→s.heap.get? b=none:=fun b hb=>by
  rcases mem_ownC hb with rfl | ⟨y,e,_⟩
  ·exact nL
  ·exact ncell y b e
 obtain⟨oL,esL,epL,eL,dL,rL⟩:=id x.toInCall.ns
 refine⟨?_,fun b o e=>hk b o (S.base b o e),⟨hkd,⟨env.locals,oL,hfr,f1,eL,by rw[dL];exact nofun⟩,funFrames_at S.frames fun b hb o e d=>⟨o,hk b o e,d⟩⟩,fun p hp=>?_,⟨m',x.toInCall.ns,hv kr⟩,by simp [Cx.fn,ownC],fun b hb=>(S.fresh (own_none b hb)).1,fun b hb p hp q=>?_,
  fun a o e=>(S.heap a o e).at kr fun ob z=>hk a ob z,S.new,fun a o e=>?_,fun b o p=>hk b o p.1,fun b o p=>p.2.1,fun b o p=>⟨fun q=>?_,fun q=>?_⟩,fun y a e=>⟨_,x.cell y a e⟩,fun b hb=>?_,fun b hb=>(S.scr b hb).at fun o e ξ ξ=>hk b o e⟩
 ·obtain⟨h,tk,e⟩:=x.toInCall.same
  obtain⟨hp,tk',e'⟩:=S.rest
  exact⟨h,tk,by rw[e,e']⟩
 ·rcases List.mem_cons.mp hp with rfl | hp
  ·exact hm.at' fun o e=>hk _ o e
  ·exact (S.outer p hp).at' fun o e=>hk _ o e
 ·have nb:=own_none b hb
  rcases List.mem_cons.mp hp with rfl | hp
  ·obtain⟨o,_,_,e,_⟩:=hm
   rw[←q] at nb;dsimp only at nb;rw[e] at nb;cases nb
  ·obtain⟨o,_,_,e,_⟩:=S.outer p hp
   rw[←q,e] at nb;cases nb
 ·have:=S.apart a o e
  obtain⟨ob,ea,_⟩:=(S.heap a o e).obj
  simp only[Cx.all,Cx.fn,Cx.frs,List.mem_append,List.map_cons,List.mem_cons,List.filterMap_cons,hfr,not_or] at this ⊢
  refine⟨⟨fun q=>?_,fun q=>?_,this.1.2⟩,fun q=>this.1.1 (q▸S.locOwn),this.2⟩
  ·rw[own_none a q] at ea;cases ea
  ·rw[q,nL] at ea;cases ea
 ·have:=p.1;rw[own_none b q] at this;cases this
 ·simp only[Cx.frs,Cx.fn,List.filterMap_cons,hfr,List.mem_cons] at q
  rcases q with q | q
  ·have:=p.1;rw[q,nL] at this;cases this
  ·exact p.2.2.1 q
 ·rcases hb with hb | hb
  ·rcases mem_ownC hb with rfl | ⟨y,e,l⟩
   ·exact⟨oL,eL,.inl ⟨_,_,dL⟩⟩
   ·obtain⟨o,e1,e2⟩:=x.cell y b l
    exact⟨o,e1,.inr ⟨_,e2⟩⟩
  ·simp only[Cx.frs,Cx.fn,List.filterMap_cons,hfr,List.mem_cons] at hb
   rcases hb with rfl | hb
   ·exact⟨oL,eL,.inl ⟨_,_,dL⟩⟩
   ·obtain⟨o,e,q⟩:=S.ownD b (.inr hb)
    exact⟨o,hk _ _ e,q⟩
end
end Mine
end

section
namespace Mine
open PySem PySem.W PySem.Calls PyProof.Rows PySem.SeqAt
section
variable {W:Wd}{T:Tx W}{c:Cx}{K:Kc}{hd:Bool}

theorem Sim.outF {P:Addr→Obj→Prop}{ρ ρc:Loc}{H H':Hp}{s s':Shared}{K':Kc}{env:Env}{m:Str→Option Value} (O:CxOk T c K hd) (S:Sim W c P ρ H s) (hm:s.heap.Ns c.env.locals m) (hfr:env.frame=some env.locals)
  (hv:∀i x v,c.vis i=true→c.names[i]?=some x→ρ[i]?=some (some v)→HasVar W c.env s.heap m (Str.ofString x) v)
  (S':Sim W (c.fn K' env m) (PC c H s.heap []) ρc H' s'):Sim W c P ρ H' s'∧KeepR W s.heap s'.heap:=by
 have kp:∀b o,s.heap.get? b=some o→H b=none→b∉c.frs→s'.heap.get? b=some o:=fun b o e q1 q2=>S'.prot b o ⟨e,q1,q2,by simp⟩
 have hfrs:∀b,b∈c.frs→b∈(c.fn K' env m).frs:=fun b hb=>by simp only[Cx.frs,Cx.fn,List.filterMap_cons,hfr,List.mem_cons];exact .inr hb
 have nfr:∀b o,s.heap.get? b=some o→(∀es n,o.data≠.dict es n)→(∀v,o.data≠.cell v)→b∉c.frs:=fun b o e d1 d2 mm=>by
  obtain⟨o',e',q⟩:=S.ownD b (.inr mm)
  rw[e] at e';cases e'
  rcases q with ⟨_,_,q⟩ | ⟨_,q⟩
  ·exact d1 _ _ q
  ·exact d2 _ q
 have nH:∀b o,s.heap.get? b=some o→o.cls≠.type "list" → o.cls≠.type "dict" → H b=none:=fun b o e h1 h2=>by
  cases q:H b with
  | none=>rfl
  | some x =>
   obtain⟨ob,e',k,_⟩:=(S.heap b x q).obj
   rw[e] at e';cases e'
   rcases k with k | k
   ·exact absurd k h1
   ·exact absurd k h2
 have nHc:∀b o v,s.heap.get? b=some o→o.data=.cell v→H b=none:=fun b o v e d=>by
  cases q:H b with
  | none=>rfl
  | some x =>
   obtain⟨ob,e',_,k⟩:=(S.heap b x q).obj
   rw[e] at e';cases e'
   exact absurd d (k v)
 have kr:KeepR W s.heap s'.heap:=⟨fun b o i n e k d ξ=>kp b o e (nH b o e (by rw[k];decide) (by rw[k];decide)) (nfr b o e (by rw[d];exact nofun) (by rw[d];exact nofun)),fun b o D ws e k d=>⟨o,ws,kp b o e (nH b o e (by rw[k];exact nofun) (by rw[k];exact nofun)) (nfr b o e (by rw[d];exact nofun) (by rw[d];exact nofun)),k,d⟩⟩
 have own:∀b,b∈c.own→b∉c.frs→∃o,s.heap.get? b=some o∧s'.heap.get? b=some o∧H' b=none:=fun b hb hf=>by
  obtain⟨o,e,q⟩:=S.ownD b (.inl hb)
  have hH:H b=none:=by
   cases z:H b with
   | none=>rfl
   | some x=>exact absurd (Cx.mem_all_own hb) (S.apart b x z)
  exact⟨o,e,kp b o e hH hf,S'.protH b o ⟨e,hH,hf,by simp⟩⟩
 have fr:∀b,b∈c.frs→∃o,s'.heap.get? b=some o∧((∃es n,o.data=.dict es n)∨(∃v,o.data=.cell v)):=fun b hb=>S'.ownD b (.inr (hfrs b hb))
 refine⟨⟨S'.rest,S'.base,S'.frames.2.2,fun p hp=>S'.outer p (.tail _ hp),⟨m,S'.outer (c.env.locals,m) (.head _),fun i x v h1 h2 h3=>(hv i x v h1 h2 h3).mono kr fun cl' o u e1 ho hq=>⟨o,kp cl' o ho (nHc _ _ _ ho hq) (O.cellFr _ _ e1),rfl⟩⟩,S.locOwn,S.ownNew,S.ownOut,
  S'.heap,S'.new,fun a o e=>?_,fun b o p=>kp b o (S.prot b o p) (S.protH b o p) (S.protF b o p).2,fun b o p=>S'.protH b o ⟨S.prot b o p,S.protH b o p,(S.protF b o p).2,by simp⟩,S.protF,fun x a e=>?_,fun b hb=>?_,S'.scr⟩,kr⟩
 ·have:=S'.apart a o e
  simp only[Cx.all,Cx.fn,Cx.frs,List.mem_append,List.map_cons,List.mem_cons,List.filterMap_cons,hfr,not_or] at this ⊢
  refine⟨⟨fun q=>?_,this.1.2.2⟩,this.2.2⟩
  by_cases hf:a∈c.frs
  ·exact this.1.2.2 hf
  ·obtain⟨_,_,_,z⟩:=own a q hf
   rw[e] at z;cases z
 ·obtain⟨u,o,e1,e2⟩:=S.cells x a e
  exact⟨u,o,kp a o e1 (nHc _ _ _ e1 e2) (O.cellFr _ _ e),e2⟩
 ·rcases hb with hb | hb
  ·by_cases hf:b∈c.frs
   ·exact fr b hf
   ·obtain⟨o,e,q2,_⟩:=own b hb hf
    obtain⟨o',e',q⟩:=S.ownD b (.inl hb)
    rw[e] at e';cases e'
    exact⟨o,q2,q⟩
  ·exact fr b hb

theorem binds_at {d:Fn}{us:List Value}{i:Nat}{x:String}{u:Value} (h1:i<d.params) (hx:d.slots[i]?=some x) (hu:us[i]?=some u):(Str.ofString x,u)∈bindsOf d us:=by
 unfold bindsOf
 refine List.mem_of_getElem? (i:=i) ?_
 rw[List.getElem?_zip_eq_some]
 refine⟨?_,hu⟩
 rw[List.getElem?_map,List.getElem?_take_of_lt h1,hx];rfl
theorem binds_nodup {d:Fn}{us:List Value} (h1:d.slots.Nodup) (h2:∀x y:String,x∈d.slots→y∈d.slots→Str.ofString x=Str.ofString y→x=y):((bindsOf d us).map (·.1)).Nodup:=by
 unfold bindsOf
 have:((((d.slots.take d.params).map Str.ofString).zip us).map (·.1)).Sublist ((d.slots.take d.params).map Str.ofString):=by
  generalize (d.slots.take d.params).map Str.ofString=l
  induction l generalizing us with
  | nil=>simp
  | cons a r ih =>
   cases us with
   | nil=>simp
   | cons u us=>simpa using ih
 refine List.Nodup.sublist this ?_
 have hs:(d.slots.take d.params).Sublist d.slots:=List.take_sublist _ _
 rw[List.nodup_iff_pairwise_ne,List.pairwise_map]
 have hn:=(h1.sublist hs)
 rw[List.nodup_iff_pairwise_ne] at hn
 exact hn.imp_of_mem fun ha hb hne e=>hne (h2 _ _ (hs.subset ha) (hs.subset hb) e)

theorem gok_step {defs:String→Option Fn}{anc:String→List String} (hanc:anc=T.anc) (hlim:W.base.NoLimit) (D:∀f d,defs f=some d→∃a o fd body,T.mg (Str.ofString f)=some (.ref a)∧FnOk T d a o fd body) (n:Nat) (A:Around) (hdep:A.depth+(n+1)<1000) (hun:A.units+3*(n+1)+25<cLine)
  (gok:∀(A:Around),A.depth+n<1000→A.units+3*n+25<cLine→∀z,GOk (T.z z) ⟨callN defs anc n,anc⟩ A):GOk T ⟨callN defs anc (n+1),anc⟩ A:=fun c K hA C f vs us P ρ H s Q X a S r eg w=>by
  subst hA
  ·obtain⟨d,hf,hlen,w⟩:=call_inv w
   obtain⟨a',o,fd,body,eg',FO⟩:=D f d hf
   rw[eg] at eg';cases eg'
   obtain⟨m,hm,hv⟩:=S.loc
   have hul:us.length=d.params:=by rw[←r.length];exact hlen
   have kb:∀b o,W.base.get? b=some o→s.heap.get? b=some o:=fun b o e=>S.base b o e
   have hcode:s.heap.CodeRec fd.code fd.qualname:=by
    obtain⟨cc,oc,cvs,tq,h1,h2,h3,h4⟩:=FO.code
    exact⟨cc,oc,cvs,tq,h1,kb _ _ h2,h3,h4⟩
   refine wpAny_call (codeAny_call_function (by unfold recursionLimit;exact lB [] [_,_] (.n 0) (.c 1000) [.B (.a (.n 0) (.a (.n 1) (.c 1))) (.c 1000)] [1,1] rfl hdep) (kb _ _ FO.at_) FO.data FO.co FO.gen FO.bodyE hcode (FO.binds us s hul S.frag _ _ _ _ ?_))
   rw[FO.clos]
   have hnd:=binds_nodup (us:=us) FO.slots FO.str
   refine wpAny_newFunctionEnv_cells FO.kind (fun y hy=>?_) fun env he s' x=>?_
   ·obtain⟨z,hz,ez⟩:∃z∈d.slots.take d.params,Str.ofString z=y.1:=by
     have:y.1∈(d.slots.take d.params).map Str.ofString:=(List.of_mem_zip hy).1
     obtain⟨z,hz,e⟩:=List.mem_map.mp this
     exact⟨z,hz,e⟩
    rw[←ez]
    rcases FO.parK z hz with h | h
    ·exact .inl h
    ·exact .inr ⟨h,cellsFrom_some _ _ _ (.inl (lookup_mem h))⟩
   have hloc:env.locals=s.heap.objs.size:=by rw[he];rfl
   have hcel:env.cells=cellsFrom (s.heap.objs.size+1) fd.scope.names []:=by rw[he];rfl
   have hsc:env.scope=fd.scope:=by rw[he];rfl
   have hfr:env.frame=some env.locals:=by rw[he];rfl
   have hfr':∀b∈c.frs,b<s.heap.objs.size:=fun b hb=>by obtain⟨o',e',_⟩:=S.ownD b (.inr hb);exact Heap.lt_size e'
   refine⟨(hlim.keeps kb).keeps x.toInCall.keep,codeAny_func ?_⟩
   have FX:FxOk T (c.fn (fnK T.gint T.fns T.cls fd.scope d) env m) (fnK T.gint T.fns T.cls fd.scope d) false:=by
    refine fn_ok C (K':=fnK T.gint T.fns T.cls fd.scope d) hsc FO.kind rfl rfl rfl rfl (by rw[he];exact FO.glob) (by rw[he];exact FO.bi) hfr (by exact lB [] [_,_,_] (.a (.n 0) (.c 23)) (.n 1) [.B (.a (.a (.n 0) (.m 3 (.a (.n 2) (.c 1)))) (.c 25)) (.n 1)] [1,1] rfl hun) ?_ ?_ x.apart ?_
    ·intro i j y z hi hj e
     have hy:y∈d.slots:=List.mem_of_getElem? hi
     have hz:z∈d.slots:=List.mem_of_getElem? hj
     have:=FO.str y z hy hz e
     subst this
     have hi':d.slots[i]?=some y:=hi
     have hj':d.slots[j]?=some y:=hj
     have hil:i<d.slots.length:=by
      rcases Nat.lt_or_ge i d.slots.length with q | q
      ·exact q
      ·rw[List.getElem?_eq_none q] at hi';cases hi'
     exact (List.getElem?_inj hil FO.slots).mp (hi'.trans hj'.symm)
    ·intro y e
     have e:fd.scope.names.lookup y=some .cell:=by unfold Env.kindOf at e;rw[hsc] at e;exact e
     rw[hcel]
     exact Option.isSome_iff_exists.mp (cellsFrom_some _ _ _ (.inl (lookup_mem e)))
    ·intro y b e
     have h1:=x.above y b (mem_of_lookup e)
     refine⟨Nat.ne_of_gt h1,fun q=>?_⟩
     have h2:=hfr' b q
     rw[hloc] at h1
     exact absurd (Nat.lt_trans h1 h2) (Nat.lt_irrefl _)
   have S':Sim W (c.fn (fnK T.gint T.fns T.cls fd.scope d) env m) (PC c H s.heap []) ((vs.map some)++List.replicate (d.slots.length-d.params) none) H s':=by
    refine S.intoF (by rw[hsc,FO.kind];decide) hfr hloc x hm fun kr i y v hi1 hi2 hi3=>?_
    have hi:i<d.params∧vs[i]?=some v:=by
     by_cases q:i<vs.length
     ·rw[List.getElem?_append_left (by simpa using q),List.getElem?_map] at hi3
      cases z:vs[i]? with
      | none=>rw[z] at hi3;cases hi3
      | some v'=>rw[z] at hi3;cases hi3;exact⟨by exact lB [] [_,_,_] (.n 0) (.n 1) [.E (.n 2) (.n 1),.B (.n 0) (.n 2)] [1,1,1] rfl hlen q,rfl⟩
     ·rw[List.getElem?_append_right (by simpa using q),List.getElem?_replicate] at hi3
      split at hi3 <;> simp at hi3
    obtain⟨u,eu,ru⟩:=r.get hi.2
    have mem:=binds_at (us:=us) hi.1 hi2 eu
    have hz:y∈d.slots.take d.params:=List.mem_of_getElem? (i:=i) (by rw[List.getElem?_take_of_lt hi.1];exact hi2)
    have kof:env.kindOf (Str.ofString y)=fd.scope.names.lookup (Str.ofString y):=by unfold Env.kindOf;rw[hsc]
    rcases FO.parK y hz with h | h
    ·exact .loc (by rw[kof];exact h) u (bindL_mem hnd (by rw[kof];exact h) (.inl mem)) (ru.mono kr)
    ·obtain⟨cl,ecl⟩:=Option.isSome_iff_exists.mp (cellsFrom_some fd.scope.names (s.heap.objs.size+1) [] (.inl (lookup_mem h)))
     have ecl':env.cells.lookup (Str.ofString y)=some cl:=by rw[hcel];exact ecl
     obtain⟨o',e1,e2⟩:=x.cell _ _ ecl'
     rw[bindC_mem hnd (by rw[kof,h];simp) (.inl mem)] at e2
     exact .cel (by rw[kof];exact h) cl o' u ecl' e1 e2 (ru.mono kr)
   have O':∀z,GOk (T.z z) ⟨callN defs anc n,anc⟩ (c.A.deeper env):=gok _ (by show c.A.depth+1+n<1000;exact lB [] [_,_] (.a (.a (.n 0) (.c 1)) (.n 1)) (.c 1000) [.B (.a (.n 0) (.a (.n 1) (.c 1))) (.c 1000)] [1,1] rfl hdep) (by show c.A.units+3+3*n+25<cLine;exact lB [] [_,_,_] (.a (.a (.a (.n 0) (.c 3)) (.m 3 (.n 1))) (.c 25)) (.n 2) [.B (.a (.a (.n 0) (.m 3 (.a (.n 1) (.c 1)))) (.c 25)) (.n 2)] [1,1] rfl hun)
   have run:=sound_MSs (W:=W) (T:=T) (G:=⟨callN defs anc n,anc⟩) hanc FO.text W.scr (c.fn (fnK T.gint T.fns T.cls fd.scope d) env m) FX (fun ξ=>O') _ _ _ s' _ Q _ S' w
   refine wpAny_mono run (fun fl s₂ h₂=>?_) fun e s₂ h₂=>?_
   ·cases fl with
    | next =>
     obtain⟨ρ',H',S₂,q⟩:=h₂
     exact⟨.none,H',(S.outF C hm hfr hv S₂).1,.none,q⟩
    | ret u =>
     obtain⟨v,ρ',H',S₂,rv,q⟩:=h₂
     exact⟨v,H',(S.outF C hm hfr hv S₂).1,rv,q⟩
    | _=>exact h₂.elim
   ·obtain⟨k,ρ',H',S₂,F,q⟩:=h₂
    unfold leaving
    have F:Fly W (PC c H s.heap []) (some env.locals) s₂.heap e k:=by rw[←hfr];exact F
    have hfrm:(c.A.deeper env).frames=some (env :: c.fenvs):=FX.frames
    refine wpAny_bind (note_frame S₂ hfrm rfl hfr F fun h' S₃ F₃=>?_)
    refine setFlight_to (s:={ s₂ with heap:=h' }) (f:=none) S₃ F₃ fun h'' S₄ F₄=>?_
    have S₅:=(S.outF C hm hfr hv S₄).1
    exact⟨k,H',S₅,(FlyAt.fly F₄).weaken fun b o p=>⟨S.prot b o p,S.protH b o p,(S.protF b o p).2,by simp⟩,q⟩
theorem gok {defs:String→Option Fn}{anc:String→List String} (hanc:anc=T.anc) (hlim:W.base.NoLimit) (D:∀f d,defs f=some d→∃a o fd body,T.mg (Str.ofString f)=some (.ref a)∧FnOk T d a o fd body) :
  ∀(n:Nat) (A:Around),A.depth+n<1000→A.units+3*n+25<cLine→∀z,GOk (T.z z) ⟨callN defs anc n,anc⟩ A
 | 0,A,_,_=>fun z c K hA C f vs us P ρ H s Q X a S r e w=>w.elim
 | n+1,A,hdep,hun=>fun z=>gok_step (T:=T.z z) hanc hlim (fun f d e=>let ⟨a,o,fd,body,e1,F⟩:=D f d e;⟨a,o,fd,body,e1,F.z z⟩) n A hdep hun fun A h1 h2=>gok hanc hlim D n A h1 h2
end
end Mine
end

section
namespace Mine
open PySem PySem.W PySem.Calls PyProof.Rows PySem.SeqAt
section
variable {W:Wd}{T:Tx W}

noncomputable def Cx.top (A:Around) (K:Kc) (env:Env):Cx:={ A:=A.deeper env,env:=env,fenvs:=[env],names:=K.names,vis:=K.vis,own:=ownC env.locals env.cells,outer:=[] }

theorem top_ok {A:Around}{K':Kc}{env:Env} (hh:A.handled=none) (hA:A.frames=some []) (h1:env.scope=K'.sc) (h2:K'.sc.kind=.function) (hg:K'.gint=T.gint) (hf:K'.fns=T.fns) (hc:K'.cls=T.cls) (hin:K'.inC=false) (hgl:env.globals=T.G) (hbi:env.builtins=T.B) (hfr:env.frame=some env.locals) (hu:A.units+23<cLine)
  (hinj:∀(i j:Nat) (x y:String),K'.names[i]?=some x→K'.names[j]?=some y→Str.ofString x=Str.ofString y→i=j) (hck:∀x,env.kindOf x=some .cell→∃a,env.cells.lookup x=some a) (hpw:env.cells.Pairwise fun x y=>x.2≠y.2) (hab:∀x a,env.cells.lookup x=some a→a≠env.locals) :
  FxOk T (Cx.top A K' env) K' false where
 sc:=h1
 kind:=h2
 names:=rfl
 vis:=rfl
 gint:=hg
 fns:=hf
 cls:=hc
 glob:=hgl
 bi:=hbi
 hand:=fun ξ=>hh
 units:=by show A.units+3+20<cLine;exact lB [] [_,_] (.a (.a (.n 0) (.c 3)) (.c 20)) (.n 1) [.B (.a (.n 0) (.c 23)) (.n 1)] [1,1] rfl hu
 frames:=by show A.frames.map (env :: ·)=some [env];rw[hA];rfl
 inj:=hinj
 cellOwn:=fun x a e ξ=>by
  show a∈ownC env.locals env.cells
  unfold ownC
  refine .tail _ (List.mem_filterMap.mpr ⟨(x,a),mem_of_lookup e,by simp [show env.cells.lookup x=some a from e]⟩)
 cellFr:=fun x a e q=>by
  have:=hab x a e
  simp only[Cx.frs,Cx.top,List.filterMap_cons,hfr,List.filterMap_nil,List.mem_cons,List.not_mem_nil,or_false] at q
  exact this q
 cellKind:=hck
 cellInj:=fun x y a ex ey=>by
  have:=pw_inj hpw (x,a) (mem_of_lookup ex) (y,a) (mem_of_lookup ey) rfl
  cases this;rfl
 head:=⟨[],rfl⟩
 fr:=⟨_,hfr⟩
 inF:=hin

theorem Sim.intoTop {A:Around}{ρ₀:Loc}{s s':Shared}{K':Kc}{env:Env}{m' cm:Str→Option Value} (hz:∀b,¬W.scr b) (hs:s=W.s₀) (hb:s.heap=W.base) (hkd:env.scope.kind≠.module) (hfr:env.frame=some env.locals) (hL:env.locals=s.heap.objs.size) (x:InCallC s env.locals m' env.cells cm s')
  (hv:KeepR W s.heap s'.heap→∀i x v,K'.vis i=true→K'.names[i]?=some x→ρ₀[i]?=some (some v)→HasVar W env s'.heap m' (Str.ofString x) v) :
  Sim W (Cx.top A K' env) (fun ξ ξ=>False) ρ₀ (fun ξ=>none) s':=by
 have hk:=x.toInCall.keep
 have kr:KeepR W s.heap s'.heap:=.of_keeps hk
 have nL:s.heap.get? env.locals=none:=by rw[hL];exact size_none _
 have ncell:∀y b,(y,b)∈env.cells→s.heap.get? b=none:=fun y b e=>Heap.get?_none_of_le (by have:=x.above y b e;rw[hL] at this;exact Nat.le_of_lt this)
 have own_none:∀b,b∈ownC env.locals env.cells→s.heap.get? b=none:=fun b hb=>by
  rcases mem_ownC hb with rfl | ⟨y,e,_⟩
  ·exact nL
  ·exact ncell y b e
 obtain⟨oL,esL,epL,eL,dL,rL⟩:=id x.toInCall.ns
 refine⟨?_,fun b o e=>hk b o (by rw[hb];exact e),⟨hkd,⟨env.locals,oL,hfr,by rw[←hb];exact nL,eL,by rw[dL];exact nofun⟩,trivial⟩,(fun p hp=>by cases hp),⟨m',x.toInCall.ns,hv kr⟩,by simp [Cx.top,ownC],fun b hb'=>by rw[←hb];exact own_none b hb',(fun b hb p hp=>by cases hp),
  (fun a o e=>by cases e),(fun a o e=>by cases e),(fun a o e=>by cases e),(fun b o p=>p.elim),(fun b o p=>p.elim),(fun b o p=>p.elim),fun y a e=>⟨_,x.cell y a e⟩,fun b hb=>?_,fun b hb=>(hz b hb).elim⟩
 ·obtain⟨h,tk,e⟩:=x.toInCall.same
  exact⟨h,tk,by rw[e,hs]⟩
 ·rcases hb with hb | hb
  ·rcases mem_ownC hb with rfl | ⟨y,e,l⟩
   ·exact⟨oL,eL,.inl ⟨_,_,dL⟩⟩
   ·obtain⟨o,e1,e2⟩:=x.cell y b l
    exact⟨o,e1,.inr ⟨_,e2⟩⟩
  ·simp only[Cx.frs,Cx.top,List.filterMap_cons,hfr,List.filterMap_nil,List.mem_cons,List.not_mem_nil,or_false] at hb
   subst hb
   exact⟨oL,eL,.inl ⟨_,_,dL⟩⟩

theorem top_call {defs:String→Option Fn}{anc:String→List String} (hanc:anc=T.anc) (hlim:W.base.NoLimit) (D:∀f d,defs f=some d→∃a o fd body,T.mg (Str.ofString f)=some (.ref a)∧FnOk T d a o fd body)
  {n:Nat}{A:Around} (hh:A.handled=none) (hA:A.frames=some []) (hdep:A.depth+(n+1)<1000) (hun:A.units+3*(n+1)+25<cLine) {f:String}{a:Addr}{vs:List V}{us:List Value}{s:Shared}{Q:V→Prop}{RR:Result→Shared→Prop} (hz:∀b,¬W.scr b) (hs:s=W.s₀) (hb:s.heap=W.base)
  (eg:T.mg (Str.ofString f)=some (.ref a)) (r:Reps W s.heap vs us) (w:callN defs anc (n+1) f vs (fun v ξ=>Q v) (fun ξ ξ=>False) (fun ξ=>none))
  (hR:∀v u h tk,Q v→Rep W h v u→W.base.StaysIn h→RR (.ok (.ret u)) { W.s₀ with heap:=h,toks:=tk }) :
  codeAny (model W.prog W.w) A (.call (.ref a) ⟨us,[]⟩) RR s:=by
 ·obtain⟨d,hf,hlen,w⟩:=call_inv w
  obtain⟨a',o,fd,body,eg',FO⟩:=D f d hf
  rw[eg] at eg';cases eg'
  have hul:us.length=d.params:=by rw[←r.length];exact hlen
  have kb:∀b o,W.base.get? b=some o→s.heap.get? b=some o:=fun b o e=>by rw[hb];exact e
  have hcode:s.heap.CodeRec fd.code fd.qualname:=by rw[hb];exact FO.code
  refine codeAny_call_function (by unfold recursionLimit;exact lB [] [_,_] (.n 0) (.c 1000) [.B (.a (.n 0) (.a (.n 1) (.c 1))) (.c 1000)] [1,1] rfl hdep) (kb _ _ FO.at_) FO.data FO.co FO.gen FO.bodyE hcode (FO.binds us s hul (fun b o e=>kb b o (T.hfrag b o e)) _ _ _ _ ?_)
  rw[FO.clos]
  have hnd:=binds_nodup (us:=us) FO.slots FO.str
  refine wpAny_newFunctionEnv_cells FO.kind (fun y hy=>?_) fun env he s' x=>?_
  ·obtain⟨z,hz,ez⟩:∃z∈d.slots.take d.params,Str.ofString z=y.1:=by
    have:y.1∈(d.slots.take d.params).map Str.ofString:=(List.of_mem_zip hy).1
    obtain⟨z,hz,e⟩:=List.mem_map.mp this
    exact⟨z,hz,e⟩
   rw[←ez]
   rcases FO.parK z hz with h | h
   ·exact .inl h
   ·exact .inr ⟨h,cellsFrom_some _ _ _ (.inl (lookup_mem h))⟩
  have hloc:env.locals=s.heap.objs.size:=by rw[he];rfl
  have hcel:env.cells=cellsFrom (s.heap.objs.size+1) fd.scope.names []:=by rw[he];rfl
  have hsc:env.scope=fd.scope:=by rw[he];rfl
  have hfr:env.frame=some env.locals:=by rw[he];rfl
  refine⟨(hlim.keeps kb).keeps x.toInCall.keep,codeAny_func ?_⟩
  have FX:FxOk T (Cx.top A (fnK T.gint T.fns T.cls fd.scope d) env) (fnK T.gint T.fns T.cls fd.scope d) false:=by
   refine top_ok (K':=fnK T.gint T.fns T.cls fd.scope d) hh hA hsc FO.kind rfl rfl rfl rfl (by rw[he];exact FO.glob) (by rw[he];exact FO.bi) hfr (by exact lB [] [_,_,_] (.a (.n 0) (.c 23)) (.n 1) [.B (.a (.a (.n 0) (.m 3 (.a (.n 2) (.c 1)))) (.c 25)) (.n 1)] [1,1] rfl hun) ?_ ?_ x.apart ?_
   ·intro i j y z hi hj e
    have hy:y∈d.slots:=List.mem_of_getElem? hi
    have hz:z∈d.slots:=List.mem_of_getElem? hj
    have:=FO.str y z hy hz e
    subst this
    have hi':d.slots[i]?=some y:=hi
    have hj':d.slots[j]?=some y:=hj
    have hil:i<d.slots.length:=by
     rcases Nat.lt_or_ge i d.slots.length with q | q
     ·exact q
     ·rw[List.getElem?_eq_none q] at hi';cases hi'
    exact (List.getElem?_inj hil FO.slots).mp (hi'.trans hj'.symm)
   ·intro y e
    have e:fd.scope.names.lookup y=some .cell:=by unfold Env.kindOf at e;rw[hsc] at e;exact e
    rw[hcel]
    exact Option.isSome_iff_exists.mp (cellsFrom_some _ _ _ (.inl (lookup_mem e)))
   ·intro y b e
    exact Nat.ne_of_gt (x.above y b (mem_of_lookup e))
  have S':Sim W (Cx.top A (fnK T.gint T.fns T.cls fd.scope d) env) (fun ξ ξ=>False) ((vs.map some)++List.replicate (d.slots.length-d.params) none) (fun ξ=>none) s':=by
   refine Sim.intoTop hz hs hb (by rw[hsc,FO.kind];decide) hfr hloc x fun kr i y v hi1 hi2 hi3=>?_
   have hi:i<d.params∧vs[i]?=some v:=by
    by_cases q:i<vs.length
    ·rw[List.getElem?_append_left (by simpa using q),List.getElem?_map] at hi3
     cases z:vs[i]? with
     | none=>rw[z] at hi3;cases hi3
     | some v'=>rw[z] at hi3;cases hi3;exact⟨by exact lB [] [_,_,_] (.n 0) (.n 1) [.E (.n 2) (.n 1),.B (.n 0) (.n 2)] [1,1,1] rfl hlen q,rfl⟩
    ·rw[List.getElem?_append_right (by simpa using q),List.getElem?_replicate] at hi3
     split at hi3 <;> simp at hi3
   obtain⟨u,eu,ru⟩:=r.get hi.2
   have mem:=binds_at (us:=us) hi.1 hi2 eu
   have hz:y∈d.slots.take d.params:=List.mem_of_getElem? (i:=i) (by rw[List.getElem?_take_of_lt hi.1];exact hi2)
   have kof:env.kindOf (Str.ofString y)=fd.scope.names.lookup (Str.ofString y):=by unfold Env.kindOf;rw[hsc]
   rcases FO.parK y hz with h | h
   ·exact .loc (by rw[kof];exact h) u (bindL_mem hnd (by rw[kof];exact h) (.inl mem)) (ru.mono kr)
   ·obtain⟨cl,ecl⟩:=Option.isSome_iff_exists.mp (cellsFrom_some fd.scope.names (s.heap.objs.size+1) [] (.inl (lookup_mem h)))
    have ecl':env.cells.lookup (Str.ofString y)=some cl:=by rw[hcel];exact ecl
    obtain⟨o',e1,e2⟩:=x.cell _ _ ecl'
    rw[bindC_mem hnd (by rw[kof,h];simp) (.inl mem)] at e2
    exact .cel (by rw[kof];exact h) cl o' u ecl' e1 e2 (ru.mono kr)
  have O':∀z,GOk (T.z z) ⟨callN defs anc n,anc⟩ (A.deeper env):=gok hanc hlim D n _ (by show A.depth+1+n<1000;exact lB [] [_,_] (.a (.a (.n 0) (.c 1)) (.n 1)) (.c 1000) [.B (.a (.n 0) (.a (.n 1) (.c 1))) (.c 1000)] [1,1] rfl hdep) (by show A.units+3+3*n+25<cLine;exact lB [] [_,_,_] (.a (.a (.a (.n 0) (.c 3)) (.m 3 (.n 1))) (.c 25)) (.n 2) [.B (.a (.a (.n 0) (.m 3 (.a (.n 1) (.c 1)))) (.c 25)) (.n 2)] [1,1] rfl hun)
  have run:=sound_MSs (W:=W) (T:=T) (G:=⟨callN defs anc n,anc⟩) hanc FO.text W.scr (Cx.top A (fnK T.gint T.fns T.cls fd.scope d) env) FX (fun ξ=>O') _ _ _ s' _ (fun v ξ=>Q v) _ S' w
  refine wpAny_mono run (fun fl s₂ h₂=>?_) fun e s₂ h₂=>(exs_false h₂).elim
  cases fl with
  | next =>
   obtain⟨ρ',H',S₂,q⟩:=h₂
   obtain⟨h,tk,e⟩:=S₂.rest
   subst e
   exact hR .none .none h tk q .none S₂.base
  | ret u =>
   obtain⟨v,ρ',H',S₂,rv,q⟩:=h₂
   obtain⟨h,tk,e⟩:=S₂.rest
   subst e
   exact hR v u h tk q rv S₂.base
  | _=>exact h₂.elim
end
end Mine
end

section
namespace Mine
open PySem PySem.W PySem.Calls PyProof.Rows PySem.SeqAt

noncomputable def gintOk (K:Frag) (y:String×Int):Bool:=match nsIn K mainGlobals (Str.ofString y.1) with
 | some (some (.int m _))=>m == y.2
 | _=>false
noncomputable def fnOk (K:Frag) (y:String×Addr):Bool:=(match nsIn K mainGlobals (Str.ofString y.1) with
 | some (some (.ref a))=>a == y.2
 | _=>false) && (match K.lookup y.2 with
 | some ⟨_,_,.func _,_⟩=>true
 | _=>false)
noncomputable def tailVE:List Value:=[.type "ValueError",.type "Exception",.type "BaseException",.type "object"]
noncomputable def clOk (K:Frag) (y:String×Addr):Bool:=(match nsIn K mainGlobals (Str.ofString y.1) with
 | some (some (.ref a))=>a == y.2
 | _=>false) && excIn K y.2 tailVE "ValueError.__new__"
noncomputable def noneOk (K:Frag) (x:String):Bool:=match nsIn K mainGlobals (Str.ofString x) with
 | some none=>true
 | _=>false
noncomputable def namesB:List String:=["len", "min", "max", "abs", "sum", "sorted", "list", "int", "bool", "tuple", "ValueError", "isinstance", "range", "enumerate", "zip"]
noncomputable def isSB (x:Option Bool) (b:Bool):Bool:=match x with | some c=>c == b | none=>false
theorem isSB_eq {x:Option Bool}{b:Bool} (h:isSB x b=true):x=some b:=by
 unfold isSB at h;split at h
 ·rw[beq_iff_eq.mp h]
 ·cases h
noncomputable def tyOk (K:Frag):Bool:=["NoneType", "bool", "int", "str", "tuple", "list", "dict"].all fun t=>["int", "bool", "list", "tuple"].all fun n=>isSB (kitOne K (.type t) (.type n)) (isiTy t n)
noncomputable def ownOk (K:Frag) (anc:String→List String) (cls:List (String×Addr)) (d:String×Addr):Bool :=
 isSB (kitOne K (.ref d.2) (.type "ValueError")) true && cls.all fun c=>isSB (kitOne K (.ref d.2) (.ref c.2)) ((anc d.1).contains c.1) && isSB (subIn K (.ref d.2) (.ref c.2)) ((anc d.1).contains c.1)

theorem mem_lk {α:Type}{l:List (String×α)}{x:String}{a:α} (h:l.lookup x=some a):(x,a)∈l:=by
 induction l with
 | nil=>cases h
 | cons p r ih =>
  obtain⟨k,v⟩:=p
  rw[List.lookup_cons] at h
  split at h
  ·rename_i e;rw[beq_iff_eq.mp e];cases h;exact .head _
  ·exact .tail _ (ih h)
theorem of_names {K:Frag}{h:Heap}{mg:Str→Option Value} (X:K.In h) (G:h.Ns mainGlobals mg) {x:String} (ok:noneOk K x=true):mg (Str.ofString x)=none:=by
 unfold noneOk at ok
 split at ok
 ·rename_i e;exact mg_none_of X G e
 ·cases ok

theorem lk_ex {α:Type}{l:List (String×α)}{y:String×α}{f:String} (hy:y∈l) (e0:y.1=f):∃C,l.lookup f=some C:=by
 induction l with
 | nil=>cases hy
 | cons z r ih =>
  obtain⟨k,v⟩:=z
  rw[List.lookup_cons]
  by_cases q:(f == k)=true
  ·rw[q];exact⟨_,rfl⟩
  ·rw[Bool.not_eq_true] at q
   rw[q]
   rcases List.mem_cons.mp hy with rfl | hy'
   ·dsimp only at e0;rw[e0] at q;simp at q
   ·exact ih hy'
set_option tactic.hygienic true in
noncomputable def mkTx (W:Wd) {p:Program}{loose:List Str}{mean:ExcName→Option Value}{mg mb:Str→Option Value} (T:Top p loose mean mg mb W.base) (K:Frag) (X:K.In W.base) (gint:List (String×Int)) (fns:List (String×Addr)) (cls:List (String×Addr)) (anc:String→List String)
  (hW:W.cls=fun c=>cls.lookup c) (c1:gint.all (gintOk K)=true) (c2:fns.all (fnOk K)=true) (c3:cls.all (clOk K)=true) (c4:namesB.all (noneOk K)=true) (c5:tyOk K=true) (c6:cls.all (ownOk K anc cls)=true) (c7:∀d∈cls,ExcCls K d.2):Tx W where
 G:=mainGlobals
 B:=builtinsNs
 mg:=mg
 mb:=mb
 hG:=T.g
 hB:=T.b
 mods:=by obtain⟨mc,⟨o,es,ep,e,_⟩,_⟩:=T.nodigits;rw[e];rfl
 gint:=gint
 hgint:=fun x n h=>by
  have:=List.all_eq_true.mp c1 _ (mem_lk h)
  unfold gintOk at this
  split at this
  ·rename_i m t e
   rw[beq_iff_eq.mp this] at e
   exact⟨t,mg_of X T.g e⟩
  ·cases this
 fns:=fns.map (·.1)
 hfns:=fun f h=>by
  have h:f∈fns.map (·.1):=List.contains_iff_mem.mp h
  obtain⟨y,hy,rfl⟩:=List.mem_map.mp h
  have:=List.all_eq_true.mp c2 y hy
  unfold fnOk at this
  rw[Bool.and_eq_true] at this
  obtain⟨h1,h2⟩:=this
  split at h1
  ·rename_i a e
   split at h2
   ·rename_i fd _ e2
    rw[beq_iff_eq.mp h1] at e
    exact⟨y.2,_,fd,mg_of X T.g e,X _ _ e2,rfl⟩
   ·cases h2
  ·cases h1
 cls:=cls.map (·.1)
 frag:=K
 hfrag:=X
 anc:=anc
 kty:=fun t ht n hn=>isSB_eq (List.all_eq_true.mp (List.all_eq_true.mp c5 t ht) n hn)
 kown:=fun d D c C hd hc=>by
  rw[hW] at hd hc
  have:=List.all_eq_true.mp c6 _ (mem_lk hd)
  unfold ownOk at this
  rw[Bool.and_eq_true] at this
  have:=List.all_eq_true.mp this.2 _ (mem_lk hc)
  rw[Bool.and_eq_true] at this
  exact isSB_eq this.1
 kval:=fun d D hd=>by
  rw[hW] at hd
  have:=List.all_eq_true.mp c6 _ (mem_lk hd)
  unfold ownOk at this
  rw[Bool.and_eq_true] at this
  exact isSB_eq this.1
 kcl:=fun d D hd=>by rw[hW] at hd;exact c7 _ (mem_lk hd)
 ksub:=fun d D c C hd hc=>by
  rw[hW] at hd hc
  have:=List.all_eq_true.mp c6 _ (mem_lk hd)
  unfold ownOk at this
  rw[Bool.and_eq_true] at this
  have:=List.all_eq_true.mp this.2 _ (mem_lk hc)
  rw[Bool.and_eq_true] at this
  exact isSB_eq this.2
 own:=fun f h=>by
  have h:f∈cls.map (·.1):=List.contains_iff_mem.mp h
  obtain⟨y,hy,e0⟩:=List.mem_map.mp h
  have:∃C,cls.lookup f=some C:=lk_ex hy e0
  obtain⟨C,hC⟩:=this
  refine⟨C,by rw[hW];exact hC,?_⟩
  have:=List.all_eq_true.mp c3 _ (mem_lk hC)
  unfold clOk at this
  rw[Bool.and_eq_true] at this
  obtain⟨h1,h2⟩:=this
  split at h1
  ·rename_i a e
   rw[beq_iff_eq.mp h1] at e
   exact own_of_in X (topRead_of T) e h2
  ·cases h1
 cns:=fun c n h=>by
  have N:∀x∈namesB,mg (Str.ofString x)=none:=fun x hx=>of_names X T.g (List.all_eq_true.mp c4 x hx)
  cases c <;> simp only[cnName,Option.some.injEq,reduceCtorEq] at h <;> subst h <;> refine⟨N _ (by decide),?_⟩ <;> rw[T.builtins _ (by decide +kernel)] <;> decide +kernel
 bfs:=fun f=>by
  have N:∀x∈namesB,mg (Str.ofString x)=none:=fun x hx=>of_names X T.g (List.all_eq_true.mp c4 x hx)
  cases f <;> simp only[bfName,bfOf] <;> refine⟨N _ (by decide),?_⟩ <;> rw[T.builtins _ (by decide +kernel)] <;> decide +kernel
 isi:=⟨of_names X T.g (List.all_eq_true.mp c4 "isinstance" (by decide)),by rw[T.builtins _ (by decide +kernel)];decide +kernel⟩
 rng:=⟨of_names X T.g (List.all_eq_true.mp c4 "range" (by decide)),by rw[T.builtins _ (by decide +kernel)];decide +kernel⟩
 enm:=⟨of_names X T.g (List.all_eq_true.mp c4 "enumerate" (by decide)),by rw[T.builtins _ (by decide +kernel)];decide +kernel⟩
 zip:=⟨of_names X T.g (List.all_eq_true.mp c4 "zip" (by decide)),by rw[T.builtins _ (by decide +kernel)];decide +kernel⟩

noncomputable def codeIn (K:Frag) (cd:Value) (q:Str):Bool:=match cd with
 | .ref c=>(match K.lookup c with
  | some ⟨_,_,.fields vs,_⟩=>(match (vs[1]?:Option Value) with
   | some (.str q' _)=>q' == q
   | _=>false)
  | _=>false)
 | _=>false
set_option tactic.hygienic true in
theorem codeIn_rec {K:Frag}{h:Heap}{cd:Value}{q:Str} (X:K.In h) (e:codeIn K cd q=true):h.CodeRec cd q:=by
 unfold codeIn at e
 split at e
 ·split at e
  ·rename_i vs _ e2
   split at e
   ·rename_i q' t e3
    rw[beq_iff_eq.mp e] at e3
    exact⟨_,_,vs,t,rfl,X _ _ e2,rfl,e3⟩
   ·cases e
  ·cases e
 ·cases e
noncomputable def fdOk (K:Frag) (d:Fn) (fd:FuncData):Bool :=
 !fd.scope.isCoroutine && !fd.scope.isGenerator && codeIn K fd.code fd.qualname && fd.closure.isEmpty && fd.globals == mainGlobals && fd.builtins == builtinsNs && fd.scope.kind == .function &&
  decide d.slots.Nodup && d.slots.all (fun x=>d.slots.all fun y=>!(Str.ofString x == Str.ofString y) || x == y) && decide (d.params≤d.slots.length) &&
  (d.slots.take d.params).all (fun x=>match fd.scope.names.lookup (Str.ofString x) with | some .local=>true | some .cell=>true | _=>false)
theorem mkFn {W:Wd}{T:Tx W}{d:Fn}{a:Addr}{o:Obj}{fd:FuncData}{body:List Stmt} (hG:T.G=mainGlobals) (hB:T.B=builtinsNs) (at_:T.frag.lookup a=some o) (data:o.data=.func fd) (ok:fdOk T.frag d fd=true) (bodyE:fd.body=.stmts body)
  (binds:∀(us:List Value) (s:Shared),us.length=d.params→T.frag.In s.heap→BindsTo s fd ⟨us,[]⟩ (bindsOf d us)) (text:Txt (fnK T.gint T.fns T.cls fd.scope d) d.body body):FnOk T d a o fd body:=by
 unfold fdOk at ok
 simp only[Bool.and_eq_true,Bool.not_eq_true',beq_iff_eq,decide_eq_true_eq,List.isEmpty_iff] at ok
 obtain⟨⟨⟨⟨⟨⟨⟨⟨⟨⟨k1,k2⟩,k3⟩,k4⟩,k5⟩,k6⟩,k7⟩,k8⟩,k9⟩,k10⟩,k11⟩:=ok
 refine⟨T.hfrag _ _ at_,data,k1,k2,bodyE,codeIn_rec T.hfrag k3,k4,k5.trans hG.symm,k6.trans hB.symm,k7,k8,fun x y hx hy e=>?_,k10,fun x hx=>?_,binds,text⟩
 ·have:=List.all_eq_true.mp (List.all_eq_true.mp k9 x hx) y hy
  rw[e] at this;simpa using this
 ·have:=List.all_eq_true.mp k11 x hx
  split at this
  ·exact .inl (by assumption)
  ·exact .inr (by assumption)
  ·cases this
noncomputable def fdAt (K:Frag) (a:Addr):FuncData:=match K.lookup a with
 | some ⟨_,_,.func fd,_⟩=>fd
 | _=>default
noncomputable def bodyAt (K:Frag) (a:Addr):List Stmt:=match (fdAt K a).body with
 | .stmts b=>b
 | _=>[]
noncomputable def fnB (K:Frag) (d:Fn) (a:Addr):Bool:=(match K.lookup a with
 | some ⟨_,_,.func _,_⟩=>true
 | _=>false) && (match (fdAt K a).body with
 | .stmts _=>true
 | _=>false) && fdOk K d (fdAt K a)
theorem fnB_spec {K:Frag}{d:Fn}{a:Addr} (h:fnB K d a=true):∃o,K.lookup a=some o∧o.data=.func (fdAt K a)∧(fdAt K a).body=.stmts (bodyAt K a)∧fdOk K d (fdAt K a)=true:=by
 obtain⟨h1,h3⟩:=an h
 obtain⟨h1,h2⟩:=an h1
 split at h1
 ·rename_i e
  refine⟨_,e,?_,?_,h3⟩
  ·unfold fdAt;rw[e]
  ·unfold bodyAt
   split at h2
   ·rename_i e2;rw[e2]
   ·cases h2
 ·cases h1
noncomputable def allU (n:Nat):(List Value→Prop)→Prop:=Nat.rec (motive:=fun ξ=>(List Value→Prop)→Prop) (fun P=>P []) (fun ξ r P=>∀u,r fun us=>P (u :: us)) n
theorem allU_at {n:Nat}:∀ {P:List Value→Prop}{us:List Value},allU n P→us.length=n→P us:=by
 induction n with
 | zero=>intro P us h e;rw[List.eq_nil_of_length_eq_zero e];exact h
 | succ n ih =>
  intro P us h e
  cases us with
  | nil=>cases e
  | cons u us=>exact ih (P:=fun us=>P (u :: us)) (h u) (Nat.succ.inj e)
noncomputable def FnIn (K:Frag) (gint:List (String×Int)) (fns cls:List String) (d:Fn) (a:Addr):Prop:=fnB K d a=true∧(∀S,allU d.params fun us=>peek K S (bindArgs (fdAt K a) ⟨us,[]⟩)=some (bindsOf d us))∧Txt (fnK gint fns cls (fdAt K a).scope d) d.body (bodyAt K a)
noncomputable def FnsIn (K:Frag) (gint:List (String×Int)) (fns cls:List String):List (String×Fn)→List (String×Addr)→Prop
 | [],[]=>True
 | (x,d) :: r,(y,a) :: q=>x=y∧FnIn K gint fns cls d a∧FnsIn K gint fns cls r q
 | _,_=>False
theorem FnsIn.mem {K:Frag}{gint:List (String×Int)}{fns cls:List String}{f:String}{d:Fn}:∀ {l:List (String×Fn)}{q:List (String×Addr)},FnsIn K gint fns cls l q→(f,d)∈l→∃a,(f,a)∈q∧FnIn K gint fns cls d a
 | [],[],_,h=>by cases h
 | (x,d') :: r,(y,a) :: q,⟨e,hf,hr⟩,h=>by
  rcases List.mem_cons.mp h with z | z
  ·cases z;subst e;exact⟨a,.head _,hf⟩
  ·obtain⟨b,hb,hf'⟩:=FnsIn.mem hr z
   exact⟨b,.tail _ hb,hf'⟩
 | _ :: _,[],h,_=>h.elim
theorem run_law {prog:Program}{w:World}{s:Shared}{p:Program}{loose:List Str}{mean:ExcName→Option Value}{mg mb:Str→Option Value} (T:Top p loose mean mg mb s.heap) (K:Frag) (X:K.In s.heap) (gint:List (String×Int)) (fns:List (String×Addr)) (cls:List (String×Addr)) (anc:String→List String) (tab:List (String×Fn))
  (c1:gint.all (gintOk K)=true) (c2:fns.all (fnOk K)=true) (c3:cls.all (clOk K)=true) (c4:namesB.all (noneOk K)=true) (c5:tyOk K=true) (c6:cls.all (ownOk K anc cls)=true) (c7:∀d∈cls,ExcCls K d.2) (hfn:FnsIn K gint (fns.map (·.1)) (cls.map (·.1)) tab fns)
  {n:Nat}{A:Around} (hh:A.handled=none) (hA:A.frames=some []) (hdep:A.depth+(n+1)<1000) (hun:A.units+3*(n+1)+25<cLine) {a l:Addr}{items:Array Value}{xs:List Int} (hlaw:mg (Str.ofString "law")=some (.ref a)) (hl:s.heap.IsList l items) (hx:xs.length≤1000) (hi:Ints xs items.toList)
  (spec:callN (fun f=>tab.lookup f) anc (n+1) "law" [.ro xs] (fun v ξ=>v=.bool true) (fun ξ ξ=>False) (fun ξ=>none)) {RR:Result→Shared→Prop} (hR:∀h tk,s.heap.StaysIn h→RR (.ok (.ret (.bool true))) { s with heap:=h,toks:=tk }) :
  codeAny (model prog w) A (.call (.ref a) ⟨[.ref l],[]⟩) RR s:=by
 let W:Wd:=⟨prog,w,s.heap,s,fun c=>cls.lookup c,fun ξ=>False⟩
 let TX:Tx W:=mkTx W T K X gint fns cls anc rfl c1 c2 c3 c4 c5 c6 c7
 refine top_call (W:=W) (T:=TX) (defs:=fun f=>tab.lookup f) (anc:=anc) rfl T.nolimit (fun f d hf=>?_) hh hA hdep hun (f := "law") (Q:=fun v=>v=.bool true) (fun ξ q=>q) rfl rfl hlaw (.cons (.ro hl hx hi) .nil) spec fun v u h tk hv hr hs=>?_
 ·obtain⟨b,hb,e3,e5,e6⟩:=hfn.mem (mem_lk hf)
  obtain⟨o,e1,e2,e4,e3⟩:=fnB_spec e3
  have:=List.all_eq_true.mp c2 _ hb
  unfold fnOk at this
  rw[Bool.and_eq_true] at this
  obtain⟨h1,h2⟩:=this
  split at h1
  ·rename_i b' e
   rw[beq_iff_eq.mp h1] at e
   exact⟨b,o,_,_,mg_of X T.g e,mkFn (T:=TX) rfl rfl e1 e2 e3 e4 (fun us s hu hX=>kp_binds hX fun S=>allU_at (e5 S) hu) e6⟩
  ·cases h1
 ·subst hv
  cases hr
  exact hR h tk hs
end Mine
end

section
namespace Mine
open PySem (Str Addr)

noncomputable def Ext (H H':Hp):Prop:=∀a o,H a=some o→H' a=some o
theorem Ext.refl (H:Hp):Ext H H:=fun ξ ξ h=>h
theorem Ext.trans {H H₁ H₂:Hp} (a:Ext H H₁) (b:Ext H₁ H₂):Ext H H₂:=fun x o h=>b x o (a x o h)
theorem Hp.set_self (H:Hp) (a:Addr) (o:Ob):(H.set a o) a=some o:=by simp [Hp.set]
theorem Hp.set_ne {H:Hp}{a b:Addr} (o:Ob) (h:b≠a):(H.set a o) b=H b:=by simp [Hp.set,h]
theorem Ext.new {H:Hp}{a:Addr} (o:Ob) (h:H a=none):Ext H (H.set a o):=fun b o' hb=>by
 rw[Hp.set_ne o (by rintro rfl;rw[h] at hb;cases hb)];exact hb
theorem ne_new {H:Hp}{a b:Addr}{o:Ob} (hb:H b=some o) (ha:H a=none):b≠a:=by rintro rfl;rw[ha] at hb;cases hb
theorem Ext.no {H H':Hp}{a:Addr} (e:Ext H H') (h:H' a=none):H a=none:=by
 cases q:H a with
 | none=>rfl
 | some o=>rw[e a o q] at h;cases h
theorem Hp.set_set (H:Hp) (a:Addr) (o o':Ob):(H.set a o).set a o'=H.set a o':=by
 funext b;unfold Hp.set;split <;> rfl
theorem Ext.setNew {H H':Hp}{a:Addr} (o:Ob) (e:Ext H H') (h:H a=none):Ext H (H'.set a o):=fun b o' hb=>by
 rw[Hp.set_ne o (ne_new hb h)];exact e b o' hb

theorem place_nat {k n:Nat} (h:k<n):place (k:Int) n=some k:=by
 unfold place;rw[if_pos (Int.natCast_nonneg k)];simp [h]
theorem place_in {i:Int}{n:Nat} (h0:0≤i) (h:i<n):place i n=some i.toNat:=by
 unfold place;rw[if_pos h0,if_pos (by exact lB [_] [_,_] (.n 0) (.n 1) [.b (.v 0) (.t (.n 1)),.e (.t (.n 0)) (.v 0)] [1,1,1] rfl h (tnE (a:=i) (h0)))]
theorem place_last {n:Nat} (h:0<n):place (-1) n=some (n-1):=by
 unfold place;rw[if_neg (by decide),if_pos (by exact la [] [_] (.c 0) (.a (.c (-1)) (.t (.n 0))) [.B (.c 0) (.n 0)] [1,1] rfl h)];congr 1;exact lQ [] [_,_,_] (.n 0) (.n 1) [.e (.t (.n 0)) (.a (.c (-1)) (.t (.n 2))),.E (.a (.n 1) (.c 1)) (.n 2)] [1,-1,1] [1,1,-1] rfl (tnE (a:=-1+(↑n:Int)) (la [] [_] (.c 0) (.a (.c (-1)) (.t (.n 0))) [.B (.c 0) (.n 0)] [1,1] rfl h)) (nsE (a:=n) (b:=1) (lA [] [_] (.c 1) (.n 0) [.B (.c 0) (.n 0)] [1,1] rfl h))

theorem ex_idx {α:Type}{xs:List α}{i:Int}{P:α→Prop} (hi:Ix i) (h0:0≤i) (h:i<xs.length) (hp:P (xs[i.toNat]'(by exact lB [_] [_,_] (.n 0) (.n 1) [.b (.v 0) (.t (.n 1)),.e (.t (.n 0)) (.v 0)] [1,1,1] rfl h (tnE (a:=i) (h0))))) :
  ∃j z,Ix i∧place i xs.length=some j∧xs[j]?=some z∧P z :=
 ⟨i.toNat,_,hi,place_in h0 h,List.getElem?_eq_getElem (by exact lB [_] [_,_] (.n 0) (.n 1) [.b (.v 0) (.t (.n 1)),.e (.t (.n 0)) (.v 0)] [1,1,1] rfl h (tnE (a:=i) (h0))),hp⟩
theorem forGo_inv {t:Tg}{w:List (Addr×Ob)}{body:Loc→(Loc→Hp→Prop)→Hp→Prop}{N:Loc→Hp→Prop} (I:List It→List It→Loc→Hp→Prop)
  (hw:∀done rest ρ H,I done rest ρ H→okH w H)
  (hN:∀done ρ H,I done [] ρ H→N ρ H)
  (step:∀done it rest ρ H K,I done (it :: rest) ρ H→(∀ρ' H',I (done++[it]) rest ρ' H'→K ρ' H')→∃ρ',bindT t it ρ=some ρ'∧body ρ' K H) :
  ∀(rest done:List It) (ρ:Loc) (H:Hp),I done rest ρ H→forGo t w body rest ρ N H
 | [],done,ρ,H,h=>⟨hw _ _ _ _ h,hN _ _ _ h⟩
 | it :: rest,done,ρ,H,h=>⟨hw _ _ _ _ h,step done it rest ρ H _ h fun ρ' H' h'=>forGo_inv I hw hN step rest (done++[it]) ρ' H' h'⟩

theorem whl_inv {G:Gl}{hd:Bool}{c:Ex}{b:Sts}{N:Loc→Hp→Prop}{R:V→Hp→Prop}{X:String→Loc→Hp→Prop} (I:Nat→Loc→Hp→Prop)
  (step:∀n ρ H K,I n ρ H→(∀m ρ' H',m<n→I m ρ' H'→K ρ' H')→wpE G hd c ρ (asB fun r H₁=>if r then wpSs G hd b ρ K R X H₁ else N ρ H₁) (fun c H₁=>X c ρ H₁) H)
  {n:Nat}{ρ:Loc}{H:Hp} (h:I n ρ H):wpS G hd (.whl c b) ρ N R X H:=by
 rw[qS_whl]
 intro P hP
 induction n using Nat.strongRecOn generalizing ρ H with
 | ind n ih=>exact hP ρ H (step n ρ H P h fun m ρ' H' hm h'=>ih m hm h')

noncomputable def pv (p:Int×Int):V:=.tup [.int p.1,.int p.2]
noncomputable def lv (ps:List (Int×Int)):List V:=ps.map pv
@[simp] theorem lv_length (ps:List (Int×Int)):(lv ps).length=ps.length:=by simp [lv]
theorem lv_append (a b:List (Int×Int)):lv (a++b)=lv a++lv b:=by simp [lv]

section
variable {Q:V→Hp→Prop}{B:Bool→Hp→Prop}{H:Hp}{a b n i k:Int}{xs ys:List V}{p q:Addr}{x y:V}{G:Gl}{hd:Bool}{ρ:Loc}{X:String→Hp→Prop}
theorem exL {o:Option Ob}{xs:List V} (h:o=some (.list xs)) (K:List V→Prop):(∃ys,o=some (.list ys)∧K ys)=K xs:=propext (by
 refine⟨fun h'=>?_,fun k=>⟨xs,h,k⟩⟩
 obtain⟨ys,e,k⟩:=h'
 cases h.symm.trans e
 exact k)
theorem exD {o:Option Ob}{xs:List (Int×V)} (h:o=some (.dict xs)) (K:List (Int×V)→Prop):(∃ys,o=some (.dict ys)∧K ys)=K xs:=propext (by
 refine⟨fun h'=>?_,fun k=>⟨xs,h,k⟩⟩
 obtain⟨ys,e,k⟩:=h'
 cases h.symm.trans e
 exact k)
theorem exB {o:Option Bool}{b:Bool} (h:o=some b) (K:Bool→Prop):(∃c,o=some c∧K c)=K b:=propext (by
 refine⟨fun h'=>?_,fun k=>⟨b,h,k⟩⟩
 obtain⟨ys,e,k⟩:=h'
 cases h.symm.trans e
 exact k)
theorem obL {α:Sort 1}{o:Option Ob}{d:α}{K:List V→α}{D:List (Int×V)→α}{xs:List V} (h:o=some (.list xs)):ob1 o d K D=K xs:=by rw[h];rfl
theorem obD {α:Sort 1}{o:Option Ob}{d:α}{K:List V→α}{D:List (Int×V)→α}{xs:List (Int×V)} (h:o=some (.dict xs)):ob1 o d K D=D xs:=by rw[h];rfl
theorem exI {i:Int}{xs:List V}{j:Nat}{z:V}{K:V→Prop} (hi:Ix i) (h1:place i xs.length=some j) (h2:xs[j]?=some z):(∃j z,Ix i∧place i xs.length=some j∧xs[j]?=some z∧K z)=K z:=propext (by
 refine⟨fun h'=>?_,fun k=>⟨j,z,hi,h1,h2,k⟩⟩
 obtain⟨j',z',_,e,e',k⟩:=h'
 cases h1.symm.trans e
 cases h2.symm.trans e'
 exact k)
theorem v_some {v:V}{K:V→Prop}:varW (some (some v)) K=K v:=rfl
theorem k_int {K:Int→Prop}:int1 (.int a) K=K a:=rfl
theorem k_ref {K:Addr→Prop}:ref1 (.ref p) K=K p:=rfl
theorem h_none {A:Prop}{K:Nat→Prop}:hW none A K=A:=rfl
theorem h_some {A:Prop}{K:Nat→Prop}{j:Nat}:hW (some j) A K=K j:=rfl
theorem call_of {defs:String→Option Fn}{anc:String→List String}{n:Nat}{f:String}{vs:List V}{d:Fn} (h:defs f=some d) (hl:vs.length=d.params)
  (w:wpSs ⟨callN defs anc n,anc⟩ false d.body ((vs.map some)++List.replicate (d.slots.length-d.params) none) (fun ξ H₁=>Q .none H₁) Q (fun c ξ H₁=>X c H₁) H):callN defs anc (n+1) f vs Q X H:=by
 show Option.casesOn (motive:=fun ξ=>Prop) (defs f) False _
 rw[h];exact⟨hl,w⟩
theorem isi_list {anc:String→List String} (h:H p=some (.list xs)):isiAny anc H (.ref p) [.list]=some true:=by
 show oor (ob1 (H p) none (fun ξ=>some true) fun ξ=>some false) (some false)=_
 rw[h];rfl
theorem isi_tup {anc:String→List String}:isiAny anc H (.tup xs) [.tuple]=some true:=rfl
theorem b_add:wbin .add (.int a) (.int b) Q H=Q (.int (a+b)) H:=rfl
theorem b_sub:wbin .sub (.int a) (.int b) Q H=Q (.int (a-b)) H:=rfl
theorem b_mul:wbin .mul (.int a) (.int b) Q H=((Sm a∨Sm b)∧Q (.int (a*b)) H):=rfl
theorem b_fdiv:wbin .fdiv (.int a) (.int b) Q H=((0<b∧b<1073741824)∧Q (.int (a / b)) H):=rfl
theorem b_mod:wbin .mod (.int a) (.int b) Q H=(0<b∧Q (.int (a % b)) H):=rfl
theorem b_pow9:wbin .pow (.int 10) (.int 9) Q H=Q (.int 1000000000) H:=propext ⟨fun h=>h.2,fun h=>⟨by decide,h⟩⟩
theorem b_pow6:wbin .pow (.int 10) (.int 6) Q H=Q (.int 1000000) H:=propext ⟨fun h=>h.2,fun h=>⟨by decide,h⟩⟩
theorem b_addL:wbin .add (.ref p) (.ref q) Q H=∃xs ys,H p=some (.list xs)∧H q=some (.list ys)∧newL (xs++ys) Q H:=rfl
theorem c_lt:wcmp .lt (.int a) (.int b) B H=B (decide (a<b)) H:=rfl
theorem c_le:wcmp .le (.int a) (.int b) B H=B (decide (a≤b)) H:=rfl
theorem c_gt:wcmp .gt (.int a) (.int b) B H=B (decide (b<a)) H:=rfl
theorem c_ge:wcmp .ge (.int a) (.int b) B H=B (decide (b≤a)) H:=rfl
theorem c_eqI:wcmp .eq (.int a) (.int b) B H=B (decide (a=b)) H:=exB rfl fun c=>B (c) H
theorem c_neI:wcmp .ne (.int a) (.int b) B H=B (!decide (a=b)) H:=exB rfl fun c=>B (!c) H
theorem c_eqS {s t:Str}:wcmp .eq (.str s) (.str t) B H=B (decide (s=t)) H:=exB rfl fun c=>B (c) H
theorem c_neS {s t:Str}:wcmp .ne (.str s) (.str t) B H=B (!decide (s=t)) H:=exB rfl fun c=>B (!c) H
theorem c_neB {s t:Bool}:wcmp .ne (.bool s) (.bool t) B H=B (!(s == t)) H:=exB rfl fun c=>B (!c) H
theorem c_isNN:wcmp .is .none .none B H=B true H:=rfl
theorem c_isIN:wcmp .is (.int a) .none B H=B false H:=rfl
theorem c_isRN:wcmp .is (.ref p) .none B H=B false H:=rfl
theorem c_isnNN:wcmp .isNot .none .none B H=B false H:=rfl
theorem c_isnIN:wcmp .isNot (.int a) .none B H=B true H:=rfl
theorem asB_bool {b:Bool}:asB B (.bool b) H=B b H:=rfl
theorem i_ro {xs:List Int}:widx (.ro xs) (.int i) Q H=∃j z,Ix i∧place i xs.length=some j∧xs[j]?=some z∧Q (.int z) H:=rfl
theorem i_tup0:widx (.tup (x :: xs)) (.int 0) Q H=Q x H:=exI ⟨by decide,by decide⟩ (place_nat (k:=0) (Nat.zero_lt_succ _)) rfl
theorem i_tup1:widx (.tup (x :: y :: xs)) (.int 1) Q H=Q y H:=exI ⟨by decide,by decide⟩ (place_nat (k:=1) (Nat.succ_lt_succ (Nat.zero_lt_succ _))) rfl
theorem i_pv0 {r:Int×Int}:widx (pv r) (.int 0) Q H=Q (.int r.1) H:=i_tup0
theorem i_pv1 {r:Int×Int}:widx (pv r) (.int 1) Q H=Q (.int r.2) H:=i_tup1
theorem i_list (h:H p=some (.list xs)):widx (.ref p) (.int i) Q H=∃j z,Ix i∧place i xs.length=some j∧xs[j]?=some z∧Q z H:=obL h
theorem i_dict {kvs:List (Int×V)} (h:H p=some (.dict kvs)):widx (.ref p) (.int i) Q H=∃z,dget i kvs=some z∧Q z H:=obD h
theorem f_lenR {xs:List Int}:wbc .len [.ro xs] Q H=Q (.int xs.length) H:=rfl
theorem f_lenT:wbc .len [.tup xs] Q H=Q (.int xs.length) H:=rfl
theorem f_lenL (h:H p=some (.list xs)):wbc .len [.ref p] Q H=Q (.int xs.length) H:=obL h
theorem f_min:wbc .min2 [.int a,.int b] Q H=Q (.int (if b<a then b else a)) H:=rfl
theorem f_abs:wbc .abs [.int a] Q H=Q (.int (if a<0 then -a else a)) H:=rfl
theorem f_list (h:H p=some (.list xs)):wbc .list [.ref p] Q H=newL xs Q H:=exL h fun xs=>newL xs Q H
theorem f_sortL (h:H p=some (.list xs)):wbc .sorted [.ref p] Q H=(xs.length<64∧((∃is,intsOf xs=some is∧∀js:List Int,js.Perm is→js.Pairwise (·≤·)→newL (js.map V.int) Q H)∨(∃ps:List (Int×Int),xs=ps.map pairV∧(ps.map (·.1)).Nodup∧∀qs:List (Int×Int),qs.Perm ps→(qs.map (·.1)).Pairwise (·≤·)→newL (qs.map pairV) Q H))):=obL h
theorem f_sortD {kvs:List (Int×V)} (h:H p=some (.dict kvs)):wbc .sorted [.ref p] Q H=(kvs.length<64∧∀js:List Int,js.Perm (kvs.map (·.1))→js.Pairwise (·≤·)→newL (js.map V.int) Q H):=obD h
theorem f_sum {is:List Int} (h:H p=some (.list xs)) (e:intsOf xs=some is):wbc .sum [.ref p] Q H=Q (.int is.sum) H:=propext (by
 refine⟨fun h'=>?_,fun k=>⟨xs,is,h,e,k⟩⟩
 obtain⟨ys,js,e1,e2,k⟩:=h'
 cases h.symm.trans e1
 cases e.symm.trans e2
 exact k)
theorem m_append (h:H p=some (.list xs)):wmt .append (.ref p) [x] Q H=(xs.length<Lim∧Q .none (H.set p (.list (xs++[x])))):=exL h fun xs=>xs.length<Lim∧Q .none (H.set p (.list (xs++[x])))
theorem m_reverse (h:H p=some (.list xs)):wmt .reverse (.ref p) [] Q H=Q .none (H.set p (.list xs.reverse)):=exL h fun xs=>Q .none (H.set p (.list xs.reverse))
theorem m_pop (h:H p=some (.list (xs++[x]))):wmt .pop (.ref p) [] Q H=Q x (H.set p (.list xs)):=propext (by
 refine⟨fun h'=>?_,fun k=>⟨xs,x,h,k⟩⟩
 obtain⟨ys,y,e,k⟩:=h'
 have e:=Option.some.inj (h.symm.trans e)
 obtain⟨rfl,rfl⟩:=List.append_singleton_inj.mp (congrArg (fun o=>Ob.casesOn (motive:=fun ξ=>List V) o (fun l=>l) fun ξ=>[]) e)
 exact k)
theorem r_L {m:Mt} (h:H p=some (.list xs)):recv m (.ref p) H=(m≠.get∧m≠.popD):=obL h
theorem r_D {m:Mt}{kvs:List (Int×V)} (h:H p=some (.dict kvs)):recv m (.ref p) H=(m=.get∨m=.popD):=obD h
theorem m_get {kvs:List (Int×V)} (h:H p=some (.dict kvs)):wmt .get (.ref p) [.int i,x] Q H=Q ((dget i kvs).getD x) H:=exD h fun kvs=>Q ((dget i kvs).getD x) H
theorem m_count (h:H p=some (.list xs)):wmt .count (.ref p) [x] Q H=∃n,cntL x xs=some n∧Q (.int n) H:=propext (by
 refine⟨fun h'=>?_,fun k=>⟨xs,k.elim fun n k=>⟨n,h,k⟩⟩⟩
 obtain⟨ys,n,e,k⟩:=h'
 cases h.symm.trans e
 exact⟨n,k⟩)
theorem c_inD {kvs:List (Int×V)} (h:H p=some (.dict kvs)):wcmp .isIn (.int i) (.ref p) B H=B (dget i kvs).isSome H:=obD h
theorem c_notInD {kvs:List (Int×V)} (h:H p=some (.dict kvs)):wcmp .notIn (.int i) (.ref p) B H=B (dget i kvs).isNone H:=obD h
theorem c_inL (h:H p=some (.list xs)):wcmp .isIn (.int i) (.ref p) B H=∃b,inL H (.int i) xs=some b∧B b H:=obL h
theorem c_notInL (h:H p=some (.list xs)):wcmp .notIn (.int i) (.ref p) B H=∃b,inL H (.int i) xs=some b∧B (!b) H:=obL h
end

theorem ex_idxA {α:Type}{xs:List α}{i:Int}{P:α→Prop} (hi:Ix i) (h0:0≤i) (h:i<xs.length) (hp:∀z∈xs,P z) :
  ∃j z,Ix i∧place i xs.length=some j∧xs[j]?=some z∧P z:=ex_idx hi h0 h (hp _ (List.getElem_mem _))
theorem iteF {A B:Prop} (h:B):if false=true then A else B:=h
theorem iteT {A B:Prop} (h:A):if true=true then A else B:=h
theorem iteTf {A B:Prop} (h:B):if true=false then A else B:=h
theorem iteNt {A B:Prop} (h:A):if (!true)=false then A else B:=h
theorem iteNf {A B:Prop} (h:B):if (!true)=true then A else B:=h
theorem iteP {c A B:Prop} [i:Decidable c] (hc:c) (h:A):if c then A else B:=(if_pos hc).mpr h
theorem iteN {c A B:Prop} [i:Decidable c] (hc:¬c) (h:B):if c then A else B:=(if_neg hc).mpr h
theorem ite_all {c:Prop} [Decidable c] {A B:Prop} (h1:c→A) (h2:¬c→B):if c then A else B:=by split <;> simp_all

noncomputable def keys (kvs:List (Int×V)):List Int:=kvs.map (·.1)
theorem keys_length (kvs:List (Int×V)):(keys kvs).length=kvs.length:=by simp [keys]
theorem dget_some_iff {k:Int}:∀ {kvs:List (Int×V)},(dget k kvs).isSome=true ↔ k∈keys kvs
 | []=>by simp [dget,keys]
 | (j,v) :: r=>by
  have ih:=dget_some_iff (k:=k) (kvs:=r)
  simp only[dget,keys,List.map_cons,List.mem_cons] at ih ⊢
  split
  ·rename_i e;simp [e]
  ·rename_i e;rw[ih];exact⟨.inr,fun h=>h.resolve_left fun q=>e q.symm⟩
theorem dset_new {k:Int}{v:V}:∀ {kvs:List (Int×V)},k∉keys kvs→dset k v kvs=kvs++[(k,v)]
 | [],_=>rfl
 | (j,x) :: r,h=>by
  simp only[keys,List.map_cons,List.mem_cons,not_or] at h
  rw[dset,if_neg (fun e=>h.1 e.symm),dset_new (kvs:=r) h.2];rfl
theorem dget_mem {k:Int}{v:V}:∀ {kvs:List (Int×V)},(keys kvs).Nodup→(k,v)∈kvs→dget k kvs=some v
 | (j,x) :: r,hn,hm=>by
  simp only[keys,List.map_cons,List.nodup_cons] at hn
  rcases List.mem_cons.mp hm with e | hm
  ·cases e;simp [dget]
  ·have:k∈r.map (·.1):=List.mem_map.mpr ⟨_,hm,rfl⟩
   rw[dget,if_neg (by rintro rfl;exact hn.1 this)]
   exact dget_mem (kvs:=r) hn.2 hm

theorem nodup_le {α:Type} [DecidableEq α]:∀ {l ks:List α},l.Nodup→(∀x∈l,x∈ks)→l.length≤ks.length
 | [],_,_,_=>by simp
 | x :: r,ks,hn,hs=>by
  have hx:=hs x (.head _)
  have hn:=List.nodup_cons.mp hn
  have ih:=nodup_le (l:=r) (ks:=ks.erase x) hn.2 fun y hy=>by
   rw[List.mem_erase_of_ne (by rintro rfl;exact hn.1 hy)];exact hs y (.tail _ hy)
  rw[List.length_erase_of_mem hx] at ih
  have:0<ks.length:=List.length_pos_of_mem hx
  simp only[List.length_cons];exact lA [] [_,_,_] (.a (.n 0) (.c 1)) (.n 1) [.L (.n 0) (.n 2),.E (.a (.n 2) (.c 1)) (.n 1)] [1,1,1] rfl ih (nsE (a:=ks.length) (b:=1) (lA [] [_] (.c 1) (.n 0) [.B (.c 0) (.n 0)] [1,1] rfl this))
theorem free_place (M:Nat) (hM:0<M) {ks:List Int} (h:ks.length<M) (v:Int):∃n:Nat,((v-1+n) % (M:Int)+1)∉ks:=by
 refine Classical.byContradiction fun hc=>?_
 have hc:∀n:Nat,((v-1+n) % (M:Int)+1)∈ks:=fun n=>Classical.byContradiction fun q=>hc ⟨n,q⟩
 have:=nodup_le (l:=(List.range M).map fun n:Nat=>((v-1+n) % (M:Int)+1)) (ks:=ks) ?_ (by
  intro x hx;obtain⟨n,_,rfl⟩:=List.mem_map.mp hx;exact hc n)
 ·simp at this;exact lf [] [_,_] [.B (.n 0) (.n 1),.L (.n 1) (.n 0)] [1,1] rfl h this
 ·rw[List.nodup_iff_pairwise_ne,List.pairwise_map]
  have hr:=List.nodup_range (n:=M)
  rw[List.nodup_iff_pairwise_ne] at hr
  refine hr.imp_of_mem fun {a b} ha hb hne e=>hne ?_
  have ha:=List.mem_range.mp ha;have hb:=List.mem_range.mp hb
  have e:(v-1+a) % (M:Int)=(v-1+b) % (M:Int):=by exact lq [_,_] [] (.v 0) (.v 1) [.e (.a (.v 0) (.c 1)) (.a (.v 1) (.c 1))] [1,-1] [1,1] rfl e
  have d:=Int.emod_emod_of_dvd (v-1+a) (Int.dvd_refl (M:Int))
  have q:(M:Int) ∣ ((v-1+a)-(v-1+b)):=by
   have h1:(M:Int) ∣ (v-1+a)-(v-1+b) % M:=by rw[←e];exact Int.dvd_self_sub_emod
   have h2:(M:Int) ∣ (v-1+b)-(v-1+b) % M:=Int.dvd_self_sub_emod
   have:=Int.dvd_sub h1 h2
   have z:(v-1+(a:Int))-(v-1+b) % M-((v-1+b)-(v-1+b) % M)=(v-1+a)-(v-1+b):=by exact lq [_,_] [_,_] (.s (.s (.a (.s (.v 0) (.c 1)) (.t (.n 0))) (.v 1)) (.s (.a (.s (.v 0) (.c 1)) (.t (.n 1))) (.v 1))) (.s (.a (.s (.v 0) (.c 1)) (.t (.n 0))) (.a (.s (.v 0) (.c 1)) (.t (.n 1)))) [] [1] [1] rfl
   rwa [z] at this
  have z:(v-1+(a:Int))-(v-1+b)=(a:Int)-b:=by exact lq [_] [_,_] (.s (.a (.s (.v 0) (.c 1)) (.t (.n 0))) (.a (.s (.v 0) (.c 1)) (.t (.n 1)))) (.s (.t (.n 0)) (.t (.n 1))) [] [1] [1] rfl
  rw[z] at q
  rcases Nat.lt_trichotomy a b with hl | hl | hl
  ·have q':(M:Int) ∣ (b:Int)-a:=by have:=Int.dvd_neg.mpr q;rwa [Int.neg_sub] at this
   have:=Int.le_of_dvd (by exact lb [] [_,_] (.c 0) (.s (.t (.n 0)) (.t (.n 1))) [.B (.n 1) (.n 0)] [1,1] rfl hl) q';exact lQ [] [_,_,_] (.n 0) (.n 1) [.B (.n 1) (.n 2),.l (.t (.n 2)) (.s (.t (.n 1)) (.t (.n 0))),.B (.n 0) (.n 1)] [0,1,1,0] [1,0,0,1] rfl hb this hl
  ·exact hl
  ·have:=Int.le_of_dvd (by exact lb [] [_,_] (.c 0) (.s (.t (.n 0)) (.t (.n 1))) [.B (.n 1) (.n 0)] [1,1] rfl hl) q;exact lQ [] [_,_,_] (.n 0) (.n 1) [.B (.n 1) (.n 0),.B (.n 0) (.n 2),.l (.t (.n 2)) (.s (.t (.n 0)) (.t (.n 1)))] [1,1,0,0] [0,0,1,1] rfl hl ha this

theorem rangeL_length (lo st:Int) (n:Nat):(rangeL lo st n).length=n:=by simp [rangeL]
theorem rangeL_at {lo st:Int}{n:Nat}{done rest:List It}{it:It} (h:rangeL lo st n=done++it :: rest):it=.v (.int (lo+done.length*st))∧done.length<n:=by
 have h1:=congrArg (fun l=>l[done.length]?) h
 have h2:=congrArg List.length h
 simp only[rangeL,List.getElem?_map,List.length_map,List.length_range,List.length_append,List.length_cons] at h1 h2
 rw[List.getElem?_range (by exact lB [] [_,_,_] (.n 0) (.n 1) [.E (.n 1) (.a (.n 0) (.a (.n 2) (.c 1)))] [1,-1] rfl h2)] at h1
 simp at h1
 exact⟨h1.symm,by exact lB [] [_,_,_] (.n 0) (.n 1) [.E (.n 1) (.a (.n 0) (.a (.n 2) (.c 1)))] [1,-1] rfl h2⟩

theorem compGo_map {t:Tg}{w:List (Addr×Ob)}{ρ:Loc}{elt:Loc→(V→Hp→Prop)→Hp→Prop}{Q:List V→Hp→Prop}{H:Hp} (f:It→V) (hw:okH w H) :
  ∀(its:List It) (acc:List V),acc.length+its.length≤Lim→(∀it∈its,∃ρ',bindT t it ρ=some ρ'∧∀K,K (f it) H→elt ρ' K H)→Q (acc++its.map f) H →
  compGo t w ρ elt (fun ξ K H₂=>K true H₂) its acc Q H
 | [],acc,_,_,q=>by simp only[compGo];exact⟨hw,by simpa using q⟩
 | it :: its,acc,hl,he,q=>by
  simp only[compGo]
  obtain⟨ρ',e,k⟩:=he it (.head _)
  simp only[List.length_cons] at hl
  refine⟨hw,by exact lB [] [_,_,_] (.n 0) (.n 1) [.L (.a (.n 0) (.a (.n 2) (.c 1))) (.n 1)] [1,1] rfl hl,ρ',e,?_⟩
  rw[if_pos trivial]
  exact k _ (compGo_map f hw its (acc++[f it]) (by simp;exact lA [] [_,_,_] (.a (.a (.n 0) (.c 1)) (.n 1)) (.n 2) [.L (.a (.n 0) (.a (.n 1) (.c 1))) (.n 2)] [1,1] rfl hl) (fun it' h=>he it' (.tail _ h)) (by simpa using q))

theorem sorted_one {ps qs:List (Int×Int)} (hp:ps.Perm qs) (h1:(ps.map (·.1)).Pairwise (·≤·)) (h2:(qs.map (·.1)).Pairwise (·≤·)) (hn:(qs.map (·.1)).Nodup):ps=qs:=by
 have strict:∀l:List (Int×Int),(l.map (·.1)).Pairwise (·≤·)→(l.map (·.1)).Nodup→l.Pairwise (fun a b=>a.1<b.1):=fun l h n=>by
  rw[List.nodup_iff_pairwise_ne] at n
  rw[List.pairwise_map] at h n
  exact (h.and n).imp fun⟨x,y⟩=>by omega
 have n1:(ps.map (·.1)).Nodup:=((hp.map _).nodup_iff).mpr hn
 exact hp.eq_of_pairwise (le:=fun a b=>a.1<b.1) (fun a b ξ ξ x y=>by omega) (strict _ h1 n1) (strict _ h2 hn)

theorem allEq_map {α:Type} [DecidableEq α] {f:V→V→Option Bool}{g:α→V} (h:∀a b,f (g a) (g b)=some (decide (a=b))) (xs:List α):∀ys:List α,allEq f (xs.map g) (ys.map g)=some (decide (xs=ys)):=by
 induction xs with
 | nil=>intro ys;cases ys with
  | nil=>exact congrArg some (decide_eq_true rfl).symm
  | cons b ys=>exact congrArg some (decide_eq_false nofun).symm
 | cons a xs ih=>intro ys;cases ys with
  | nil=>exact congrArg some (decide_eq_false nofun).symm
  | cons b ys =>
   show oand (f (g a) (g b)) (allEq f (xs.map g) (ys.map g))=_
   rw[h,ih]
   show some (decide (a=b) && decide (xs=ys))=_
   rw[←Bool.decide_and]
   exact congrArg some (decide_eq_decide.mpr (List.cons.injEq a xs b ys▸Iff.rfl))
theorem veq_refL {m:Nat}{H:Hp}{p q:Addr}{xs ys:List V} (h1:H p=some (.list xs)) (h2:H q=some (.list ys)):veq (m+1) H (.ref p) (.ref q)=allEq (veq m H) xs ys:=by
 show ob1 (H p) none (fun xs=>ob1 (H q) none (fun ys=>allEq (veq m H) xs ys) fun ξ=>none) (fun ξ=>none)=_
 rw[h1,h2];rfl
theorem c_neOf {B:Bool→Hp→Prop}{H:Hp}{x y:V}{b:Bool} (h:veq eqFuel H x y=some b):wcmp .ne x y B H=B (!b) H:=exB h fun c=>B (!c) H
theorem c_eqOf {B:Bool→Hp→Prop}{H:Hp}{x y:V}{b:Bool} (h:veq eqFuel H x y=some b):wcmp .eq x y B H=B b H:=exB h fun c=>B c H
theorem veq_pv {H:Hp}{m:Nat} (a b:Int×Int):veq (m+2) H (pv a) (pv b)=some (decide (a=b)):=by
 obtain⟨a,c⟩:=a
 obtain⟨b,d⟩:=b
 show some (decide (a=b) && (decide (c=d) && true))=_
 rw[Bool.and_true,←Bool.decide_and]
 exact congrArg some (decide_eq_decide.mpr (Prod.mk.injEq a c b d▸Iff.rfl))
theorem allEq_lv {H:Hp}{m:Nat} (ps qs:List (Int×Int)):allEq (veq (m+2) H) (lv ps) (lv qs)=some (decide (ps=qs)):=allEq_map veq_pv ps qs
theorem lim_eq:Lim=16777216:=rfl
noncomputable def Sts.app:Sts→Sts→Sts
 | .nil,r=>r
 | .cons s a,r=>.cons s (a.app r)
noncomputable def Sts.drop:Nat→Sts→Sts
 | 0,r=>r
 | n+1,.cons _ r=>r.drop n
 | _+1,.nil=>.nil
section
variable {G:Gl}{hd:Bool}{ρ:Loc}{N:Loc→Hp→Prop}{R:V→Hp→Prop}{X:String→Loc→Hp→Prop}{H:Hp}{r a b:Sts}{e c o k v:Ex}{i j m:Nat}{s:St}
theorem app_nil:Sts.app .nil r=r:=rfl
theorem app_cons:Sts.app (.cons s a) r=.cons s (a.app r):=rfl
theorem wpSs_app:∀(a:Sts) (ρ:Loc) (N:Loc→Hp→Prop) (H:Hp),wpSs G hd (a.app r) ρ N R X H=wpSs G hd a ρ (fun ρ₁ H₁=>wpSs G hd r ρ₁ N R X H₁) R X H
 | .nil,ρ,N,H=>by rw[app_nil,qSs_nil]
 | .cons s a,ρ,N,H=>by
  rw[app_cons,qSs_cons,qSs_cons]
  congr 1
  funext ρ₁ H₁
  exact wpSs_app a ρ₁ N H₁
theorem s_nil:wpSs G hd .nil ρ N R X H=N ρ H:=rfl
theorem s_asg:wpSs G hd (.cons (.asg i e) r) ρ N R X H=wpE G hd e ρ (fun v H₁=>wpSs G hd r (ρ.set i (some v)) N R X H₁) (fun c H₁=>X c ρ H₁) H:=rfl
theorem u_pv {p:Int×Int}{K:V→V→Prop}:un2 (pv p) K=K (.int p.1) (.int p.2):=rfl
theorem s_asg2:wpSs G hd (.cons (.asg2 i j e) r) ρ N R X H=(hd=false∧wpE G hd e ρ (fun v H₁=>un2 v fun x y=>wpSs G hd r ((ρ.set i (some x)).set j (some y)) N R X H₁) (fun c H₁=>X c ρ H₁) H):=rfl
theorem s_setIt:wpSs G hd (.cons (.setIt o k v) r) ρ N R X H=wpE G hd v ρ (fun z H₁=>wpE G hd o ρ (fun x H₂=>wpE G hd k ρ (fun y H₃=>setW z x y (fun H'=>wpSs G hd r ρ N R X H') H₃) (fun c H'=>X c ρ H') H₂) (fun c H'=>X c ρ H') H₁) (fun c H'=>X c ρ H') H:=by
 rfl
theorem set_L {z:V}{p:Addr}{k:Int}{xs:List V}{N:Hp→Prop} (h:H p=some (.list xs)):setW z (.ref p) (.int k) N H=((0≤k∧k<xs.length)∧N (H.set p (.list (xs.set k.toNat z)))):=obL h
theorem set_D {z:V}{p:Addr}{k:Int}{kvs:List (Int×V)}{N:Hp→Prop} (h:H p=some (.dict kvs)):setW z (.ref p) (.int k) N H=(kvs.length<Lim∧N (H.set p (.dict (dset k z kvs)))):=obD h
theorem s_ex:wpSs G hd (.cons (.ex e) r) ρ N R X H=wpE G hd e ρ (fun ξ H₁=>wpSs G hd r ρ N R X H₁) (fun c H₁=>X c ρ H₁) H:=rfl
theorem s_ret:wpSs G hd (.cons (.ret e) r) ρ N R X H=wpE G hd e ρ (fun v H₁=>R v H₁) (fun c H₁=>X c ρ H₁) H:=rfl
theorem s_ife:wpSs G hd (.cons (.ife e a b) r) ρ N R X H=wpE G hd e ρ (asB fun t H₁=>if t then wpSs G hd (a.app r) ρ N R X H₁ else wpSs G hd (b.app r) ρ N R X H₁) (fun c H₁=>X c ρ H₁) H:=by rw[qSs_cons,qS_ife];simp only[wpSs_app]
theorem s_raise {c m:String}:wpSs G hd (.cons (.raise c m) r) ρ N R X H=(hd=false∧X c ρ H):=rfl
theorem s_tr {hs:Hs}:wpSs G hd (.cons (.tr b hs) r) ρ N R X H=(hd=false∧wpSs G hd b ρ (fun ρ₁ H₁=>wpSs G hd r ρ₁ N R X H₁) R (fun c ρ₁ H₁=>wpHs G c hs ρ₁ (fun ρ₁ H₁=>wpSs G hd r ρ₁ N R X H₁) R (X c ρ₁ H₁) H₁) H):=rfl
noncomputable def bodyW (G:Gl) (hd:Bool) (b:Sts) (R:V→Hp→Prop) (X:String→Loc→Hp→Prop):Loc→(Loc→Hp→Prop)→Hp→Prop:=fun ρ K H=>wpSs G hd b ρ K R X H
noncomputable def restW (G:Gl) (hd:Bool) (r:Sts) (N:Loc→Hp→Prop) (R:V→Hp→Prop) (X:String→Loc→Hp→Prop):Loc→Hp→Prop:=fun ρ H=>wpSs G hd r ρ N R X H
theorem whl_cons (I:Nat→Loc→Hp→Prop)
  (step:∀n ρ H K,I n ρ H→(∀m ρ' H',m<n→I m ρ' H'→K ρ' H')→wpE G hd c ρ (asB fun t H₁=>if t then bodyW G hd b R X ρ K H₁ else restW G hd r N R X ρ H₁) (fun c H₁=>X c ρ H₁) H)
  {n:Nat}{ρ:Loc}{H:Hp} (h:I n ρ H):wpSs G hd (.cons (.whl c b) r) ρ N R X H:=by
 have:=whl_inv (G:=G) (hd:=hd) (c:=c) (b:=b) (N:=fun ρ₁ H₁=>wpSs G hd r ρ₁ N R X H₁) (R:=R) (X:=X) I step h
 rw[qSs_cons];exact this
theorem for_cons {t:Tg}{s:Sr} (h:hd=false∧wpSr G hd s ρ (fun its w H₁=>forGo t w (bodyW G hd b R X) its ρ (restW G hd r N R X) H₁) (fun c H₁=>X c ρ H₁) H):wpSs G hd (.cons (.for t s b) r) ρ N R X H:=by
 rw[qSs_cons,qS_for];exact h
theorem sr_ex {K:List It→List (Addr×Ob)→Hp→Prop}{X:String→Hp→Prop}:wpSr G hd (.ex e) ρ K X H=wpE G hd e ρ (fun v H₁=>srcW v K H₁) X H:=rfl
theorem src_L {p:Addr}{xs:List V}{K:List It→List (Addr×Ob)→Hp→Prop} (h:H p=some (.list xs)):srcW (.ref p) K H=K (xs.map It.v) [(p,.list xs)] H:=obL h
theorem sf_asg:wpSs G hd (.cons (.asg i e) r) ρ N R X H=wpE G hd e ρ (fun v H₁=>restW G hd r N R X (ρ.set i (some v)) H₁) (fun c H₁=>X c ρ H₁) H:=s_asg
theorem sf_asg2:wpSs G hd (.cons (.asg2 i j e) r) ρ N R X H=(hd=false∧wpE G hd e ρ (fun v H₁=>un2 v fun x y=>restW G hd r N R X ((ρ.set i (some x)).set j (some y)) H₁) (fun c H₁=>X c ρ H₁) H):=s_asg2
theorem sf_setIt:wpSs G hd (.cons (.setIt o k v) r) ρ N R X H=wpE G hd v ρ (fun z H₁=>wpE G hd o ρ (fun x H₂=>wpE G hd k ρ (fun y H₃=>setW z x y (fun H'=>restW G hd r N R X ρ H') H₃) (fun c H'=>X c ρ H') H₂) (fun c H'=>X c ρ H') H₁) (fun c H'=>X c ρ H') H:=s_setIt
theorem sf_ex:wpSs G hd (.cons (.ex e) r) ρ N R X H=wpE G hd e ρ (fun ξ H₁=>restW G hd r N R X ρ H₁) (fun c H₁=>X c ρ H₁) H:=s_ex
theorem sf_ife:wpSs G hd (.cons (.ife e a b) r) ρ N R X H=wpE G hd e ρ (asB fun t H₁=>if t then restW G hd (a.app r) N R X ρ H₁ else restW G hd (b.app r) N R X ρ H₁) (fun c H₁=>X c ρ H₁) H:=s_ife
theorem src_of {p:Addr}{xs:List V}{K:List It→List (Addr×Ob)→Hp→Prop} (h:H p=some (.list xs)) (k:K (xs.map It.v) [(p,.list xs)] H):srcW (.ref p) K H:=by rw[src_L h];exact k
theorem rng_if {c d:Prop}{i1:Decidable c}{i2:Decidable d}{A B:Prop} (h1:c→d→B) (h2:¬(c∧d)→A):if c then (if (!decide d)=true then A else B) else (if (!false)=true then A else B):=by
 by_cases hc:c
 ·by_cases hd:d
  ·simpa [hc,hd] using h1 hc hd
  ·simpa [hc,hd] using h2 (by simp [hd])
 ·simpa [hc] using h2 (by simp [hc])
variable {K:SK}{Y:String→Hp→Prop}{m n t:Int}{x y z:Ex}
theorem sr_r1:wpSr G hd (.range1 x) ρ K Y H=wpE G hd x ρ (fun v H₁=>r1W v K H₁) Y H:=rfl
theorem sr_r2:wpSr G hd (.range2 x y) ρ K Y H=wpE G hd x ρ (fun u H₁=>wpE G hd y ρ (fun v H₂=>r2W u v K H₂) Y H₁) Y H:=rfl
theorem sr_r3:wpSr G hd (.range3 x y z) ρ K Y H=wpE G hd x ρ (fun u H₁=>wpE G hd y ρ (fun v H₂=>wpE G hd z ρ (fun t H₃=>r3W u v t K H₃) Y H₂) Y H₁) Y H:=rfl
theorem sr_zip:wpSr G hd (.zip x y) ρ K Y H=wpE G hd x ρ (fun u H₁=>wpE G hd y ρ (fun v H₂=>zipW u v K H₂) Y H₁) Y H:=rfl
theorem sr_enum {s:Sr}:wpSr G hd (.enum s) ρ K Y H=wpSr G hd s ρ (fun its w H₁=>∃js,enumL 0 its=some js∧K js w H₁) Y H:=rfl
theorem r1_i:r1W (.int n) K H=(Ix n∧K (rangeL 0 1 n.toNat) [] H):=rfl
theorem r2_i:r2W (.int m) (.int n) K H=(Ix m∧Ix n∧K (rangeL m 1 (n-m).toNat) [] H):=rfl
theorem r3_i:r3W (.int m) (.int n) (.int t) K H=(Ix m∧Ix n∧Ix t∧t≠0∧K (rangeL m t (turns m n t)) [] H):=rfl
theorem zip_i {p q:Addr}{xs ys:List V} (h1:H p=some (.list xs)) (h2:H q=some (.list ys)) (h:K (zipL xs ys) [(p,.list xs),(q,.list ys)] H):zipW (.ref p) (.ref q) K H:=⟨xs,ys,h1,h2,h⟩
theorem or_if {c:Prop}{i1:Decidable c}{i2:Decidable (@decide c i1=false)}{i3:Decidable c}{A B B':Prop} (h1:c→A) (h2:¬c→B'):@ite Prop (@decide c i1=false) i2 B' (@ite Prop c i3 A B):=by
 by_cases h:c
 ·rw[if_neg (by simp [h]),if_pos h];exact h1 h
 ·rw[if_pos (by simp [h])];exact h2 h
theorem and_if {c:Prop}{i1 i2:Decidable c}{A B B':Prop} (h1:c→B') (h2:¬c→B):@ite Prop c i1 B' (@ite Prop c i2 A B):=by
 by_cases h:c
 ·rw[if_pos h];exact h1 h
 ·rw[if_neg h,if_neg h];exact h2 h
end
end Mine
end

section
namespace Mine
noncomputable def ancT (c:String):List String:=if c = "TillError" then ["TillError"] else [c, "TillError"]
noncomputable def f_pairs_of:Fn:=⟨1,1,["counts", "value"],
 (.cons (.ret (.comp (.tup (.cons (.var 1) (.cons (.idx (.var 0) (.var 1)) .nil))) (.one 1) (.ex (.bc .sorted (.cons (.var 0) .nil)))))
 .nil)⟩
noncomputable def f_law_cell_at:Fn:=⟨2,2,["_law_script", "_law_k"],
 (.cons (.ife (.cmp .lt (.var 1) (.bc .len (.cons (.var 0) .nil))) (.cons (.ret (.idx (.var 0) (.var 1)))
  .nil) .nil)
 (.cons (.ret (.int 0))
 .nil))⟩
noncomputable def f_law_whole:Fn:=⟨1,1,["_law_found"],
 (.cons (.ret (.bop true (.cons (.isi (.var 0) [.int]) (.cons (.nt (.isi (.var 0) [.bool])) .nil))))
 .nil)⟩
noncomputable def f_law_mixed:Fn:=⟨2,2,["_law_cell", "_law_k"],
 (.cons (.ret (.bin .mod (.bin .mul (.bin .add (.var 0) (.bin .mul (.int 7919) (.var 1))) (.int 48271)) (.int 2147483647)))
 .nil)⟩
end Mine
end

section
namespace Mine
open PySem (Str Addr)

section
variable {defs:String→Option Fn}{anc:String→List String}{n:Nat}{Q:V→Hp→Prop}{X:String→Hp→Prop}{H:Hp}
theorem cell_at_spec (h:defs "_law_cell_at" = some f_law_cell_at) {xs:List Int}{k:Int} (h0:0≤k) (hk:k<1000) (hq:∀c,Q (.int c) H) :
  callN defs anc (n+1) "_law_cell_at" [.ro xs,.int k] Q X H:=by
 refine call_of h rfl ?_;simp only[f_law_cell_at]
 (simp only[List.map_cons,List.map_nil,List.length_cons,List.length_nil,Nat.reduceAdd,Nat.sub_self,List.replicate,List.cons_append,List.nil_append,s_ife,app_cons,app_nil,s_ret,qE_idx,qE_var,gS,gZ,v_some,i_ro,qE_int,qE_cmp,asB_bool,qE_bc,qEs_cons,qEs_nil,f_lenR,true_and,c_lt,decide_eq_true_eq])
 refine ite_all (fun hl=>?_) fun hl=>hq _
 exact ex_idx (P:=fun z=>Q (.int z) H) ⟨by exact lb [_] [] (.c (-4611686018427387904)) (.v 0) [.l (.c 0) (.v 0)] [1,1] rfl h0,by exact lb [_] [] (.v 0) (.c 4611686018427387904) [.b (.v 0) (.c 1000)] [1,1] rfl hk⟩ h0 hl (hq _)
theorem mixed_spec (h:defs "_law_mixed" = some f_law_mixed) {c k:Int} (hq:∀v,0≤v→v<2147483647→Q (.int v) H) :
  callN defs anc (n+1) "_law_mixed" [.int c,.int k] Q X H:=by
 refine call_of h rfl ?_;simp only[f_law_mixed]
 (simp only[List.map_cons,List.map_nil,List.length_cons,List.length_nil,Nat.reduceAdd,Nat.sub_self,List.replicate,List.cons_append,List.nil_append,s_ret,qE_bin,qE_int,qE_var,gS,gZ,v_some,b_mul,b_add,b_mod])
 refine⟨.inl ⟨by decide,by decide⟩,.inr ⟨by decide,by decide⟩,by decide,hq _ (Int.emod_nonneg _ (by decide)) (Int.emod_lt_of_pos _ (by decide))⟩
theorem whole_spec (h:defs "_law_whole" = some f_law_whole) {i:Int} (hq:Q (.bool true) H) :
  callN defs anc (n+1) "_law_whole" [.int i] Q X H:=by
 refine call_of h rfl ?_;simp only[f_law_whole]
 (simp only[List.map_cons,List.map_nil,List.length_cons,List.length_nil,Nat.reduceAdd,Nat.sub_self,List.replicate,List.cons_append,List.nil_append,s_ret,qE_bop,qB_more,qB_one,qE_nt,qE_isi,asB_bool,qE_var,gZ,v_some])
 exact⟨true,rfl,false,rfl,hq⟩
end
theorem nodup_snoc {α:Type}{l:List α}{a:α} (h:l.Nodup) (ha:a∉l):(l++[a]).Nodup:=by
 rw[List.nodup_append]
 refine⟨h,by simp,?_⟩
 intro x hx y hy
 simp only[List.mem_cons,List.not_mem_nil,or_false] at hy
 subst hy;rintro rfl;exact ha hx
section
variable {defs:String→Option Fn}{anc:String→List String}{n:Nat}{Q:V→Hp→Prop}{X:String→Hp→Prop}{H:Hp}
end
section
variable {defs:String→Option Fn}{anc:String→List String}{n:Nat}{Q:V→Hp→Prop}{X:String→Hp→Prop}{H:Hp}
theorem i_lv {p:Addr}{ps:List (Int×Int)}{i:Int} (h:H p=some (.list (lv ps))) (h0:0≤i) (h1:i<ps.length) (hl:ps.length≤Lim) (hq:∀r,ps[i.toNat]?=some r→Q (pv r) H):widx (.ref p) (.int i) Q H:=by
 rw[i_list h]
 rw[lim_eq] at hl
 have:i.toNat<ps.length:=by exact lB [_] [_,_] (.n 0) (.n 1) [.b (.v 0) (.t (.n 1)),.e (.t (.n 0)) (.v 0)] [1,1,1] rfl h1 (tnE (a:=i) (h0))
 exact⟨i.toNat,pv ps[i.toNat],⟨by exact lb [_] [] (.c (-4611686018427387904)) (.v 0) [.l (.c 0) (.v 0)] [1,1] rfl h0,by exact lb [_] [_] (.v 0) (.c 4611686018427387904) [.b (.v 0) (.t (.n 0)),.L (.n 0) (.c 16777216)] [1,1,1] rfl h1 hl⟩,place_in h0 (by rw[lv_length];exact h1),by simp [lv,this],hq _ (List.getElem?_eq_getElem this)⟩
end
noncomputable def kvI (p:Int×Int):Int×V:=(p.1,.int p.2)
theorem keys_kvI (ps:List (Int×Int)):keys (ps.map kvI)=ps.map (·.1):=by simp [keys,kvI,Function.comp_def]
section
variable {defs:String→Option Fn}{anc:String→List String}{n:Nat}{Q:V→Hp→Prop}{X:String→Hp→Prop}{H:Hp}
theorem pairs_of_spec (h5:defs "pairs_of" = some f_pairs_of) {p:Addr}{ps:List (Int×Int)} (hp:H p=some (.dict (ps.map kvI))) (hl:ps.length≤63) (hn:(ps.map (·.1)).Nodup)
  (hq:∀qs a H',qs.Perm ps→(qs.map (·.1)).Pairwise (·≤·)→Ext H H'→H a=none→H' a=some (.list (lv qs))→Q (.ref a) H') :
  callN defs anc (n+1) "pairs_of" [.ref p] Q X H:=by
 refine call_of h5 rfl ?_
 simp only[f_pairs_of]
 (simp only[List.map_cons,List.map_nil,List.length_cons,List.length_nil,Nat.reduceAdd,Nat.reduceSub,List.replicate,List.cons_append,List.nil_append,s_ret,qE_comp,qE_tup,qEs_cons,qEs_nil,qE_idx,qE_var,sr_ex,qE_bc,gZ,v_some,true_and])
 rw[f_sortD hp]
 refine⟨by simp;exact lB [] [_] (.n 0) (.c 64) [.L (.n 0) (.c 63)] [1,1] rfl hl,fun js hj hs=>⟨?_,fun a ha=>?_⟩⟩
 ·have:=hj.length_eq;rw[List.length_map,lim_eq];simp at this;exact lA [] [_,_] (.n 0) (.c 16777216) [.L (.n 1) (.c 63),.E (.n 0) (.n 1)] [1,1,1] rfl hl this
 refine src_of (Hp.set_self _ _ _) ?_
 have hj:js.Perm (ps.map (·.1)):=by have:=keys_kvI ps;rw[keys] at this;rwa [this] at hj
 have hp':=Ext.new (.list (js.map V.int)) ha _ _ hp
 have hjl:js.length=ps.length:=by have:=hj.length_eq;simpa using this
 let f:Int→Int×Int:=fun k=>(k,match dget k (ps.map kvI) with | some (.int v)=>v | _=>0)
 have hf:∀q∈ps,dget q.1 (ps.map kvI)=some (.int q.2):=fun q hq=>dget_mem (by rw[keys_kvI];exact hn) (List.mem_map.mpr ⟨q,hq,rfl⟩)
 have hf2:∀q∈ps,f q.1=q:=fun q hq=>by simp only[f,hf q hq]
 refine compGo_map (f:=fun it=>match it with | .v (.int k)=>pv (f k) | _=>.none) (fun q hq=>by simp only[List.mem_cons,List.not_mem_nil,or_false] at hq;subst hq;exact Hp.set_self _ _ _) _ [] (by simp [lim_eq];exact lA [] [_,_] (.n 0) (.c 16777216) [.L (.n 1) (.c 63),.E (.n 0) (.n 1)] [1,1,1] rfl hl hjl) ?_ ?_
 ·intro it hit
  simp only[List.mem_map] at hit
  obtain⟨v,⟨k,hk,rfl⟩,rfl⟩:=hit
  refine⟨_,rfl,fun K hK=>?_⟩
  (simp only[sS,sZ,gS,gZ,v_some])
  obtain⟨q,hq1,hq2⟩:=List.mem_map.mp (hj.mem_iff.mp hk)
  rw[i_dict hp']
  subst hq2
  refine⟨_,hf q hq1,Nat.le_of_ble_eq_true rfl,?_⟩
  simp only[hf2 q hq1] at hK
  exact hK
 ·refine⟨by simp [lim_eq];exact lA [] [_,_] (.n 0) (.c 16777216) [.L (.n 1) (.c 63),.E (.n 0) (.n 1)] [1,1,1] rfl hl hjl,fun b hb=>?_⟩
  have hb0:H b=none:=(Ext.new _ ha).no hb
  refine hq (js.map f) b _ ?_ ?_ ((Ext.new _ ha).trans (.new _ hb)) hb0 ?_
  ·have h1:=hj.map f
   rw[List.map_map] at h1
   have h2:ps.map (f ∘ fun x=>x.1)=ps:=by
    exact (List.map_congr_left (g:=id) fun q hq=>hf2 q hq).trans (by simp)
   rw[h2] at h1;exact h1
  ·rw[List.map_map];simpa [f,Function.comp_def] using hs
  ·rw[Hp.set_self];simp [lv,Function.comp_def]
end
theorem isi_own {anc:String→List String}{H:Hp}{d c:String}:isiAny anc H (.exc d) [.own c]=some ((anc d).contains c):=congrArg some (Bool.or_false _)
theorem isi_any {anc:String→List String}{H:Hp}{d:String}{ls:List String}:isiAny anc H (.exc d) (ls.map Cn.own)=some (ls.any (anc d).contains):=by
 induction ls with
 | nil=>rfl
 | cons c ls ih=>show oor (some ((anc d).contains c)) (isiAny anc H (.exc d) (ls.map Cn.own))=_;rw[ih];rfl
theorem isi_val {anc:String→List String}{H:Hp}{d:String}:isiAny anc H (.exc d) [.valueError]=some true:=rfl
section
variable {defs:String→Option Fn}{n:Nat}{Q:V→Hp→Prop}{X:String→Hp→Prop}{H:Hp}
end
theorem forGo_map {α:Type}{t:Tg}{w:List (Addr×Ob)}{body:Loc→(Loc→Hp→Prop)→Hp→Prop}{N:Loc→Hp→Prop}{f:α→It}{l:List α} (I:List α→Loc→Hp→Prop)
  (hw:∀as ρ H,I as ρ H→okH w H) (hN:∀ρ H,I l ρ H→N ρ H)
  (step:∀as b bs ρ H K,l=as++b :: bs→I as ρ H→(∀ρ' H',I (as++[b]) ρ' H'→K ρ' H')→∃ρ',bindT t (f b) ρ=some ρ'∧body ρ' K H) {ρ:Loc}{H:Hp} (h:I [] ρ H):forGo t w body (l.map f) ρ N H:=by
 have go:∀(bs as:List α) (ρ:Loc) (H:Hp),l=as++bs→I as ρ H→forGo t w body (bs.map f) ρ N H:=by
  intro bs
  induction bs with
  | nil=>intro as ρ H e i;rw[List.append_nil] at e;subst e;exact⟨hw _ _ _ i,hN _ _ i⟩
  | cons b bs ih =>
   intro as ρ H e i
   exact⟨hw _ _ _ i,step as b bs ρ H _ e i fun ρ' H' i'=>ih (as++[b]) ρ' H' (by rw[e];simp) i'⟩
 exact go l [] ρ H rfl h
theorem lvIt (ps:List (Int×Int)):(lv ps).map It.v=ps.map (fun p=>It.v (pv p)):=by simp [lv,Function.comp_def]
theorem okH_one {p:Addr}{o:Ob}{H:Hp} (h:H p=some o):okH [(p,o)] H:=fun q hq=>by
 simp only[List.mem_cons,List.not_mem_nil,or_false] at hq;subst hq;exact h
theorem okH_nil {H:Hp}:okH [] H:=fun q hq=>by cases hq
theorem compGo_if {α:Type}{t:Tg}{w:List (Addr×Ob)}{ρ:Loc}{elt:Loc→(V→Hp→Prop)→Hp→Prop}{test:Loc→(Bool→Hp→Prop)→Hp→Prop}{Q:List V→Hp→Prop}{H:Hp} (g:α→It) (c:α→Bool) (f:α→V) (hw:okH w H) :
  ∀(l:List α) (acc:List V),acc.length+l.length≤Lim→(∀a∈l,∃ρ',bindT t (g a) ρ=some ρ'∧(∀K,K (c a) H→test ρ' K H)∧(c a=true→∀K,K (f a) H→elt ρ' K H))→Q (acc++(l.filter c).map f) H →
  compGo t w ρ elt test (l.map g) acc Q H
 | [],acc,_,_,q=>by simp only[List.map_nil,compGo];exact⟨hw,by simpa using q⟩
 | a :: l,acc,hl,he,q=>by
  simp only[List.map_cons,compGo]
  obtain⟨ρ',e,k1,k2⟩:=he a (.head _)
  simp only[List.length_cons] at hl
  refine⟨hw,by exact lB [] [_,_,_] (.n 0) (.n 1) [.L (.a (.n 0) (.a (.n 2) (.c 1))) (.n 1)] [1,1] rfl hl,ρ',e,k1 _ ?_⟩
  by_cases hc:c a=true
  ·rw[if_pos hc]
   exact k2 hc _ (compGo_if g c f hw l (acc++[f a]) (by simp;exact lA [] [_,_,_] (.a (.a (.n 0) (.c 1)) (.n 1)) (.n 2) [.L (.a (.n 0) (.a (.n 1) (.c 1))) (.n 2)] [1,1] rfl hl) (fun x h=>he x (.tail _ h)) (by simpa [hc] using q))
  ·rw[if_neg hc]
   exact compGo_if g c f hw l acc (by exact lA [] [_,_,_] (.a (.n 0) (.n 1)) (.n 2) [.L (.a (.n 0) (.a (.n 1) (.c 1))) (.n 2)] [1,1] rfl hl) (fun x h=>he x (.tail _ h)) (by simpa [hc] using q)
theorem compGo_all {α:Type}{t:Tg}{w:List (Addr×Ob)}{ρ:Loc}{elt:Loc→(V→Hp→Prop)→Hp→Prop}{Q:List V→Hp→Prop}{H:Hp} (g:α→It) (f:α→V) (hw:okH w H) {l:List α} (hl:l.length≤Lim)
  (he:∀a∈l,∃ρ',bindT t (g a) ρ=some ρ'∧∀K,K (f a) H→elt ρ' K H) (q:Q (l.map f) H):compGo t w ρ elt (fun ξ K H₂=>K true H₂) (l.map g) [] Q H :=
 compGo_if g (fun ξ=>true) f hw l [] (by simpa using hl) (fun a ha=>let ⟨ρ',e,k⟩:=he a ha;⟨ρ',e,fun K hK=>hK,fun ξ=>k⟩) (by
  have:List.filter (fun _:α=>true) l=l:=by simp
  rw[this];exact q)
noncomputable def lk (v:Int):List (Int×Int)→Option Int
 | []=>none
 | p :: r=>if p.1=v then some p.2 else lk v r
noncomputable def setP (v c:Int):List (Int×Int)→List (Int×Int)
 | []=>[(v,c)]
 | p :: r=>if p.1=v then (p.1,c) :: r else p :: setP v c r
theorem lk_none {v:Int}:∀ {ps:List (Int×Int)},lk v ps=none ↔ v∉ps.map (·.1)
 | []=>by simp [lk]
 | p :: r=>by
  have ih:=lk_none (v:=v) (ps:=r)
  simp only[lk,List.map_cons,List.mem_cons,not_or]
  split
  ·rename_i e;simp [e]
  ·rename_i e;rw[ih];exact⟨fun h=>⟨fun q=>e q.symm,h⟩,(·.2)⟩
theorem lk_some {v c:Int}:∀ {ps:List (Int×Int)},lk v ps=some c→(v,c)∈ps
 | [],h=>by simp [lk] at h
 | p :: r,h=>by
  simp only[lk] at h
  split at h
  ·rename_i e;cases h;subst e;exact .head _
  ·exact .tail _ (lk_some h)
theorem lk_mem {v c:Int}:∀ {ps:List (Int×Int)},(ps.map (·.1)).Nodup→(v,c)∈ps→lk v ps=some c
 | p :: r,hn,hm=>by
  simp only[List.map_cons,List.nodup_cons] at hn
  rcases List.mem_cons.mp hm with e | hm
  ·subst e;simp [lk]
  ·have:v∈r.map (·.1):=List.mem_map.mpr ⟨_,hm,rfl⟩
   rw[lk,if_neg (by intro e;exact hn.1 (e▸this))]
   exact lk_mem hn.2 hm
theorem lk_append {v:Int}:∀ {as bs:List (Int×Int)},v∉as.map (·.1)→lk v (as++bs)=lk v bs
 | [],bs,_=>rfl
 | p :: r,bs,h=>by
  simp only[List.map_cons,List.mem_cons,not_or] at h
  rw[List.cons_append,lk,if_neg (fun e=>h.1 e.symm)]
  exact lk_append h.2
theorem dset_setP {v c:Int}:∀ {ps:List (Int×Int)},dset v (.int c) (ps.map kvI)=(setP v c ps).map kvI
 | []=>rfl
 | p :: r=>by
  simp only[List.map_cons,setP]
  rw[show kvI p=(p.1,V.int p.2) from rfl,dset]
  split
  ·simp [kvI]
  ·rw[dset_setP (ps:=r)];rfl
theorem setP_old {v c:Int}:∀ {ps:List (Int×Int)},(ps.map (·.1)).Nodup→v∈ps.map (·.1)→setP v c ps=ps.map fun p=>if p.1=v then (v,c) else p
 | p :: r,hn,h=>by
  simp only[List.map_cons,List.nodup_cons] at hn
  simp only[setP,List.map_cons]
  split
  ·rename_i e
   have:List.map (fun p=>if p.1=v then (v,c) else p) r=r:=by
    refine (List.map_congr_left (g:=id) fun q hq=>?_).trans (by simp)
    have:q.1≠v:=fun z=>hn.1 (by rw[e,←z];exact List.mem_map.mpr ⟨q,hq,rfl⟩)
    simp [this]
   rw[this,e]
  ·rename_i e
   simp only[List.map_cons,List.mem_cons] at h
   rw[setP_old hn.2 (h.resolve_left fun q=>e q.symm)]
abbrev SrtP (ps:List (Int×Int)):Prop:=(ps.map (·.1)).Pairwise (·≤·)
structure Till (ps:List (Int×Int)):Prop where
 pos:1≤ps.length
 len:ps.length≤10
 nodup:(ps.map (·.1)).Nodup
 srt:SrtP ps
 val:∀q∈ps,1≤q.1∧q.1≤1000
 cnt:∀q∈ps,0≤q.2∧q.2≤1000000000
abbrev Row:=List (Option Int)
noncomputable def ov:Option Int→V
 | none=>.none
 | some i=>.int i
noncomputable def lo (r:Row):List V:=r.map ov
theorem lo_length (r:Row):(lo r).length=r.length:=List.length_map ..
theorem lo_get {r:Row}{p:Nat}{x:Option Int} (h:r[p]?=some x):(lo r)[p]?=some (ov x):=by rw[lo,List.getElem?_map,h];rfl
theorem lo_set (r:Row) (p:Nat) (x:Option Int):(lo r).set p (ov x)=lo (r.set p x):=by rw[lo,lo,List.map_set]

noncomputable def IsLeast (r:Row) (v c p:Nat):Option Int→Prop
 | none=>∀m,m≤c→m*v≤p→r[p-m*v]?=some none
 | some x=>(∃m,m≤c∧m*v≤p∧r[p-m*v]?=some (some (x-m)))∧∀m a,m≤c→m*v≤p→r[p-m*v]?=some (some a)→x≤a+m
theorem IsLeast.one {r:Row}{v c p:Nat}{x y:Option Int} (h:IsLeast r v c p x) (k:IsLeast r v c p y):x=y:=by
 cases x with
 | none=>cases y with
  | none=>rfl
  | some y =>
   obtain⟨⟨m,h1,h2,h3⟩,_⟩:=k
   have:=h m h1 h2;rw[h3] at this;cases this
 | some x =>
  obtain⟨⟨m,h1,h2,h3⟩,k1⟩:=h
  cases y with
  | none=>have:=k m h1 h2;rw[h3] at this;cases this
  | some y =>
   obtain⟨⟨m',g1,g2,g3⟩,k2⟩:=k
   have:=k1 m' _ g1 g2 g3
   have:=k2 m _ h1 h2 h3
   congr 1;omega

structure Win (A:Nat→Option Int) (L:Int) (t:Nat) (cur:List (Int×Int)):Prop where
 mem:∀e∈cur,∃j:Nat,e.1=j∧j<t∧A j=some (e.2+j)
 srt:cur.Pairwise fun a b=>a.1<b.1∧a.2<b.2
 cov:∀(j:Nat) (a:Int),j<t→L≤j→A j=some a→∃e∈cur,(j:Int)≤e.1∧e.2≤a-j
theorem Win.nil (A:Nat→Option Int) (L:Int):Win A L 0 []:=⟨fun ξ h=>(by cases h),List.Pairwise.nil,fun j a h=>(by omega)⟩
theorem Win.skip {A:Nat→Option Int}{L:Int}{t:Nat}{cur:List (Int×Int)} (w:Win A L t cur) (h:A t=none):Win A L (t+1) cur where
 mem:=fun e he=>let ⟨j,h1,h2,h3⟩:=w.mem e he;⟨j,h1,by exact lB [] [_,_] (.n 0) (.a (.n 1) (.c 1)) [.B (.n 0) (.n 1)] [1,1] rfl h2,h3⟩
 srt:=w.srt
 cov:=fun j a hj hL hA=>by
  by_cases q:j=t
  ·subst q;rw[h] at hA;cases hA
  ·exact w.cov j a (by omega) hL hA
theorem Win.push {A:Nat→Option Int}{L:Int}{t:Nat}{cur suf:List (Int×Int)}{a:Int} (w:Win A L t (cur++suf)) (h:A t=some a) (h1:∀e∈suf,a-t≤e.2) (h2:∀e∈cur,e.2<a-t):Win A L (t+1) (cur++[((t:Int),a-t)]) where
 mem:=fun e he=>by
  rcases List.mem_append.mp he with q | q
  ·obtain⟨j,k1,k2,k3⟩:=w.mem e (List.mem_append.mpr (.inl q));exact⟨j,k1,by exact lB [] [_,_] (.n 0) (.a (.n 1) (.c 1)) [.B (.n 0) (.n 1)] [1,1] rfl k2,k3⟩
  ·simp only[List.mem_cons,List.not_mem_nil,or_false] at q;subst q
   exact⟨t,rfl,by exact lB [] [_] (.n 0) (.a (.n 0) (.c 1)) [] [1] rfl,by rw[h];congr 1;omega⟩
 srt:=by
  rw[List.pairwise_append]
  refine⟨(List.pairwise_append.mp w.srt).1,List.pairwise_singleton ..,fun x hx y hy=>?_⟩
  simp only[List.mem_cons,List.not_mem_nil,or_false] at hy;subst hy
  obtain⟨j,k1,k2,k3⟩:=w.mem x (List.mem_append.mpr (.inl hx))
  exact⟨by simp only;exact lb [_] [_,_] (.v 0) (.t (.n 0)) [.e (.v 0) (.t (.n 1)),.B (.n 1) (.n 0)] [1,1,1] rfl k1 k2,h2 x hx⟩
 cov:=fun j b hj hL hA=>by
  by_cases q:j=t
  ·subst q;rw[h] at hA;cases hA
   exact⟨_,List.mem_append.mpr (.inr (.head _)),by simp,by simp⟩
  ·obtain⟨e,he,e1,e2⟩:=w.cov j b (by omega) hL hA
   rcases List.mem_append.mp he with z | z
   ·exact⟨e,List.mem_append.mpr (.inl z),e1,e2⟩
   ·have:=h1 e z
    exact⟨_,List.mem_append.mpr (.inr (.head _)),by simp only;exact la [] [_,_] (.t (.n 0)) (.t (.n 1)) [.B (.n 0) (.a (.n 1) (.c 1))] [1,1] rfl hj,by simp only;exact la [_,_,_] [_,_] (.s (.v 0) (.t (.n 0))) (.s (.v 1) (.t (.n 1))) [.l (.v 2) (.s (.v 1) (.t (.n 1))),.l (.s (.v 0) (.t (.n 0))) (.v 2)] [1,1,1] rfl e2 this⟩
theorem Win.drop {A:Nat→Option Int}{L L':Int}{t:Nat}{old cur:List (Int×Int)} (w:Win A L t (old++cur)) (h:L≤L') (h1:∀e∈old,e.1<L'):Win A L' t cur where
 mem:=fun e he=>w.mem e (List.mem_append.mpr (.inr he))
 srt:=(List.pairwise_append.mp w.srt).2.1
 cov:=fun j a hj hL hA=>by
  obtain⟨e,he,e1,e2⟩:=w.cov j a hj (by exact la [_,_] [_] (.v 0) (.t (.n 0)) [.l (.v 0) (.v 1),.l (.v 1) (.t (.n 0))] [1,1,1] rfl h hL) hA
  rcases List.mem_append.mp he with z | z
  ·have:=h1 e z;omega
  ·exact⟨e,z,e1,e2⟩
theorem Win.least {r:Row}{v c s t:Nat}{cur:List (Int×Int)} (hs:s<v) (w:Win (fun j=>(r[s+j*v]?).getD none) ((t:Int)-c) (t+1) cur) (hlt:s+t*v<r.length) (hh:∀e r',cur=e :: r'→(t:Int)-c≤e.1) :
  IsLeast r v c (s+t*v) (cur.head?.map fun e=>e.2+t):=by
 have at_:∀m,m≤t→s+t*v-m*v=s+(t-m)*v:=fun m hm=>by
  rw[Nat.sub_mul];have:=Nat.mul_le_mul_right v hm;exact lQ [] [_,_,_,_,_] (.n 0) (.a (.n 1) (.n 2)) [.E (.a (.n 0) (.n 3)) (.a (.n 1) (.n 4)),.E (.a (.n 2) (.n 3)) (.n 4)] [1,-1,1] [1,1,-1] rfl (nsE (a:=s+t*v) (b:=m*v) (lA [] [_,_,_] (.n 0) (.a (.n 1) (.n 2)) [.L (.n 0) (.n 2)] [1,1] rfl this)) (nsE (a:=t*v) (b:=m*v) (this))
 have le_:∀m,m*v≤s+t*v→m≤t:=fun m hm=>by
  rcases Nat.lt_or_ge t m with q | q
  ·have:=Nat.mul_le_mul_right v q
   rw[Nat.succ_mul] at this;exact lA [] [_,_,_,_,_,_] (.n 0) (.n 1) [.B (.n 2) (.n 3),.L (.n 4) (.a (.n 2) (.n 5)),.L (.a (.n 5) (.n 3)) (.n 4)] [0,1,1,1] rfl hs hm this
  ·exact q
 have in_:∀m,m≤t→∃x,r[s+(t-m)*v]?=some x:=fun m hm=>by
  have:(t-m)*v≤t*v:=Nat.mul_le_mul_right v (Nat.sub_le ..)
  exact⟨_,List.getElem?_eq_getElem (by exact lB [] [_,_,_,_] (.a (.n 0) (.n 1)) (.n 2) [.B (.a (.n 0) (.n 3)) (.n 2),.L (.n 1) (.n 3)] [1,1,1] rfl hlt this)⟩
 cases cur with
 | nil =>
  intro m hm hv
  have ht:=le_ m hv
  rw[at_ m ht]
  obtain⟨x,hx⟩:=in_ m ht
  cases x with
  | none=>exact hx
  | some a =>
   obtain⟨e,he,_⟩:=w.cov (t-m) a (by exact lB [] [_,_] (.n 0) (.a (.n 1) (.c 1)) [.L (.n 0) (.n 1)] [1,1] rfl (ns0 (a:=t) (b:=m))) (by exact la [] [_,_,_,_] (.s (.t (.n 0)) (.t (.n 1))) (.t (.n 2)) [.L (.n 3) (.n 1),.L (.n 0) (.a (.n 2) (.n 3))] [1,1,1] rfl hm (ns1 (a:=t) (b:=m))) (by simp only[hx];rfl)
   cases he
 | cons e r' =>
  obtain⟨j,k1,k2,k3⟩:=w.mem e (.head _)
  have hL:=hh e r' rfl
  have hj:r[s+j*v]?=some (some (e.2+j)):=by
   cases q:r[s+j*v]? with
   | none=>simp only[q] at k3;cases k3
   | some y=>simp only[q,Option.getD_some] at k3;rw[k3]
  refine⟨⟨t-j,by exact lA [_] [_,_,_,_] (.n 0) (.n 1) [.e (.v 0) (.t (.n 2)),.l (.s (.t (.n 3)) (.t (.n 1))) (.v 0),.E (.a (.n 0) (.n 2)) (.n 3)] [1,1,1,1] rfl k1 hL (nsE (a:=t) (b:=j) (lA [] [_,_] (.n 0) (.n 1) [.B (.n 0) (.a (.n 1) (.c 1))] [1,1] rfl k2)),?_,?_⟩,fun m a hm hv ha=>?_⟩
  ·have:(t-j)*v≤t*v:=Nat.mul_le_mul_right v (Nat.sub_le ..)
   exact lA [] [_,_,_] (.n 0) (.a (.n 1) (.n 2)) [.L (.n 0) (.n 2)] [1,1] rfl this
  ·rw[at_ _ (by exact lA [] [_,_] (.n 0) (.n 1) [.L (.n 0) (.n 1)] [1,1] rfl (ns0 (a:=t) (b:=j))),show t-(t-j)=j by exact lQ [] [_,_,_,_] (.n 0) (.n 1) [.E (.a (.n 0) (.n 2)) (.n 3),.E (.a (.n 2) (.n 1)) (.n 3)] [1,-1,1] [1,1,-1] rfl (nsE (a:=t) (b:=t-j) (lA [] [_,_] (.n 0) (.n 1) [.L (.n 0) (.n 1)] [1,1] rfl (ns0 (a:=t) (b:=j)))) (nsE (a:=t) (b:=j) (lA [] [_,_] (.n 0) (.n 1) [.B (.n 0) (.a (.n 1) (.c 1))] [1,1] rfl k2)),hj]
   show some (some (e.2+(j:Int)))=some (some (e.2+(t:Int)-((t-j:Nat):Int)))
   congr 2;exact lq [_] [_,_,_] (.a (.v 0) (.t (.n 0))) (.s (.a (.v 0) (.t (.n 1))) (.t (.n 2))) [.L (.n 1) (.a (.n 2) (.n 0)),.E (.a (.n 2) (.n 0)) (.n 1)] [1,0,-1] [1,0,1] rfl (ns1 (a:=t) (b:=j)) (nsE (a:=t) (b:=j) (lA [] [_,_] (.n 0) (.n 1) [.B (.n 0) (.a (.n 1) (.c 1))] [1,1] rfl k2))
  ·have ht:=le_ m hv
   rw[at_ m ht] at ha
   obtain⟨e',he',e1,e2⟩:=w.cov (t-m) a (by exact lB [] [_,_] (.n 0) (.a (.n 1) (.c 1)) [.L (.n 0) (.n 1)] [1,1] rfl (ns0 (a:=t) (b:=m))) (by exact la [] [_,_,_,_] (.s (.t (.n 0)) (.t (.n 1))) (.t (.n 2)) [.L (.n 3) (.n 1),.L (.n 0) (.a (.n 2) (.n 3))] [1,1,1] rfl hm (ns1 (a:=t) (b:=m))) (by simp only[ha];rfl)
   rcases List.mem_cons.mp he' with rfl | z
   ·simp only;exact la [_,_] [_,_,_] (.a (.v 0) (.t (.n 0))) (.a (.v 1) (.t (.n 1))) [.l (.v 0) (.s (.v 1) (.t (.n 2))),.L (.n 0) (.a (.n 2) (.n 1))] [1,1,1] rfl e2 (ns1 (a:=t) (b:=m))
   ·have:=((List.pairwise_cons.mp w.srt).1 e' z).2
    simp only;exact la [_,_,_] [_,_,_] (.a (.v 0) (.t (.n 0))) (.a (.v 1) (.t (.n 1))) [.l (.v 2) (.s (.v 1) (.t (.n 2))),.b (.v 0) (.v 2),.L (.n 0) (.a (.n 2) (.n 1))] [1,1,1,1] rfl e2 this (ns1 (a:=t) (b:=m))
end Mine
end

section
namespace Mine
noncomputable def f_counts_of:Fn:=⟨1,4,["till", "found", "value", "count"],
 (.cons (.asg 1 .dict0)
 (.cons (.for (.two 2 3) (.ex (.var 0)) (.cons (.setIt (.var 1) (.var 2) (.var 3))
  .nil))
 (.cons (.ret (.var 1))
 .nil)))⟩
end Mine
end

section
namespace Mine
noncomputable def f_need_sum:Fn:=⟨1,1,["due"],
 (.cons (.ife (.nt (.cmp2 .le .le (.int 0) (.var 0) (.glob "MOST_SUM" 1000))) (.cons (.raise "NoSum" "no sum")
  .nil) .nil)
 .nil)⟩
noncomputable def f_fill:Fn:=⟨5,10,["found", "ahead", "start", "value", "count", "waiting", "first", "turn", "place", "least"],
 (.cons (.asg 5 (.list .nil))
 (.cons (.asg 6 (.int 0))
 (.cons (.for (.two 7 8) (.enum (.range3 (.var 2) (.bc .len (.cons (.var 1) .nil)) (.var 3))) (.cons (.ife (.cmp .isNot (.idx (.var 1) (.var 8)) .none) (.cons (.asg 9 (.bin .sub (.idx (.var 1) (.var 8)) (.var 7)))
   (.cons (.whl (.bop true (.cons (.cmp .gt (.bc .len (.cons (.var 5) .nil)) (.var 6)) (.cons (.cmp .ge (.idx (.idx (.var 5) (.neg (.int 1))) (.int 1)) (.var 9)) .nil))) (.cons (.ex (.mt .pop (.var 5) .nil))
    .nil))
   (.cons (.ex (.mt .append (.var 5) (.cons (.tup (.cons (.var 7) (.cons (.var 9) .nil))) .nil)))
   .nil))) .nil)
  (.cons (.whl (.bop true (.cons (.cmp .lt (.var 6) (.bc .len (.cons (.var 5) .nil))) (.cons (.cmp .lt (.idx (.idx (.var 5) (.var 6)) (.int 0)) (.bin .sub (.var 7) (.var 4))) .nil))) (.cons (.asg 6 (.bin .add (.var 6) (.int 1)))
   .nil))
  (.cons (.ife (.cmp .lt (.var 6) (.bc .len (.cons (.var 5) .nil))) (.cons (.setIt (.var 0) (.var 8) (.bin .add (.idx (.idx (.var 5) (.var 6)) (.int 1)) (.var 7)))
   .nil) .nil)
  .nil))))
 .nil)))⟩
noncomputable def f_row_with:Fn:=⟨3,5,["ahead", "value", "count", "found", "start", "one"],
 (.cons (.asg 3 (.comp .none (.one 5) (.ex (.var 0))))
 (.cons (.for (.one 4) (.range1 (.bc .min2 (.cons (.var 1) (.cons (.bc .len (.cons (.var 0) .nil)) .nil)))) (.cons (.ex (.call "fill" (.cons (.var 3) (.cons (.var 0) (.cons (.var 4) (.cons (.var 1) (.cons (.var 2) .nil)))))))
  .nil))
 (.cons (.ret (.var 3))
 .nil)))⟩
noncomputable def f_table:Fn:=⟨2,5,["till", "most", "rows", "value", "count", "due"],
 (.cons (.ex (.call "need_sum" (.cons (.var 1) .nil)))
 (.cons (.asg 2 (.list (.cons (.bin .add (.list (.cons (.int 0) .nil)) (.comp .none (.one 5) (.range1 (.var 1)))) .nil)))
 (.cons (.for (.two 3 4) (.ex (.var 0)) (.cons (.ex (.mt .append (.var 2) (.cons (.call "row_with" (.cons (.idx (.var 2) (.neg (.int 1))) (.cons (.var 3) (.cons (.var 4) .nil)))) .nil)))
  .nil))
 (.cons (.ret (.var 2))
 .nil))))⟩
noncomputable def f_law_row:Fn:=⟨2,3,["_law_row_here", "_law_size", "_law_few"],
 (.cons (.ife (.bop false (.cons (.nt (.isi (.var 0) [.list])) (.cons (.cmp .ne (.bc .len (.cons (.var 0) .nil)) (.var 1)) .nil))) (.cons (.ret (.bool false))
  .nil) .nil)
 (.cons (.for (.one 2) (.ex (.var 0)) (.cons (.ife (.bop true (.cons (.cmp .isNot (.var 2) .none) (.cons (.nt (.call "_law_whole" (.cons (.var 2) .nil))) .nil))) (.cons (.ret (.bool false))
   .nil) .nil)
  .nil))
 (.cons (.ret (.bool true))
 .nil)))⟩
end Mine
end

section
namespace Mine
open PySem (Str Addr)
noncomputable def Sts.forBody:Sts→Sts
 | .cons (.for _ _ b) _=>b
 | _=>.nil
theorem turns_lt {s L v t:Nat} (hv:0<v):t<turns s L v ↔ s+t*v<L:=by
 unfold turns
 have hv':(0:Int)<v:=by exact lb [] [_] (.c 0) (.t (.n 0)) [.B (.c 0) (.n 0)] [1,1] rfl hv
 rw[if_pos hv']
 have key:((t:Int)+1≤((L:Int)-s+v-1) / v) ↔ ((t:Int)+1)*v≤(L:Int)-s+v-1:=Int.le_ediv_iff_mul_le hv'
 have e:((t:Int)+1)*v=((t*v:Nat):Int)+v:=by rw[Int.add_mul,Int.one_mul,Int.natCast_mul]
 rw[e] at key
 generalize ((L:Int)-s+v-1) / v=q at key ⊢
 generalize t*v=w at key ⊢
 constructor
 ·intro h
  have h':=key.mp (Int.lt_toNat.mp h)
  exact lB [] [_,_,_,_] (.a (.n 0) (.n 1)) (.n 2) [.l (.a (.t (.n 1)) (.t (.n 3))) (.s (.a (.s (.t (.n 2)) (.t (.n 0))) (.t (.n 3))) (.c 1))] [1,1] rfl h'
 ·intro h
  exact Int.lt_toNat.mpr (key.mpr (by exact la [] [_,_,_,_] (.a (.t (.n 0)) (.t (.n 1))) (.s (.a (.s (.t (.n 2)) (.t (.n 3))) (.t (.n 1))) (.c 1)) [.B (.a (.n 3) (.n 0)) (.n 2)] [1,1] rfl h))
theorem range_split {N b:Nat}{as bs:List Nat} (h:List.range N=as++b :: bs):b=as.length∧as.length<N:=by
 have h1:=congrArg (fun l=>l[as.length]?) h
 have h2:=congrArg List.length h
 simp only[List.length_range,List.length_append,List.length_cons] at h2
 rw[List.getElem?_range (by exact lB [] [_,_,_] (.n 0) (.n 1) [.E (.n 1) (.a (.n 0) (.a (.n 2) (.c 1)))] [1,-1] rfl h2)] at h1
 simp at h1
 exact⟨h1.symm,by exact lB [] [_,_,_] (.n 0) (.n 1) [.E (.n 1) (.a (.n 0) (.a (.n 2) (.c 1)))] [1,-1] rfl h2⟩
section
variable {defs:String→Option Fn}{anc:String→List String}{n:Nat}{Q:V→Hp→Prop}{X:String→Hp→Prop}{H:Hp}
theorem need_sum_spec (h:defs "need_sum" = some f_need_sum) {v:Int} (h1:0≤v∧v≤1000→Q .none H) (h2:¬(0≤v∧v≤1000)→X "NoSum" H) :
  callN defs anc (n+1) "need_sum" [.int v] Q X H:=by
 refine call_of h rfl ?_
 simp only[f_need_sum]
 (simp only[List.map_cons,List.map_nil,List.length_cons,List.length_nil,Nat.reduceAdd,Nat.sub_self,List.replicate,List.cons_append,List.nil_append,sf_ife,app_cons,app_nil,qE_nt,asB_bool,qE_cmp2,qE_glob,qE_var,gZ,v_some,c_le,qE_int,decide_eq_true_eq])
 refine rng_if (fun a b=>?_) fun a=>?_
 ·dsimp only[restW];(simp only[s_nil]);exact h1 ⟨a,b⟩
 ·dsimp only[restW];(simp only[s_raise,true_and]);exact h2 a
theorem i_loB {p:Addr}{r:Row}{i:Nat}{x:Option Int} (h:H p=some (.list (lo r))) (hx:r[i]?=some x) (hl:r.length≤2001) (hq:Q (ov x) H):widx (.ref p) (.int (i:Int)) Q H:=by
 rw[i_list h]
 have hi:i<r.length:=by
  rcases Nat.lt_or_ge i r.length with q | q
  ·exact q
  ·rw[List.getElem?_eq_none q] at hx;cases hx
 exact⟨i,ov x,⟨by exact lb [] [_] (.c (-4611686018427387904)) (.t (.n 0)) [] [1] rfl,by exact lb [] [_,_] (.t (.n 0)) (.c 4611686018427387904) [.L (.n 1) (.c 2001),.B (.n 0) (.n 1)] [1,1,1] rfl hl hi⟩,place_nat (by rw[lo_length];exact hi),lo_get hx,hq⟩
theorem i_lo {p:Addr}{r:Row}{i:Nat}{x:Option Int} (h:H p=some (.list (lo r))) (hx:r[i]?=some x) (hl:r.length≤1001) (hq:Q (ov x) H):widx (.ref p) (.int (i:Int)) Q H:=i_loB h hx (Nat.le_trans hl (Nat.le_of_ble_eq_true rfl)) hq
noncomputable def Keeps (H H':Hp) (ds:List Addr):Prop:=∀a o,a∉ds→H a=some o→H' a=some o
inductive FillI (H:Hp) (F A Wt:Addr) (r f:Row) (s v c:Nat) (as:List Nat) (ρ:Loc) (H':Hp):Prop
 | mk (cur fr:List (Int×Int)) (f':Row) (x7 x8 x9:Option V) (e:ρ=[some (.ref F),some (.ref A),some (.int s),some (.int v),some (.int c),some (.ref Wt),some (.int (fr.length:Nat)),x7,x8,x9]) (e1:H' F=some (.list (lo f'))) (l1:f'.length=r.length) (e2:H' Wt=some (.list (lv (fr++cur)))) (l2:(fr++cur).length≤as.length) (hk:Keeps H H' [F,Wt])
   (w:Win (fun j=>(r[s+j*v]?).getD none) ((as.length:Int)-1-c) as.length cur) (k1:∀t,t<as.length→∃x,f'[s+t*v]?=some x∧IsLeast r v c (s+t*v) x) (k2:∀p,(∀t,t<as.length→p≠s+t*v)→f'[p]?=f[p]?)
inductive FillJ (cur:List (Int×Int)) (lim:Int) (H':Hp) (mk0:List (Int×Int)→Loc) (k:Nat) (ρ:Loc) (H'':Hp):Prop
 | mk (old new:List (Int×Int)) (eH:H''=H') (ec:cur=old++new) (ek:k=new.length) (ho:∀e∈old,e.1<lim) (eρ:ρ=mk0 old)
inductive FillK (H:Hp) (F Wt:Addr) (f':Row) (fr cur:List (Int×Int)) (low:Int) (ρ0:Loc) (k:Nat) (ρ:Loc) (H'':Hp):Prop
 | mk (new suf:List (Int×Int)) (ec:cur=new++suf) (ek:k=new.length) (hsuf:∀e∈suf,low≤e.2) (e1:H'' F=some (.list (lo f'))) (e2:H'' Wt=some (.list (lv (fr++new)))) (hk:Keeps H H'' [F,Wt]) (eρ:ρ=ρ0)
theorem fillB (h5:defs "fill" = some f_fill) {F A:Addr}{r f:Row}{s v c:Nat} (hF:H F=some (.list (lo f))) (hA:H A=some (.list (lo r))) (hne:A≠F) (hlen:f.length=r.length) (hL:r.length≤2001) (hs:s<v) (hv:v≤2000) (hc:c≤1000000000)
  (h0:∀p,p<r.length→p % v=s→f[p]?=some none)
  (hq:∀f' H',f'.length=r.length→(∀p,p<r.length→p % v=s→∃x,f'[p]?=some x∧IsLeast r v c p x)→(∀p,p % v≠s→f'[p]?=f[p]?)→H' F=some (.list (lo f'))→Keeps H H' [F]→Q .none H') :
  callN defs anc (n+1) "fill" [.ref F,.ref A,.int s,.int v,.int c] Q X H:=by
 refine call_of h5 rfl ?_
 simp only[f_fill]
 (simp only[List.map_cons,List.map_nil,List.length_cons,List.length_nil,Nat.reduceAdd,Nat.reduceSub,List.replicate,List.cons_append,List.nil_append,sf_asg,sS,sZ,qE_list,qEs_nil])
 refine⟨Nat.le_of_ble_eq_true rfl,fun Wt hW=>?_⟩
 have nF:F≠Wt:=ne_new hF hW
 have nA:A≠Wt:=ne_new hA hW
 dsimp only[restW]
 (simp only[sf_asg,sS,sZ,qE_int])
 dsimp only[restW]
 refine for_cons ⟨rfl,?_⟩
 (simp only[sr_enum,sr_r3,qE_var,gS,gZ,v_some,qE_bc,qEs_cons,qEs_nil,true_and])
 rw[f_lenL (Ext.new _ hW _ _ hA),lo_length]
 (simp only[r3_i])
 refine⟨⟨by exact lb [] [_] (.c (-4611686018427387904)) (.t (.n 0)) [] [1] rfl,by exact lb [] [_,_] (.t (.n 0)) (.c 4611686018427387904) [.B (.n 0) (.n 1),.L (.n 1) (.c 2000)] [1,1,1] rfl hs hv⟩,⟨by exact lb [] [_] (.c (-4611686018427387904)) (.t (.n 0)) [] [1] rfl,by exact lb [] [_] (.t (.n 0)) (.c 4611686018427387904) [.L (.n 0) (.c 2001)] [1,1] rfl hL⟩,⟨by exact lb [] [_] (.c (-4611686018427387904)) (.t (.n 0)) [] [1] rfl,by exact lb [] [_] (.t (.n 0)) (.c 4611686018427387904) [.L (.n 0) (.c 2000)] [1,1] rfl hv⟩,by exact lf [] [_,_] [.B (.n 0) (.n 1),.e (.t (.n 1)) (.c 0)] [1,1] rfl hs,_,enumL_range _ _ _ _,?_⟩
 let B:=(f_fill.body.drop 2).forBody
 have atp:∀t:Nat,((s:Int)+(t:Int)*(v:Int))=((s+t*v:Nat):Int):=fun t=>by rw[Int.natCast_add,Int.natCast_mul]
 have modp:∀t:Nat,(s+t*v) % v=s:=fun t=>by rw[Nat.add_mul_mod_self_right,Nat.mod_eq_of_lt hs]
 have wfin:∀(M:Nat),M≤2001→∀(t:Nat) (cur fr:List (Int×Int)) (f':Row) (x9:Option V) (H':Hp) (K:Loc→Hp→Prop),t<turns s r.length v→H' F=some (.list (lo f'))→f'.length=r.length→f'[s+t*v]?=some none→H' Wt=some (.list (lv (fr++cur)))→(fr++cur).length≤M→Keeps H H' [F,Wt]→Win (fun j=>(r[s+j*v]?).getD none) ((t:Int)-1-c) (t+1) cur →
   (∀(cur fr:List (Int×Int)) (f'':Row) (H'':Hp),H'' F=some (.list (lo f''))→f''.length=r.length→(∃x,f''[s+t*v]?=some x∧IsLeast r v c (s+t*v) x)→(∀p,p≠s+t*v→f''[p]?=f'[p]?)→H'' Wt=some (.list (lv (fr++cur)))→(fr++cur).length≤M→Keeps H H'' [F,Wt]→Win (fun j=>(r[s+j*v]?).getD none) ((t:Int)-c) (t+1) cur→K [some (.ref F),some (.ref A),some (.int s),some (.int v),some (.int c),some (.ref Wt),some (.int fr.length),some (.int t),some (.int (s+t*v:Nat)),x9] H'') →
   restW ⟨callN defs anc n,anc⟩ false (B.drop 1) K Q (fun c ξ H₁=>X c H₁) [some (.ref F),some (.ref A),some (.int s),some (.int v),some (.int c),some (.ref Wt),some (.int fr.length),some (.int t),some (.int (s+t*v:Nat)),x9] H':=by
  intro M hM t cur fr f' x9 H' K ht e1 l1 e0 e2 l2 hk w hK
  dsimp only[restW]
  show wpSs _ _ (.cons (.whl _ _) _) _ _ _ _ _
  refine whl_cons (I:=FillJ cur ((t:Int)-c) H' fun old=>[some (.ref F),some (.ref A),some (.int s),some (.int v),some (.int c),some (.ref Wt),some (.int ((fr++old).length:Nat)),some (.int t),some (.int (s+t*v:Nat)),x9]) ?_ (n:=cur.length) ⟨[],cur,rfl,rfl,rfl,(fun ξ h=>by cases h),by simp⟩
  rintro k ρ H'' K' ⟨old,new,rfl,rfl,rfl,ho,rfl⟩ hK'
  have e2':H'' Wt=some (.list (lv ((fr++old)++new))):=by rw[e2,List.append_assoc]
  (simp only[qE_bop,qB_more,qB_one,qE_cmp,asB_bool,qE_bin,qE_var,gS,gZ,v_some,b_sub,qE_idx,qE_int,qE_bc,qEs_cons,qEs_nil,true_and])
  rw[f_lenL e2',lv_length]
  (simp only[c_lt,decide_eq_true_eq])
  have fin:(∀e r',new=e :: r'→(t:Int)-c≤e.1)→restW ⟨callN defs anc n,anc⟩ false (B.drop 2) K Q (fun c ξ H₁=>X c H₁) [some (.ref F),some (.ref A),some (.int s),some (.int v),some (.int c),some (.ref Wt),some (.int ((fr++old).length:Nat)),some (.int t),some (.int (s+t*v:Nat)),x9] H'':=by
   intro hh
   have w':=w.drop (L':=(t:Int)-c) (by exact la [] [_,_] (.s (.s (.t (.n 0)) (.c 1)) (.t (.n 1))) (.s (.t (.n 0)) (.t (.n 1))) [] [1] rfl) ho
   have hl:=w'.least hs ((turns_lt (by exact lB [] [_,_] (.c 0) (.n 0) [.B (.n 1) (.n 0)] [1,1] rfl hs)).mp ht) hh
   dsimp only[restW]
   show wpSs _ _ (.cons (.ife _ _ _) _) _ _ _ _ _
   (simp only[sf_ife,app_cons,app_nil,qE_cmp,asB_bool,qE_bc,qEs_cons,qEs_nil,qE_var,gS,gZ,v_some,true_and])
   rw[f_lenL e2',lv_length]
   (simp only[c_lt,decide_eq_true_eq])
   refine ite_all (fun hlt=>?_) fun hlt=>?_
   ·cases new with
    | nil=>simp at hlt
    | cons e r' =>
     dsimp only[restW]
     (simp only[sf_setIt,qE_var,gS,gZ,v_some,qE_bin,qE_idx,qE_int])
     refine i_lv e2' (by exact la [] [_] (.c 0) (.t (.n 0)) [] [1] rfl) hlt (by rw[lim_eq,List.append_assoc];exact lA [] [_,_] (.n 0) (.c 16777216) [.L (.n 1) (.c 2001),.L (.n 0) (.n 1)] [1,1,1] rfl hM l2) fun q hq'=>?_
     have:q=e:=by
      rw[show (((fr++old).length:Nat):Int).toNat=(fr++old).length by exact lQ [] [_,_] (.n 0) (.n 1) [.l (.t (.n 1)) (.t (.n 0)),.e (.t (.n 0)) (.t (.n 1))] [1,0,-1] [1,0,1] rfl (tn0 (a:=(↑(fr++old).length:Int))) (tnE (a:=(↑(fr++old).length:Int)) (la [] [_] (.c 0) (.t (.n 0)) [] [1] rfl)),List.getElem?_append_right (Nat.le_refl _),Nat.sub_self] at hq'
      cases hq';rfl
     subst this
     (simp only[i_pv1,b_add])
     rw[set_L e1]
     have hp:s+t*v<f'.length:=by rw[l1];exact (turns_lt (by exact lB [] [_,_] (.c 0) (.n 0) [.B (.n 1) (.n 0)] [1,1] rfl hs)).mp ht
     refine⟨⟨by exact la [] [_,_] (.c 0) (.t (.a (.n 0) (.n 1))) [] [1] rfl,by rw[lo_length];exact lb [] [_,_,_] (.t (.a (.n 0) (.n 1))) (.t (.n 2)) [.B (.a (.n 0) (.n 1)) (.n 2)] [1,1] rfl hp⟩,?_⟩
     dsimp only[restW]
     (simp only[s_nil])
     rw[show (((s+t*v:Nat):Int)).toNat=s+t*v by exact lQ [] [_,_,_] (.n 0) (.a (.n 1) (.n 2)) [.l (.t (.a (.n 1) (.n 2))) (.t (.n 0)),.e (.t (.n 0)) (.t (.a (.n 1) (.n 2)))] [1,0,-1] [1,0,1] rfl (tn0 (a:=(↑(s+t*v):Int))) (tnE (a:=(↑(s+t*v):Int)) (la [] [_,_] (.c 0) (.t (.a (.n 0) (.n 1))) [] [1] rfl))]
     refine hK (q :: r') (fr++old) (f'.set (s+t*v) (some (q.2+t))) _ ?_ (by rw[List.length_set];exact l1) ⟨_,?_,hl⟩ (fun p hp'=>?_) ?_ (by rw[List.append_assoc];exact l2) (fun a o ha h=>?_) w'
     ·rw[Hp.set_self,←lo_set];rfl
     ·rw[List.getElem?_set_self hp];rfl
     ·rw[List.getElem?_set_ne (Ne.symm hp')]
     ·rw[Hp.set_ne _ (Ne.symm nF)];exact e2'
     ·rw[Hp.set_ne _ (by rintro rfl;exact ha (.head _))];exact hk a o ha h
   ·have:new=[]:=by
     cases new with
     | nil=>rfl
     | cons e r'=>simp at hlt;omega
    subst this
    dsimp only[restW]
    (simp only[s_nil])
    exact hK [] (fr++old) f' _ e1 l1 ⟨_,e0,hl⟩ (fun ξ ξ=>rfl) e2' (by rw[List.append_assoc];exact l2) hk w'
  refine and_if (fun hlt=>?_) fun hlt=>fin fun e r' h=>by subst h;simp at hlt;exact la [_] [_,_,_,_] (.s (.t (.n 0)) (.t (.n 1))) (.v 0) [.l (.a (.t (.n 2)) (.a (.t (.n 3)) (.c 1))) (.t (.n 2))] [0,1] rfl hlt
  cases new with
  | nil=>simp at hlt
  | cons e r' =>
   refine i_lv e2' (by exact la [] [_] (.c 0) (.t (.n 0)) [] [1] rfl) hlt (by rw[lim_eq,List.append_assoc];exact lA [] [_,_] (.n 0) (.c 16777216) [.L (.n 1) (.c 2001),.L (.n 0) (.n 1)] [1,1,1] rfl hM l2) fun q hq'=>?_
   have:q=e:=by
    rw[show (((fr++old).length:Nat):Int).toNat=(fr++old).length by exact lQ [] [_,_] (.n 0) (.n 1) [.l (.t (.n 1)) (.t (.n 0)),.e (.t (.n 0)) (.t (.n 1))] [1,0,-1] [1,0,1] rfl (tn0 (a:=(↑(fr++old).length:Int))) (tnE (a:=(↑(fr++old).length:Int)) (la [] [_] (.c 0) (.t (.n 0)) [] [1] rfl)),List.getElem?_append_right (Nat.le_refl _),Nat.sub_self] at hq'
    cases hq';rfl
   subst this
   (simp only[i_pv0,c_lt,decide_eq_true_eq])
   refine ite_all (fun hold=>?_) fun hold=>fin fun e' r'' h=>by cases h;exact (Int.not_lt.mp hold)
   dsimp only[bodyW]
   (simp only[sf_asg,sS,sZ,qE_bin,qE_int,qE_var,gS,gZ,v_some,b_add])
   dsimp only[restW]
   (simp only[s_nil])
   refine hK' r'.length _ _ (by simp) ⟨old++[q],r',rfl,by simp,rfl,fun e he=>?_,by simp;exact lq [] [_,_] (.a (.a (.t (.n 0)) (.t (.n 1))) (.c 1)) (.a (.t (.n 0)) (.a (.t (.n 1)) (.c 1))) [] [1] [1] rfl⟩
   rcases List.mem_append.mp he with z | z
   ·exact ho e z
   ·simp only[List.mem_cons,List.not_mem_nil,or_false] at z;subst z;exact hold
 refine forGo_map (I:=FillI H F A Wt r f s v c) ?_ ?_ ?_ ⟨[],[],f,_,_,_,rfl,by rw[Hp.set_ne _ nF];exact hF,hlen,Hp.set_self _ _ _,Nat.le_refl _,fun a o ha h=>Ext.new _ hW _ _ h,.nil _ _,(fun t ht=>by cases ht),fun p ξ=>rfl⟩
 ·rintro as ρ H' _;exact okH_nil
 ·rintro ρ H' ⟨cur,fr,f',x7,x8,x9,rfl,e1,l1,e2,l2,hk,w,k1,k2⟩
  rw[List.length_range] at k1 k2
  dsimp only[restW]
  (simp only[s_nil])
  refine hq f' H' l1 (fun p hp hm=>?_) (fun p hm=>k2 p fun t ξ e=>hm (by rw[e,modp])) e1 fun a o ha h=>hk a o (fun z=>?_) h
  ·have:p=s+p / v*v:=by have:=Nat.div_add_mod p v;rw[hm,Nat.mul_comm] at this;exact lQ [] [_,_,_] (.n 0) (.a (.n 1) (.n 2)) [.E (.a (.n 2) (.n 1)) (.n 0)] [1,1] [1,-1] rfl this
   rw[this] at hp ⊢
   exact k1 _ ((turns_lt (by exact lB [] [_,_] (.c 0) (.n 0) [.B (.n 1) (.n 0)] [1,1] rfl hs)).mpr hp)
  ·simp only[List.mem_cons,List.not_mem_nil,or_false] at z ha
   rcases z with z | z
   ·exact ha z
   ·subst z;rw[hW] at h;cases h
 ·rintro as b bs ρ H' K hl ⟨cur,fr,f',x7,x8,x9,rfl,e1,l1,e2,l2,hk,w,k1,k2⟩ hK
  obtain⟨rfl,ht⟩:=range_split hl
  refine⟨_,rfl,?_⟩
  have hp:=(turns_lt (show 0<v by exact lB [] [_,_] (.c 0) (.n 0) [.B (.n 1) (.n 0)] [1,1] rfl hs)).mp ht
  have hN:as.length≤2000:=by
   have:=Nat.mul_le_mul_left as.length (show 1≤v by exact lA [] [_,_] (.c 1) (.n 0) [.B (.n 1) (.n 0)] [1,1] rfl hs)
   exact lA [] [_,_,_,_] (.n 0) (.c 2000) [.L (.n 1) (.c 2001),.B (.a (.n 2) (.n 3)) (.n 1),.L (.p (.n 0) 1) (.n 3)] [1,1,1,1] rfl hL hp this
  have hne':∀t,t<as.length→s+as.length*v≠s+t*v:=fun t h e=>by
   have:=Nat.mul_lt_mul_of_pos_right h (show 0<v by exact lB [] [_,_] (.c 0) (.n 0) [.B (.n 1) (.n 0)] [1,1] rfl hs)
   exact lf [] [_,_,_] [.E (.a (.n 0) (.n 1)) (.a (.n 0) (.n 2)),.B (.n 2) (.n 1)] [1,1] rfl e this
  have e0:f'[s+as.length*v]?=some none:=by rw[k2 _ hne',h0 _ hp (modp _)]
  obtain⟨x,hx⟩:∃x,r[s+as.length*v]?=some x:=⟨_,List.getElem?_eq_getElem hp⟩
  have hA':H' A=some (.list (lo r)):=hk _ _ (by simp [hne,nA]) hA
  have nxt:∀(cur fr:List (Int×Int)) (x9:Option V) (H':Hp),H' F=some (.list (lo f'))→H' Wt=some (.list (lv (fr++cur)))→(fr++cur).length≤as.length+1→Keeps H H' [F,Wt]→Win (fun j=>(r[s+j*v]?).getD none) ((as.length:Int)-1-c) (as.length+1) cur →
    restW ⟨callN defs anc n,anc⟩ false (B.drop 1) K Q (fun c ξ H₁=>X c H₁) [some (.ref F),some (.ref A),some (.int s),some (.int v),some (.int c),some (.ref Wt),some (.int fr.length),some (.int as.length),some (.int (s+as.length*v:Nat)),x9] H':=by
   intro cur fr x9 H' e1 e2 l2 hk w
   refine wfin (as.length+1) (by exact lA [] [_] (.a (.n 0) (.c 1)) (.c 2001) [.L (.n 0) (.c 2000)] [1,1] rfl hN) as.length cur fr f' x9 H' K ht e1 l1 e0 e2 l2 hk w fun cur' fr' f'' H'' g1 g2 g3 g4 g5 g6 g7 g8=>hK _ _ ⟨cur',fr',f'',_,_,_,rfl,g1,g2,g5,?_,g7,?_,fun t h=>?_,fun p h=>?_⟩
   ·simpa using g6
   ·rw[List.length_append]
    have:((as.length + [as.length].length:Nat):Int)-1-c=(as.length:Int)-c:=by simp
    rw[this];exact g8
   ·rw[List.length_append] at h
    by_cases q:t=as.length
    ·subst q;exact g3
    ·obtain⟨x,h1,h2⟩:=k1 t (by simp at h;omega)
     exact⟨x,by rw[g4 _ (fun e=>hne' t (by simp at h;omega) e.symm)];exact h1,h2⟩
   ·rw[List.length_append] at h
    rw[g4 p (h as.length (by simp)),k2 p fun t ht=>h t (by simp;exact lB [] [_,_] (.n 0) (.a (.n 1) (.c 1)) [.B (.n 0) (.n 1)] [1,1] rfl ht)]
  dsimp only[bodyW]
  rw[show (0+(as.length:Int))=as.length by exact lq [] [_] (.a (.c 0) (.t (.n 0))) (.t (.n 0)) [] [1] [1] rfl,atp]
  (simp only[sS,sZ,sf_ife,app_cons,app_nil,qE_cmp,asB_bool,qE_none,qE_idx,qE_var,gS,gZ,v_some])
  refine i_loB hA' hx (by exact hL) ?_
  cases x with
  | none =>
   show wcmp .isNot .none .none _ _
   (simp only[c_isnNN])
   rw[if_neg Bool.false_ne_true]
   exact nxt cur fr x9 H' e1 e2 (by exact lA [] [_,_] (.n 0) (.a (.n 1) (.c 1)) [.L (.n 0) (.n 1)] [1,1] rfl l2) hk (w.skip (by show (r[s+as.length*v]?).getD none=none;rw[hx];rfl))
  | some a =>
   show wcmp .isNot (.int a) .none _ _
   (simp only[c_isnIN])
   rw[if_pos trivial]
   dsimp only[restW]
   (simp only[sf_asg,sS,sZ,qE_bin,qE_var,gS,gZ,v_some,qE_idx])
   refine i_loB hA' hx (by exact hL) ?_
   show wbin .sub (.int a) _ _ _
   (simp only[b_sub])
   dsimp only[restW]
   refine whl_cons (I:=FillK H F Wt f' fr cur (a-(as.length:Int)) [some (.ref F),some (.ref A),some (.int s),some (.int v),some (.int c),some (.ref Wt),some (.int (fr.length:Nat)),some (.int as.length),some (.int (s+as.length*v:Nat)),some (.int (a-as.length))]) ?_ (n:=cur.length) ⟨cur,[],by simp,rfl,(fun ξ h=>by cases h),e1,e2,hk,rfl⟩
   rintro k ρ H'' K' ⟨new,suf,rfl,rfl,hsuf,e1',e2',hk',rfl⟩ hK'
   have l3:(fr++new).length≤as.length:=by rw[←List.append_assoc,List.length_append] at l2;exact lA [] [_,_,_] (.n 0) (.n 1) [.L (.a (.n 0) (.n 2)) (.n 1)] [1,1] rfl l2
   have fin:(∀e∈new,e.2<a-(as.length:Int))→restW ⟨callN defs anc n,anc⟩ false (Sts.app (.cons (.ex (.mt .append (.var 5) (.cons (.tup (.cons (.var 7) (.cons (.var 9) .nil))) .nil))) .nil) (B.drop 1)) K Q (fun c ξ H₁=>X c H₁) [some (.ref F),some (.ref A),some (.int s),some (.int v),some (.int c),some (.ref Wt),some (.int (fr.length:Nat)),some (.int as.length),some (.int (s+as.length*v:Nat)),some (.int (a-as.length))] H'':=by
    intro hall
    dsimp only[restW]
    show wpSs _ _ (.cons (.ex _) _) _ _ _ _ _
    (simp only[app_nil,sf_ex,qE_mt,qEs_cons,qEs_nil,qE_tup,List.length_cons,List.length_nil,Nat.reduceAdd,qE_var,gS,gZ,v_some])
    rw[r_L e2']
    refine⟨⟨by decide,by decide⟩,Nat.le_of_ble_eq_true rfl,?_⟩
    rw[m_append e2']
    refine⟨by rw[lv_length,lim_eq];exact lB [] [_,_] (.n 0) (.c 16777216) [.L (.n 1) (.c 2000),.L (.n 0) (.n 1)] [1,1,1] rfl hN l3,?_⟩
    refine nxt (new++[((as.length:Int),a-as.length)]) fr _ _ (by rw[Hp.set_ne _ nF];exact e1') (by rw[Hp.set_self,←List.append_assoc,lv_append (fr++new)];rfl) (by rw[←List.append_assoc,List.length_append];simp;simp at l3;exact l3) (fun b o hb h=>?_) (w.push (by show (r[s+as.length*v]?).getD none=some a;rw[hx];rfl) hsuf hall)
    rw[Hp.set_ne _ (by rintro rfl;exact hb (.tail _ (.head _)))];exact hk' b o hb h
   (simp only[qE_bop,qB_more,qB_one,qE_cmp,asB_bool,qE_var,gS,gZ,v_some,qE_idx,qE_int,qE_neg,k_int,qE_bc,qEs_cons,qEs_nil,true_and])
   rw[f_lenL e2',lv_length]
   (simp only[c_gt,decide_eq_true_eq])
   refine and_if (fun hlt=>?_) fun hlt=>fin fun e he=>?_
   case _ =>
    have:new≠[]:=by rintro rfl;simp at hlt
    obtain⟨new',e,rfl⟩:∃new' e,new=new'++[e]:=⟨_,_,(List.dropLast_concat_getLast this).symm⟩
    rw[i_list e2']
    refine⟨(fr++new').length,pv e,⟨by decide,by decide⟩,?_,?_,?_⟩
    ·rw[lv_length,place_last (by simp;exact lB [] [_,_] (.c 0) (.a (.n 0) (.a (.n 1) (.c 1))) [] [1] rfl)];simp
    ·rw[←List.append_assoc,lv_append,List.getElem?_append_right (by rw[lv_length];exact Nat.le_refl _),lv_length,Nat.sub_self];rfl
    (simp only[i_pv1,c_ge,decide_eq_true_eq])
    refine ite_all (fun hge=>?_) fun hge=>fin fun q hq'=>?_
    ·dsimp only[bodyW]
     (simp only[sf_ex,qE_mt,qEs_nil,qE_var,gS,gZ,v_some])
     rw[r_L e2']
     refine⟨⟨by decide,by decide⟩,?_⟩
     rw[m_pop (xs:=lv (fr++new')) (x:=pv e) (by rw[e2',←List.append_assoc,lv_append];rfl)]
     dsimp only[restW]
     (simp only[s_nil])
     refine hK' new'.length _ _ (by simp) ⟨new',e :: suf,by simp,rfl,fun q hq'=>?_,by rw[Hp.set_ne _ nF];exact e1',Hp.set_self _ _ _,fun b o hb h=>?_,rfl⟩
     ·rcases List.mem_cons.mp hq' with rfl | z
      ·exact hge
      ·exact hsuf q z
     ·rw[Hp.set_ne _ (by rintro rfl;exact hb (.tail _ (.head _)))];exact hk' b o hb h
    ·rcases List.mem_append.mp hq' with z | z
     ·have hs1:=(List.pairwise_append.mp w.srt).1
      have:=((List.pairwise_append.mp hs1).2.2 q z e (.head _)).2
      exact lb [_,_,_] [_] (.v 0) (.s (.v 1) (.t (.n 0))) [.b (.v 2) (.s (.v 1) (.t (.n 0))),.b (.v 0) (.v 2)] [1,1,1] rfl (Int.not_le.mp hge) this
     ·simp only[List.mem_cons,List.not_mem_nil,or_false] at z;subst z;exact (Int.not_le.mp hge)
   case _ =>
    have:new=[]:=by
     cases new with
     | nil=>rfl
     | cons e r'=>simp at hlt;omega
    subst this;cases he
end
noncomputable def IsRow (r:Row) (v c:Nat) (r':Row):Prop:=r'.length=r.length∧∀p,p<r.length→∃x,r'[p]?=some x∧IsLeast r v c p x
section
variable {defs:String→Option Fn}{anc:String→List String}{n:Nat}{Q:V→Hp→Prop}{X:String→Hp→Prop}{H:Hp}
theorem Keeps.ext {H H':Hp}{F:Addr} (h:Keeps H H' [F]) (hF:H F=none):Ext H H':=fun a o e=>h a o (fun z=>by simp only[List.mem_cons,List.not_mem_nil,or_false] at z;subst z;rw[hF] at e;cases e) e
theorem rangeL_map (n:Nat):rangeL 0 1 n=(List.range n).map fun (k:Nat)=>It.v (.int (k:Int)):=by
 unfold rangeL;apply List.map_congr_left;intro k _;simp
theorem row_withB (h1:defs "fill" = some f_fill) (h5:defs "row_with" = some f_row_with) {A:Addr}{r:Row}{v c:Nat} (hA:H A=some (.list (lo r))) (hL:r.length≤2001) (hv0:1≤v) (hv:v≤2000) (hc:c≤1000000000)
  (hq:∀r' a H',IsRow r v c r'→Ext H H'→H a=none→H' a=some (.list (lo r'))→Q (.ref a) H') :
  callN defs anc (n+2) "row_with" [.ref A,.int v,.int c] Q X H:=by
 refine call_of h5 rfl ?_
 simp only[f_row_with]
 (simp only[List.map_cons,List.map_nil,List.length_cons,List.length_nil,Nat.reduceAdd,Nat.reduceSub,List.replicate,List.cons_append,List.nil_append,sf_asg,sS,sZ,qE_comp,qE_none,sr_ex,qE_var,gZ,v_some,true_and])
 refine src_of hA ?_
 have hit:(lo r).map It.v=r.map fun x=>It.v (ov x):=by simp [lo,Function.comp_def]
 rw[hit]
 refine compGo_all _ (fun ξ=>V.none) (okH_one hA) (by rw[lim_eq];exact lA [] [_] (.n 0) (.c 16777216) [.L (.n 0) (.c 2001)] [1,1] rfl hL) (fun x ξ=>⟨_,rfl,fun K hK=>hK⟩) ⟨by rw[List.length_map,lim_eq];exact lA [] [_] (.n 0) (.c 16777216) [.L (.n 0) (.c 2001)] [1,1] rfl hL,fun F hF=>?_⟩
 have nA:A≠F:=ne_new hA hF
 have e0:r.map (fun ξ=>V.none)=lo (List.replicate r.length none):=by rw[lo,List.map_replicate];simp [ov,List.map_const']
 rw[e0]
 dsimp only[restW]
 refine for_cons ⟨rfl,?_⟩
 (simp only[sr_r1,qE_bc,qEs_cons,qEs_nil,qE_var,gZ,v_some,true_and,gS])
 rw[f_lenL (Ext.new _ hF _ _ hA),lo_length]
 (simp only[f_min,r1_i])
 have eN:(if (r.length:Int)<(v:Int) then (r.length:Int) else (v:Int))=((min v r.length:Nat):Int):=by split <;> omega
 rw[eN]
 refine⟨⟨by exact lb [] [_] (.c (-4611686018427387904)) (.t (.n 0)) [] [1] rfl,by omega⟩,?_⟩
 rw[Int.toNat_natCast,rangeL_map]
 refine forGo_map (I:=fun as ρ H'=>∃f' x4,ρ=[some (.ref A),some (.int v),some (.int c),some (.ref F),x4,none]∧H' F=some (.list (lo f'))∧f'.length=r.length∧Keeps H H' [F]∧(∀p,p<r.length→p % v<as.length→∃x,f'[p]?=some x∧IsLeast r v c p x)∧(∀p,p<r.length→as.length≤p % v→f'[p]?=some none)) ?_ ?_ ?_
  ⟨List.replicate r.length none,_,rfl,Hp.set_self _ _ _,List.length_replicate ..,fun a o ha h=>Ext.new _ hF _ _ h,(fun p ξ h=>by cases h),fun p hp ξ=>by rw[List.getElem?_replicate,if_pos hp]⟩
 ·rintro as ρ H' _;exact okH_nil
 ·rintro ρ H' ⟨f',x4,rfl,e1,l1,hk,k1,k2⟩
  rw[List.length_range] at k1
  dsimp only[restW]
  (simp only[s_ret,qE_var,gS,gZ,v_some])
  refine hq f' F H' ⟨l1,fun p hp=>k1 p hp ?_⟩ (hk.ext hF) hF e1
  have h1:=Nat.mod_lt p (show v > 0 by exact lB [] [_] (.c 0) (.n 0) [.L (.c 1) (.n 0)] [1,1] rfl hv0)
  have h2:=Nat.mod_le p v
  omega
 ·rintro as b bs ρ H' K hl ⟨f',x4,rfl,e1,l1,hk,k1,k2⟩ hK
  obtain⟨rfl,ht⟩:=range_split hl
  refine⟨_,rfl,?_⟩
  dsimp only[bodyW]
  (simp only[sS,sZ,sf_ex,qE_call,qEs_cons,qEs_nil,qE_var,gS,gZ,v_some,true_and])
  refine fillB h1 e1 (hk _ _ (by simp [nA]) hA) nA l1 hL (by omega) hv hc (fun p hp hm=>k2 p hp (by exact lA [] [_,_] (.n 0) (.n 1) [.E (.n 1) (.n 0)] [1,-1] rfl hm)) fun f'' H'' g1 g2 g3 g4 g5=>?_
  dsimp only[restW]
  (simp only[s_nil])
  refine hK _ _ ⟨f'',_,rfl,g4,g1,fun a o ha h=>g5 a o ha (hk a o ha h),fun p hp hm=>?_,fun p hp hm=>?_⟩
  ·rw[List.length_append] at hm
   by_cases q:p % v=as.length
   ·exact g2 p hp q
   ·rw[g3 p q];exact k1 p hp (by simp at hm;omega)
  ·rw[List.length_append] at hm
   simp at hm
   rw[g3 p (by exact lf [] [_,_] [.L (.a (.n 0) (.c 1)) (.n 1),.E (.n 1) (.n 0)] [1,1] rfl hm)];exact k2 p hp (by exact lA [] [_,_] (.n 0) (.n 1) [.L (.a (.n 0) (.c 1)) (.n 1)] [1,1] rfl hm)
theorem row_with_spec (h1:defs "fill" = some f_fill) (h5:defs "row_with" = some f_row_with) {A:Addr}{r:Row}{v c:Nat} (hA:H A=some (.list (lo r))) (hL:r.length≤1001) (hv0:1≤v) (hv:v≤1000) (hc:c≤1000000000)
  (hq:∀r' a H',IsRow r v c r'→Ext H H'→H a=none→H' a=some (.list (lo r'))→Q (.ref a) H') :
  callN defs anc (n+2) "row_with" [.ref A,.int v,.int c] Q X H:=row_withB h1 h5 hA (Nat.le_trans hL (Nat.le_of_ble_eq_true rfl)) hv0 (Nat.le_trans hv (Nat.le_of_ble_eq_true rfl)) hc hq
end
structure Tab (most:Nat) (ps:List (Int×Int)) (tr:List (Addr×Row)):Prop where
 len:tr.length=ps.length+1
 zero:∃a,tr[0]?=some (a,some 0 :: List.replicate most none)
 step:∀i p,ps[i]?=some p→∃a b,tr[i]?=some a∧tr[i+1]?=some b∧IsRow a.2 p.1.toNat p.2.toNat b.2
 rows:∀x∈tr,x.2.length=most+1
noncomputable def InH (H:Hp) (tr:List (Addr×Row)):Prop:=∀x∈tr,H x.1=some (.list (lo x.2))
noncomputable def refs (tr:List (Addr×Row)):List V:=tr.map fun x=>V.ref x.1
section
variable {defs:String→Option Fn}{anc:String→List String}{n:Nat}{Q:V→Hp→Prop}{X:String→Hp→Prop}{H:Hp}
theorem table_spec (h0:defs "need_sum" = some f_need_sum) (h1:defs "fill" = some f_fill) (h2:defs "row_with" = some f_row_with) (h5:defs "table" = some f_table) {p:Addr}{ps:List (Int×Int)}{most:Int} (hp:H p=some (.list (lv ps))) (hl:ps.length≤100)
  (hv:∀q∈ps,1≤q.1∧q.1≤1000) (hc:∀q∈ps,0≤q.2∧q.2≤1000000000) (hX:¬(0≤most∧most≤1000)→X "NoSum" H)
  (hq:(0≤most∧most≤1000)→∀tr a H',Tab most.toNat ps tr→Ext H H'→H a=none→H' a=some (.list (refs tr))→InH H' tr→(∀x∈tr,H x.1=none∧x.1≠a)→(tr.map (·.1)).Nodup→Q (.ref a) H') :
  callN defs anc (n+3) "table" [.ref p,.int most] Q X H:=by
 refine call_of h5 rfl ?_
 simp only[f_table]
 (simp only[List.map_cons,List.map_nil,List.length_cons,List.length_nil,Nat.reduceAdd,Nat.reduceSub,List.replicate,List.cons_append,List.nil_append,sf_ex,qE_call,qEs_cons,qEs_nil,qE_var,gS,gZ,v_some,true_and])
 refine need_sum_spec h0 (fun hm=>?_) hX
 dsimp only[restW]
 (simp only[sf_asg,sS,sZ,qE_list,qEs_cons,qEs_nil,qE_bin,qE_comp,qE_none,sr_r1,qE_var,gS,gZ,v_some,r1_i,true_and,qE_int])
 obtain⟨M,rfl⟩:∃M:Nat,most=M:=⟨most.toNat,by exact lq [_] [_] (.v 0) (.t (.n 0)) [.e (.t (.n 0)) (.v 0),.l (.v 0) (.t (.n 0))] [1,1,0] [1,-1,0] rfl (tnE (a:=most) (hm.1)) (tn0 (a:=most))⟩
 have hM:M≤1000:=by exact lA [] [_] (.n 0) (.c 1000) [.l (.t (.n 0)) (.c 1000)] [1,1] rfl hm.2
 refine⟨Nat.le_of_ble_eq_true rfl,fun a0 ha0=>⟨⟨by exact lb [] [_] (.c (-4611686018427387904)) (.t (.n 0)) [.l (.c 0) (.t (.n 0))] [1,1] rfl hm.1,by exact lb [] [_] (.t (.n 0)) (.c 4611686018427387904) [.l (.t (.n 0)) (.c 1000)] [1,1] rfl hm.2⟩,?_⟩⟩
 rw[Int.toNat_natCast,rangeL_map]
 refine compGo_all _ (fun ξ=>V.none) okH_nil (by rw[List.length_range,lim_eq];exact lA [] [_] (.n 0) (.c 16777216) [.l (.t (.n 0)) (.c 1000)] [1,1] rfl hm.2) (fun x ξ=>⟨_,rfl,fun K hK=>hK⟩) ⟨by rw[List.length_map,List.length_range,lim_eq];exact lA [] [_] (.n 0) (.c 16777216) [.l (.t (.n 0)) (.c 1000)] [1,1] rfl hm.2,fun a1 ha1=>?_⟩
 dsimp only
 rw[b_addL]
 have e0:[V.int 0]++(List.range M).map (fun ξ=>V.none)=lo (some 0 :: List.replicate M none):=by
  rw[lo,List.map_cons,List.map_replicate,List.map_const',List.length_range];rfl
 refine⟨_,_,Ext.new _ ha1 _ _ (Hp.set_self _ _ _),Hp.set_self _ _ _,?_⟩
 rw[e0]
 refine⟨by rw[lo_length,List.length_cons,List.length_replicate,lim_eq];exact lA [] [_] (.a (.n 0) (.c 1)) (.c 16777216) [.l (.t (.n 0)) (.c 1000)] [1,1] rfl hm.2,fun a2 ha2=>⟨Nat.le_of_ble_eq_true rfl,fun R hR=>?_⟩⟩
 have hE1:=(Ext.new (.list [V.int 0]) ha0).trans (.new (.list ((List.range M).map fun ξ=>V.none)) ha1)
 have hE2:=hE1.trans (.new (.list (lo (some 0 :: List.replicate M none))) ha2)
 have hE3:=hE2.trans (.new (.list [V.ref a2]) hR)
 have hR0:=hE2.no hR
 have h20:=hE1.no ha2
 have n2R:a2≠R:=ne_new (Hp.set_self _ a2 _) hR
 have g2:=Ext.new (.list [V.ref a2]) hR _ _ (Hp.set_self _ a2 (.list (lo (some 0 :: List.replicate M none))))
 have gR:=Hp.set_self (((H.set a0 (.list [V.int 0])).set a1 (.list ((List.range M).map fun ξ=>V.none))).set a2 (.list (lo (some 0 :: List.replicate M none)))) R (.list [V.ref a2])
 generalize (((H.set a0 (.list [V.int 0])).set a1 (.list ((List.range M).map fun ξ=>V.none))).set a2 (.list (lo (some 0 :: List.replicate M none)))).set R (.list [V.ref a2])=H₁ at hE3 g2 gR ⊢
 dsimp only[restW]
 refine for_cons ⟨rfl,?_⟩
 (simp only[sr_ex,qE_var,gZ,v_some])
 refine src_of (hE3 _ _ hp) ?_
 rw[lvIt]
 refine forGo_map (I:=fun as ρ H'=>∃tr x3 x4,ρ=[some (.ref p),some (.int M),some (.ref R),x3,x4,none]∧H' R=some (.list (refs tr))∧Tab M as tr∧InH H' tr∧Ext H H'∧(∀x∈tr,H x.1=none∧x.1≠R)∧(tr.map (·.1)).Nodup) ?_ ?_ ?_
  ⟨[(a2,some 0 :: List.replicate M none)],_,_,rfl,gR,⟨rfl,⟨a2,rfl⟩,(fun i q h=>by cases h),fun x hx=>by simp only[List.mem_cons,List.not_mem_nil,or_false] at hx;subst hx;simp⟩,(fun x hx=>by simp only[List.mem_cons,List.not_mem_nil,or_false] at hx;subst hx;exact g2),hE3,(fun x hx=>by simp only[List.mem_cons,List.not_mem_nil,or_false] at hx;subst hx;exact⟨h20,n2R⟩),by simp⟩
 ·rintro as ρ H' ⟨tr,x3,x4,rfl,e1,T,I,hE,hf,hn⟩;exact okH_one (hE _ _ hp)
 ·rintro ρ H' ⟨tr,x3,x4,rfl,e1,T,I,hE,hf,hn⟩
  dsimp only[restW]
  (simp only[s_ret,qE_var,gS,gZ,v_some])
  exact hq hm tr R H' (by rw[Int.toNat_natCast];exact T) hE hR0 e1 I hf hn
 ·rintro as b bs ρ H' K hl' ⟨tr,x3,x4,rfl,e1,T,I,hE,hf,hn⟩ hK
  refine⟨_,rfl,?_⟩
  have hb:b∈ps:=by rw[hl'];simp
  have hlas:as.length≤100:=by rw[hl'] at hl;simp at hl;exact lA [] [_,_] (.n 0) (.c 100) [.L (.a (.n 0) (.a (.n 1) (.c 1))) (.c 100)] [1,1] rfl hl
  dsimp only[bodyW]
  (simp only[sS,sZ,sf_ex,qE_mt,qEs_cons,qEs_nil,qE_call,qE_var,gS,gZ,v_some,qE_idx,qE_neg,qE_int,k_int,true_and])
  rw[r_L e1]
  refine⟨⟨by decide,by decide⟩,?_⟩
  rw[i_list e1]
  have hlt:as.length<tr.length:=by rw[T.len];exact lB [] [_] (.n 0) (.a (.n 0) (.c 1)) [] [1] rfl
  have hlast:tr[as.length]?=some tr[as.length]:=List.getElem?_eq_getElem hlt
  have hmem:tr[as.length]∈tr:=List.getElem_mem _
  refine⟨as.length,.ref tr[as.length].1,⟨by decide,by decide⟩,?_,?_,?_⟩
  ·rw[refs,List.length_map,place_last (by exact lB [] [_,_] (.c 0) (.n 0) [.B (.n 1) (.n 0)] [1,1] rfl hlt),T.len];rfl
  ·rw[refs,List.getElem?_map,hlast];rfl
  skip
  obtain⟨v1,v2⟩:=hv b hb
  obtain⟨c1,c2⟩:=hc b hb
  have ev:b.1=(b.1.toNat:Nat):=by exact lq [_] [_] (.v 0) (.t (.n 0)) [.e (.t (.n 0)) (.v 0),.l (.v 0) (.t (.n 0))] [1,1,0] [1,-1,0] rfl (tnE (a:=b.fst) (la [_] [] (.c 0) (.v 0) [.l (.c 1) (.v 0)] [1,1] rfl v1)) (tn0 (a:=b.fst))
  have ec:b.2=(b.2.toNat:Nat):=by exact lq [_] [_] (.v 0) (.t (.n 0)) [.e (.t (.n 0)) (.v 0),.l (.v 0) (.t (.n 0))] [1,1,0] [1,-1,0] rfl (tnE (a:=b.snd) (c1)) (tn0 (a:=b.snd))
  rw[ev,ec]
  refine row_with_spec h1 h2 (I _ hmem) (by rw[T.rows _ hmem];exact lA [] [_] (.a (.n 0) (.c 1)) (.c 1001) [.l (.t (.n 0)) (.c 1000)] [1,1] rfl hm.2) (by exact lA [_] [_] (.c 1) (.n 0) [.l (.c 1) (.v 0),.e (.v 0) (.t (.n 0))] [1,1,1] rfl v1 ev) (by exact lA [_] [_] (.n 0) (.c 1000) [.l (.v 0) (.c 1000),.e (.v 0) (.t (.n 0))] [1,1,-1] rfl v2 ev) (by exact lA [_] [_] (.n 0) (.c 1000000000) [.l (.v 0) (.c 1000000000),.e (.v 0) (.t (.n 0))] [1,1,-1] rfl c2 ec) fun r' a H'' hr hE' hna hea=>?_
  have e1':=hE' _ _ e1
  rw[m_append e1']
  have naR:a≠R:=by rintro rfl;rw[e1] at hna;cases hna
  refine⟨by rw[refs,List.length_map,T.len,lim_eq];exact lB [] [_] (.a (.n 0) (.c 1)) (.c 16777216) [.L (.n 0) (.c 100)] [1,1] rfl hlas,?_⟩
  dsimp only[restW]
  (simp only[s_nil])
  refine hK _ _ ⟨tr++[(a,r')],_,_,rfl,by rw[Hp.set_self,refs,refs,List.map_append];rfl,⟨by simp [T.len],?_,fun i q hi=>?_,fun x hx=>?_⟩,fun x hx=>?_,.setNew _ (hE.trans hE') hR0,fun x hx=>?_,?_⟩
  ·obtain⟨z,hz⟩:=T.zero
   exact⟨z,by rw[List.getElem?_append_left (by rw[T.len];exact lB [] [_] (.c 0) (.a (.n 0) (.c 1)) [] [1] rfl)];exact hz⟩
  ·by_cases q':i<as.length
   ·rw[List.getElem?_append_left q'] at hi
    obtain⟨x,y,k1,k2,k3⟩:=T.step i q hi
    exact⟨x,y,by rw[List.getElem?_append_left (by rw[T.len];exact lB [] [_,_] (.n 0) (.a (.n 1) (.c 1)) [.B (.n 0) (.n 1)] [1,1] rfl q')];exact k1,by rw[List.getElem?_append_left (by rw[T.len];exact lB [] [_,_] (.a (.n 0) (.c 1)) (.a (.n 1) (.c 1)) [.B (.n 0) (.n 1)] [1,1] rfl q')];exact k2,k3⟩
   ·have:i=as.length:=by
     rcases Nat.lt_or_ge as.length i with z | z
     ·rw[List.getElem?_eq_none (by simp;exact lA [] [_,_] (.a (.n 0) (.c 1)) (.n 1) [.B (.n 0) (.n 1)] [1,1] rfl z)] at hi;cases hi
     ·exact lQ [] [_,_] (.n 0) (.n 1) [.L (.n 1) (.n 0),.L (.n 0) (.n 1)] [1,1,0] [1,0,1] rfl (Nat.not_lt.mp q') z
    subst this
    rw[List.getElem?_append_right (Nat.le_refl _),Nat.sub_self] at hi
    cases hi
    exact⟨_,_,by rw[List.getElem?_append_left hlt];exact hlast,by rw[List.getElem?_append_right (by rw[T.len];exact lA [] [_] (.a (.n 0) (.c 1)) (.a (.n 0) (.c 1)) [] [1] rfl),T.len,Nat.sub_self];rfl,hr⟩
  ·rcases List.mem_append.mp hx with z | z
   ·exact T.rows x z
   ·simp only[List.mem_cons,List.not_mem_nil,or_false] at z;subst z;rw[hr.1,T.rows _ hmem]
  ·rcases List.mem_append.mp hx with z | z
   ·rw[Hp.set_ne _ (hf x z).2];exact hE' _ _ (I x z)
   ·simp only[List.mem_cons,List.not_mem_nil,or_false] at z;subst z;rw[Hp.set_ne _ naR];exact hea
  ·rcases List.mem_append.mp hx with z | z
   ·exact hf x z
   ·simp only[List.mem_cons,List.not_mem_nil,or_false] at z;subst z;exact⟨hE.no hna,naR⟩
  ·rw[List.map_append]
   refine nodup_snoc hn fun z=>?_
   obtain⟨x,hx,ex⟩:=List.mem_map.mp z
   have:=I x hx;rw[ex,hna] at this;cases this
end
theorem veq_ov {H:Hp}{m:Nat} (a b:Option Int):veq (m+1) H (ov a) (ov b)=some (decide (a=b)):=by
 cases a with
 | none=>cases b with
  | none=>rfl
  | some b=>rfl
 | some a=>cases b with
  | none=>rfl
  | some b=>exact congrArg some (decide_eq_decide.mpr (Option.some.injEq a b▸Iff.rfl))
theorem allEq_lo {H:Hp}{m:Nat} (r q:Row):allEq (veq (m+1) H) (lo r) (lo q)=some (decide (r=q)):=allEq_map veq_ov r q
theorem c_neOv {B:Bool→Hp→Prop}{H:Hp}{a b:Option Int}:wcmp .ne (ov a) (ov b) B H=B (!decide (a=b)) H:=c_neOf (veq_ov (m:=7) a b)
theorem veq_lo {H:Hp}{m:Nat}{p q:Addr}{r r':Row} (h1:H p=some (.list (lo r))) (h2:H q=some (.list (lo r'))):veq (m+2) H (.ref p) (.ref q)=some (decide (r=r')):=(veq_refL h1 h2).trans (allEq_lo r r')
theorem c_neLo {B:Bool→Hp→Prop}{H:Hp}{p q:Addr}{r r':Row} (h1:H p=some (.list (lo r))) (h2:H q=some (.list (lo r'))):wcmp .ne (.ref p) (.ref q) B H=B (!decide (r=r')) H:=c_neOf (veq_lo (m:=6) h1 h2)
section
variable {defs:String→Option Fn}{anc:String→List String}{n:Nat}{Q:V→Hp→Prop}{X:String→Hp→Prop}{H:Hp}
theorem row_spec (h1:defs "_law_whole" = some f_law_whole) (h5:defs "_law_row" = some f_law_row) {A:Addr}{r:Row}{k:Int} (hA:H A=some (.list (lo r))) (hk:k=r.length) (hq:Q (.bool true) H) :
  callN defs anc (n+2) "_law_row" [.ref A,.int k] Q X H:=by
 refine call_of h5 rfl ?_
 simp only[f_law_row]
 (simp only[List.map_cons,List.map_nil,List.length_cons,List.length_nil,Nat.reduceAdd,Nat.reduceSub,List.replicate,List.cons_append,List.nil_append,sf_ife,app_cons,app_nil,qE_bop,qB_more,qB_one,qE_cmp,asB_bool,qE_var,gS,gZ,v_some,qE_bc,qEs_cons,qEs_nil,true_and,qE_nt,qE_isi])
 refine⟨true,isi_list hA,?_⟩
 rw[f_lenL hA,lo_length]
 (simp only[c_neI])
 subst hk
 simp only[Bool.not_true,if_true,decide_true]
 rw[if_neg Bool.false_ne_true]
 dsimp only[restW]
 refine for_cons ⟨rfl,?_⟩
 (simp only[sr_ex,qE_var,gZ,v_some])
 refine src_of hA ?_
 have hit:(lo r).map It.v=r.map fun x=>It.v (ov x):=by simp [lo,Function.comp_def]
 rw[hit]
 refine forGo_map (I:=fun as ρ H'=>H'=H∧∃x2,ρ=[some (.ref A),some (.int (r.length:Nat)),x2]) ?_ ?_ ?_ ⟨rfl,_,rfl⟩
 ·rintro as ρ H' ⟨rfl,_⟩;exact okH_one hA
 ·rintro ρ H' ⟨rfl,x2,rfl⟩
  dsimp only[restW]
  (simp only[s_ret,qE_bool])
  exact hq
 ·rintro as b bs ρ H' K hl ⟨rfl,x2,rfl⟩ hK
  refine⟨_,rfl,?_⟩
  dsimp only[bodyW]
  (simp only[sS,sZ,sf_ife,app_cons,app_nil,qE_bop,qB_more,qB_one,qE_nt,asB_bool,qE_call,qEs_cons,qEs_nil,qE_var,gS,gZ,v_some,true_and,qE_cmp,qE_none])
  cases b with
  | none =>
   simp only[ov]
   (simp only[c_isnNN])
   rw[if_neg Bool.false_ne_true,if_neg Bool.false_ne_true]
   dsimp only[restW]
   (simp only[s_nil])
   exact hK _ _ ⟨rfl,_,rfl⟩
  | some i =>
   simp only[ov]
   (simp only[c_isnIN])
   simp only[if_true]
   refine whole_spec h1 ?_
   (simp only[asB_bool])
   rw[if_neg (by simp)]
   dsimp only[restW]
   (simp only[s_nil])
   exact hK _ _ ⟨rfl,_,rfl⟩
end
theorem refs_get {tr:List (Addr×Row)}{i:Nat}{x:Addr×Row} (h:tr[i]?=some x):(refs tr)[i]?=some (.ref x.1):=by rw[refs,List.getElem?_map,h];rfl
theorem refs_length (tr:List (Addr×Row)):(refs tr).length=tr.length:=List.length_map ..
section
variable {defs:String→Option Fn}{anc:String→List String}{n:Nat}{Q:V→Hp→Prop}{X:String→Hp→Prop}{H:Hp}
theorem i_refs {p:Addr}{tr:List (Addr×Row)}{i:Nat}{x:Addr×Row} (h:H p=some (.list (refs tr))) (hx:tr[i]?=some x) (hl:tr.length≤1001) (hq:Q (.ref x.1) H):widx (.ref p) (.int (i:Int)) Q H:=by
 rw[i_list h]
 have hi:i<tr.length:=by
  rcases Nat.lt_or_ge i tr.length with q | q
  ·exact q
  ·rw[List.getElem?_eq_none q] at hx;cases hx
 exact⟨i,_,⟨by exact lb [] [_] (.c (-4611686018427387904)) (.t (.n 0)) [] [1] rfl,by exact lb [] [_,_] (.t (.n 0)) (.c 4611686018427387904) [.L (.n 1) (.c 1001),.B (.n 0) (.n 1)] [1,1,1] rfl hl hi⟩,place_nat (by rw[refs_length];exact hi),refs_get hx,hq⟩
end
structure Def4 (defs:String→Option Fn):Prop where
 h0:defs "need_sum" = some f_need_sum
 h1:defs "fill" = some f_fill
 h2:defs "row_with" = some f_row_with
 h3:defs "table" = some f_table
theorem intsOf_map {α:Type} (g:α→Int):∀l:List α,intsOf (l.map fun q=>V.int (g q))=some (l.map g)
 | []=>rfl
 | a :: l=>by rw[List.map_cons,intsOf,intsOf_map g l];rfl
section
variable {defs:String→Option Fn}{n:Nat}{Q:V→Hp→Prop}{X:String→Hp→Prop}{H:Hp}
end
theorem Tab.one {M:Nat}{ps:List (Int×Int)}{tr tk:List (Addr×Row)} (a:Tab M ps tr) (b:Tab M ps tk):tr.map (·.2)=tk.map (·.2):=by
 have key:∀(i:Nat) (x y:Addr×Row),tr[i]?=some x→tk[i]?=some y→x.2=y.2:=by
  intro i
  induction i with
  | zero=>intro x y hx hy;obtain⟨z,hz⟩:=a.zero;obtain⟨z',hz'⟩:=b.zero;rw[hx] at hz;rw[hy] at hz';cases hz;cases hz';rfl
  | succ i ih =>
   intro x y hx hy
   have hi:i<ps.length:=by
    rcases Nat.lt_or_ge i ps.length with q | q
    ·exact q
    ·rw[List.getElem?_eq_none (by rw[a.len];exact lA [] [_,_] (.a (.n 0) (.c 1)) (.a (.n 1) (.c 1)) [.L (.n 0) (.n 1)] [1,1] rfl q)] at hx;cases hx
   obtain⟨p,p',k1,k2,k3⟩:=a.step i _ (List.getElem?_eq_getElem hi)
   obtain⟨q,q',l1,l2,l3⟩:=b.step i _ (List.getElem?_eq_getElem hi)
   rw[hx] at k2;cases k2
   rw[hy] at l2;cases l2
   have e:=ih p q k1 l1
   rw[e] at k3
   refine List.ext_getElem? fun j=>?_
   rcases Nat.lt_or_ge j q.2.length with hj | hj
   ·obtain⟨u,u1,u2⟩:=k3.2 j hj
    obtain⟨w,w1,w2⟩:=l3.2 j hj
    rw[u1,w1,u2.one w2]
   ·rw[List.getElem?_eq_none (by rw[k3.1];exact hj),List.getElem?_eq_none (by rw[l3.1];exact hj)]
 refine List.ext_getElem? fun i=>?_
 rw[List.getElem?_map,List.getElem?_map]
 rcases Nat.lt_or_ge i tr.length with hi | hi
 ·have hi':i<tk.length:=by rw[b.len,←a.len];exact hi
  rw[List.getElem?_eq_getElem hi,List.getElem?_eq_getElem hi',Option.map_some,Option.map_some,key i _ _ (List.getElem?_eq_getElem hi) (List.getElem?_eq_getElem hi')]
 ·rw[List.getElem?_eq_none hi,List.getElem?_eq_none (by rw[b.len,←a.len];exact hi)]
end Mine
end

section
namespace Mine
noncomputable def f_most_of:Fn:=⟨5,6,["ahead", "least", "due", "value", "count", "many"],
 (.cons (.asg 5 (.bc .min2 (.cons (.var 4) (.cons (.bin .fdiv (.var 2) (.var 3)) .nil))))
 (.cons (.whl (.bop false (.cons (.cmp .is (.idx (.var 0) (.bin .sub (.var 2) (.bin .mul (.var 5) (.var 3)))) .none) (.cons (.cmp .ne (.bin .add (.idx (.var 0) (.bin .sub (.var 2) (.bin .mul (.var 5) (.var 3)))) (.var 5)) (.var 1)) .nil))) (.cons (.asg 5 (.bin .sub (.var 5) (.int 1)))
  .nil))
 (.cons (.ret (.var 5))
 .nil)))⟩
noncomputable def f_fewest:Fn:=⟨2,9,["till", "due", "rows", "found", "left", "k", "value", "count", "many"],
 (.cons (.asg 2 (.call "table" (.cons (.var 0) (.cons (.var 1) .nil))))
 (.cons (.ife (.cmp .is (.idx (.idx (.var 2) (.neg (.int 1))) (.var 1)) .none) (.cons (.raise "NoChange" "no pieces make the sum")
  .nil) .nil)
 (.cons (.asg 3 (.list .nil))
 (.cons (.asg 4 (.var 1))
 (.cons (.for (.one 5) (.range3 (.bin .sub (.bc .len (.cons (.var 0) .nil)) (.int 1)) (.neg (.int 1)) (.neg (.int 1))) (.cons (.asg2 6 7 (.idx (.var 0) (.var 5)))
  (.cons (.asg 8 (.call "most_of" (.cons (.idx (.var 2) (.var 5)) (.cons (.idx (.idx (.var 2) (.bin .add (.var 5) (.int 1))) (.var 4)) (.cons (.var 4) (.cons (.var 6) (.cons (.var 7) .nil)))))))
  (.cons (.ife (.cmp .gt (.var 8) (.int 0)) (.cons (.ex (.mt .append (.var 3) (.cons (.tup (.cons (.var 6) (.cons (.var 8) .nil))) .nil)))
   .nil) .nil)
  (.cons (.asg 4 (.bin .sub (.var 4) (.bin .mul (.var 8) (.var 6))))
  .nil)))))
 (.cons (.ret (.rev (.var 3)))
 .nil))))))⟩
end Mine
end

section
namespace Mine
open PySem (Str Addr)
structure IsMost (r:Row) (v c p:Nat) (x:Int) (m:Nat):Prop where
 hc:m≤c
 hp:m*v≤p
 at_:r[p-m*v]?=some (some (x-m))
 top:∀m',m<m'→m'≤c→m'*v≤p→r[p-m'*v]?≠some (some (x-m'))
theorem IsMost.one {r:Row}{v c p:Nat}{x:Int}{m k:Nat} (a:IsMost r v c p x m) (b:IsMost r v c p x k):m=k:=by
 rcases Nat.lt_trichotomy m k with h | h | h
 ·exact absurd b.at_ (a.top k h b.hc b.hp)
 ·exact h
 ·exact absurd a.at_ (b.top m h a.hc a.hp)
noncomputable def rowAt (rs:List Row) (k:Nat):Row:=(rs[k]?).getD []
abbrev PL:=List (Int×Int)
noncomputable def addP (l:PL) (v:Int) (m:Nat):PL:=if 0<m then l++[(v,(m:Int))] else l
inductive PickS (rs:List Row) (ps:PL) (k:Nat) (R:Nat→Int→PL→Prop) (p:Nat) (x:Int) (l:PL):Prop
 | mk (m:Nat) (q:Int×Int) (l':PL) (hq:ps[k]?=some q) (hx:(rowAt rs (k+1))[p]?=some (some x)) (hm:IsMost (rowAt rs k) q.1.toNat q.2.toNat p x m) (r:R (p-m*q.1.toNat) (x-m) l') (e:l=addP l' q.1 m)
noncomputable def Picks (rs:List Row) (ps:PL) (k:Nat):Nat→Int→PL→Prop:=Nat.rec (motive:=fun ξ=>Nat→Int→PL→Prop) (fun p x l=>p=0∧x=0∧l=[]) (fun k R=>PickS rs ps k R) k
theorem Picks.one {rs:List Row}{ps:PL}{k:Nat}:∀ {p:Nat}{x:Int}{l l':PL},Picks rs ps k p x l→Picks rs ps k p x l'→l=l':=by
 induction k with
 | zero=>intro p x l l' a b;rw[a.2.2,b.2.2]
 | succ k ih =>
  intro p x l l' a b
  obtain⟨m,q,l1,hq,hx,hm,r,rfl⟩:=a
  obtain⟨m',q',l2,hq',hx',hm',r',rfl⟩:=b
  cases hq.symm.trans hq'
  cases hm.one hm'
  rw[ih r r']
noncomputable def worthL (l:PL):Int:=(l.map fun e=>e.1*e.2).sum
noncomputable def manyL (l:PL):Int:=(l.map (·.2)).sum
structure Chg (l ps:PL):Prop where
 mem:∀e∈l,1≤e.2∧∃q∈ps,q.1=e.1∧e.2≤q.2
 srt:l.Pairwise fun a b=>a.1<b.1
theorem srt_lt {ps:PL} (hs:SrtP ps) (hn:(ps.map (·.1)).Nodup):ps.Pairwise fun a b=>a.1<b.1:=by
 have hs:(ps.map (·.1)).Pairwise (·≤·):=hs
 rw[List.nodup_iff_pairwise_ne] at hn
 rw[List.pairwise_map] at hs hn
 refine (hs.and hn).imp fun h=>?_
 exact Int.lt_iff_le_and_ne.mpr h
theorem Picks.chg {rs:List Row}{ps:PL} (hs:ps.Pairwise fun a b=>a.1<b.1) (hv:∀q∈ps,1≤q.1∧q.1≤1000) (hc:∀q∈ps,0≤q.2∧q.2≤1000000000) {k:Nat}:∀ {p:Nat}{x:Int}{l:PL},Picks rs ps k p x l→Chg l (ps.take k)∧worthL l=p∧manyL l=x:=by
 induction k with
 | zero=>intro p x l a;obtain⟨rfl,rfl,rfl⟩:=a;exact⟨⟨nofun,.nil⟩,rfl,rfl⟩
 | succ k ih =>
  intro p x l a
  obtain⟨m,q,l',hq,hx,hm,r,rfl⟩:=a
  obtain⟨⟨i1,i2⟩,i3,i4⟩:=ih r
  have et:ps.take (k+1)=ps.take k++[q]:=by rw[List.take_add_one,hq];rfl
  have hmc:=hm.hc
  have hmp:=hm.hp
  by_cases h0:0<m
  ·rw[addP,if_pos h0]
   have hqm:q∈ps:=List.mem_of_getElem? hq
   obtain⟨v1,v2⟩:=hv q hqm
   obtain⟨c1,c2⟩:=hc q hqm
   have ev:((q.1.toNat:Nat):Int)=q.1:=by exact lq [_] [_] (.t (.n 0)) (.v 0) [.l (.v 0) (.t (.n 0)),.e (.t (.n 0)) (.v 0)] [1,0,-1] [1,0,1] rfl (tn0 (a:=q.fst)) (tnE (a:=q.fst) (la [_] [] (.c 0) (.v 0) [.l (.c 1) (.v 0)] [1,1] rfl v1))
   have ec:((q.2.toNat:Nat):Int)=q.2:=by exact lq [_] [_] (.t (.n 0)) (.v 0) [.l (.v 0) (.t (.n 0)),.e (.t (.n 0)) (.v 0)] [1,0,-1] [1,0,1] rfl (tn0 (a:=q.snd)) (tnE (a:=q.snd) (c1))
   refine⟨⟨fun e he=>?_,?_⟩,?_,?_⟩
   ·rw[et]
    rcases List.mem_append.mp he with z | z
    ·obtain⟨h1,y,hy,h2⟩:=i1 e z
     exact⟨h1,y,List.mem_append.mpr (.inl hy),h2⟩
    ·rw[List.mem_singleton] at z;subst z
     exact⟨by show (1:Int)≤m;exact la [] [_] (.c 1) (.t (.n 0)) [.B (.c 0) (.n 0)] [1,1] rfl h0,q,List.mem_append.mpr (.inr (.head _)),rfl,by show (m:Int)≤q.2;exact la [_] [_,_] (.t (.n 0)) (.v 0) [.L (.n 0) (.n 1),.e (.t (.n 1)) (.v 0)] [1,1,1] rfl hmc ec⟩
   ·rw[List.pairwise_append]
    refine⟨i2,List.pairwise_singleton ..,fun e he e' he'=>?_⟩
    rw[List.mem_singleton] at he';subst he'
    obtain⟨_,y,hy,h2,_⟩:=i1 e he
    have:=List.pairwise_append.mp (et▸(hs.sublist (List.take_sublist (k+1) ps)))
    rw[←h2]
    exact this.2.2 y hy q (.head _)
   ·rw[worthL,List.map_append,List.sum_append]
    show worthL l'+([q.1*(m:Int)]).sum=p
    rw[i3,List.sum_cons,List.sum_nil,Int.add_zero,Int.natCast_sub hmp,Int.natCast_mul,ev,Int.mul_comm]
    exact Int.sub_add_cancel _ _
   ·rw[manyL,List.map_append,List.sum_append]
    show manyL l'+([(m:Int)]).sum=x
    rw[i4,List.sum_cons,List.sum_nil,Int.add_zero]
    exact Int.sub_add_cancel _ _
  ·have e:m=0:=by exact lQ [] [_] (.n 0) (.c 0) [.L (.n 0) (.c 0)] [1,0] [1,1] rfl (Nat.not_lt.mp h0)
   subst e
   rw[Nat.zero_mul,Nat.sub_zero] at i3
   refine⟨⟨fun e he=>?_,i2⟩,i3,i4.trans (Int.sub_zero x)⟩
   obtain⟨h1,z,hz,h2⟩:=i1 e he
   exact⟨h1,z,by rw[et];exact List.mem_append.mpr (.inl hz),h2⟩
theorem Tab.row {M:Nat}{ps:PL}{tr:List (Addr×Row)} (T:Tab M ps tr) {k:Nat} (hk:k<tr.length):rowAt (tr.map (·.2)) k=tr[k].2:=by
 rw[rowAt,List.getElem?_map,List.getElem?_eq_getElem hk];rfl
theorem Tab.start {M:Nat}{ps:PL}{tr:List (Addr×Row)} (T:Tab M ps tr) {p:Nat}{x:Int} (h:(rowAt (tr.map (·.2)) 0)[p]?=some (some x)):p=0∧x=0:=by
 obtain⟨a,hz⟩:=T.zero
 have e:rowAt (tr.map (·.2)) 0=some 0 :: List.replicate M none:=by rw[rowAt,List.getElem?_map,hz];rfl
 rw[e] at h
 cases p with
 | zero=>exact⟨rfl,(Option.some.inj (Option.some.inj h)).symm⟩
 | succ p =>
  rw[gS,List.getElem?_replicate] at h
  split at h
  ·cases h
  ·cases h
theorem min_nat {c p v:Nat}:(if (p:Int) / (v:Int)<(c:Int) then (p:Int) / (v:Int) else (c:Int))=((min c (p / v):Nat):Int):=by
 rw[←Int.natCast_ediv]
 by_cases h:p / v<c
 ·rw[if_pos (Int.ofNat_lt.mpr h),Nat.min_eq_right (Nat.le_of_lt h)]
 ·rw[if_neg (fun q=>h (Int.ofNat_lt.mp q)),Nat.min_eq_left (Nat.not_lt.mp h)]
theorem sub_nat {p m v:Nat} (h:m*v≤p):(p:Int)-(m:Int)*(v:Int)=((p-m*v:Nat):Int):=by rw[Int.natCast_sub h,Int.natCast_mul]
structure Above (r:Row) (v c p:Nat) (x:Int) (m:Nat):Prop where
 hc:m≤c
 hp:m*v≤p
 top:∀m',m<m'→m'≤c→m'*v≤p→r[p-m'*v]?≠some (some (x-m'))
theorem Above.first {r:Row}{v c p:Nat}{x:Int} (hv:0<v):Above r v c p x (min c (p / v)) where
 hc:=Nat.min_le_left ..
 hp:=(Nat.le_div_iff_mul_le hv).mp (Nat.min_le_right ..)
 top:=fun m' h1 h2 h3=>absurd (Nat.le_min.mpr ⟨h2,(Nat.le_div_iff_mul_le hv).mpr h3⟩) (Nat.not_le.mpr h1)
theorem Above.most {r:Row}{v c p:Nat}{x:Int}{m:Nat} (a:Above r v c p x m) (h:r[p-m*v]?=some (some (x-m))):IsMost r v c p x m:=⟨a.hc,a.hp,h,a.top⟩
theorem Above.next {r:Row}{v c p:Nat}{x:Int}{m:Nat} (a:Above r v c p x m) (l:IsLeast r v c p (some x)) (h:r[p-m*v]?≠some (some (x-m))):∃k,m=k+1∧Above r v c p x k:=by
 obtain⟨⟨m0,h1,h2,h3⟩,_⟩:=l
 have hlt:m0<m:=by
  rcases Nat.lt_trichotomy m0 m with q | q | q
  ·exact q
  ·subst q;exact absurd h3 h
  ·exact absurd h3 (a.top m0 q h1 h2)
 cases m with
 | zero=>cases hlt
 | succ k =>
  refine⟨k,rfl,⟨Nat.le_of_succ_le a.hc,Nat.le_trans (Nat.mul_le_mul_right v (Nat.le_succ k)) a.hp,fun m' g1 g2 g3=>?_⟩⟩
  rcases Nat.lt_or_ge (k+1) m' with q | q
  ·exact a.top m' q g2 g3
  ·cases Nat.le_antisymm q g1;exact h
theorem Above.cell {r:Row}{v c p:Nat}{x:Int}{m:Nat} (a:Above r v c p x m) (hp:p<r.length):∃z,r[p-m*v]?=some z:=⟨_,List.getElem?_eq_getElem (Nat.lt_of_le_of_lt (Nat.sub_le ..) hp)⟩
section
variable {defs:String→Option Fn}{anc:String→List String}{n:Nat}{Q:V→Hp→Prop}{X:String→Hp→Prop}{H:Hp}
theorem most_of_spec (h5:defs "most_of" = some f_most_of) {A:Addr}{r:Row}{p v c:Nat}{x:Int} (hA:H A=some (.list (lo r))) (hL:r.length≤1001) (hp:p<r.length) (hv0:1≤v) (hv:v≤1000) (l:IsLeast r v c p (some x))
  (hq:∀m:Nat,IsMost r v c p x m→Q (.int m) H) :
  callN defs anc (n+1) "most_of" [.ref A,.int x,.int p,.int v,.int c] Q X H:=by
 refine call_of h5 rfl ?_
 simp only[f_most_of]
 (simp only[List.map_cons,List.map_nil,List.length_cons,List.length_nil,Nat.reduceAdd,Nat.reduceSub,List.replicate,List.cons_append,List.nil_append,sf_asg,sS,sZ,qE_bc,qEs_cons,qEs_nil,qE_bin,qE_var,gS,gZ,v_some,b_fdiv,f_min,true_and])
 refine⟨⟨by exact lb [] [_] (.c 0) (.t (.n 0)) [.L (.c 1) (.n 0)] [1,1] rfl hv0,by exact lb [] [_] (.t (.n 0)) (.c 1073741824) [.L (.n 0) (.c 1000)] [1,1] rfl hv⟩,?_⟩
 rw[min_nat]
 dsimp only[restW]
 refine whl_cons (I:=fun k ρ H'=>H'=H∧ρ=[some (.ref A),some (.int x),some (.int p),some (.int v),some (.int c),some (.int (k:Int))]∧Above r v c p x k) ?_ (n:=min c (p / v)) ⟨rfl,rfl,.first hv0⟩
 rintro k ρ H' K ⟨rfl,rfl,a⟩ hK
 obtain⟨z,hz⟩:=a.cell hp
 have sm:Sm (k:Int)∨Sm (v:Int):=.inr ⟨by exact lb [] [_] (.c (-18446744073709551616)) (.t (.n 0)) [.L (.c 1) (.n 0)] [1,1] rfl hv0,by exact lb [] [_] (.t (.n 0)) (.c 18446744073709551616) [.L (.n 0) (.c 1000)] [1,1] rfl hv⟩
 have go:r[p-k*v]?≠some (some (x-k))→bodyW ⟨callN defs anc n,anc⟩ false (.cons (.asg 5 (.bin .sub (.var 5) (.int 1))) .nil) Q (fun c ξ H₁=>X c H₁) [some (.ref A),some (.int x),some (.int p),some (.int v),some (.int c),some (.int (k:Int))] K H':=fun hne=>by
  obtain⟨j,rfl,a'⟩:=a.next l hne
  dsimp only[bodyW]
  (simp only[sf_asg,sS,sZ,qE_bin,qE_int,qE_var,gS,gZ,v_some,b_sub])
  dsimp only[restW]
  (simp only[s_nil])
  refine hK j _ _ (Nat.lt_succ_self j) ⟨rfl,?_,a'⟩
  rw[Int.natCast_add,Int.natCast_one,Int.add_sub_cancel]
 (simp only[qE_bop,qB_more,qB_one,qE_cmp,asB_bool,qE_var,gS,gZ,v_some,qE_bin,qE_idx,b_mul,b_sub,qE_none])
 refine⟨sm,?_⟩
 rw[sub_nat a.hp]
 refine i_lo hA hz hL ?_
 cases z with
 | none =>
  simp only[ov]
  (simp only[c_isNN])
  exact go (by rw[hz];exact nofun)
 | some b =>
  simp only[ov]
  (simp only[c_isIN])
  refine iteP trivial ⟨sm,i_lo hA hz hL ?_⟩
  simp only[ov]
  (simp only[b_add,c_neI])
  by_cases e:b+k=x
  ·rw[e,decide_eq_true rfl]
   refine iteF ?_
   dsimp only[restW]
   (simp only[s_ret,qE_var,gS,gZ,v_some])
   exact hq k (a.most (by rw[hz,←e,Int.add_sub_cancel]))
  ·rw[decide_eq_false e]
   refine iteT ?_
   exact go (by rw[hz];intro q;cases q;exact e (Int.sub_add_cancel x k))
theorem Tab.step_at {M:Nat}{ps:PL}{tr:List (Addr×Row)} (T:Tab M ps tr) {k:Nat}{q:Int×Int} (hq:ps[k]?=some q):∃a b,tr[k]?=some a∧tr[k+1]?=some b∧rowAt (tr.map (·.2)) k=a.2∧rowAt (tr.map (·.2)) (k+1)=b.2∧IsRow a.2 q.1.toNat q.2.toNat b.2∧a.2.length=M+1∧b.2.length=M+1:=by
 obtain⟨a,b,h1,h2,h3⟩:=T.step k q hq
 refine⟨a,b,h1,h2,?_,?_,h3,T.rows a (List.mem_of_getElem? h1),T.rows b (List.mem_of_getElem? h2)⟩
 ·rw[rowAt,List.getElem?_map,h1];rfl
 ·rw[rowAt,List.getElem?_map,h2];rfl
structure Back (rs:List Row) (ps:PL) (N:Nat) (due:Nat) (X:Int) (k p:Nat) (x:Int) (acc:PL):Prop where
 le:k≤N
 cell:(rowAt rs k)[p]?=some (some x)
 all:∀l,Picks rs ps k p x l→Picks rs ps N due X (l++acc.reverse)
theorem Back.step {rs:List Row}{ps:PL}{N due:Nat}{X:Int}{k p m:Nat}{x:Int}{acc:PL}{q:Int×Int} (B:Back rs ps N due X (k+1) p x acc) (hq:ps[k]?=some q) (hm:IsMost (rowAt rs k) q.1.toNat q.2.toNat p x m) :
  Back rs ps N due X k (p-m*q.1.toNat) (x-m) (addP acc q.1 m) where
 le:=Nat.le_of_succ_le B.le
 cell:=hm.at_
 all:=fun l r=>by
  have:=B.all _ ⟨m,q,l,hq,B.cell,hm,r,rfl⟩
  by_cases h:0<m
  ·rw[addP,if_pos h] at this ⊢
   rw[List.reverse_append,List.reverse_singleton,←List.append_assoc]
   exact this
  ·rw[addP,if_neg h] at this ⊢
   exact this
theorem Back.done {M:Nat}{ps:PL}{tr:List (Addr×Row)} (T:Tab M ps tr) {N due:Nat}{X:Int}{p:Nat}{x:Int}{acc:PL} (B:Back (tr.map (·.2)) ps N due X 0 p x acc):Picks (tr.map (·.2)) ps N due X acc.reverse:=by
 obtain⟨rfl,rfl⟩:=T.start B.cell
 exact B.all [] ⟨rfl,rfl,rfl⟩
end
theorem lt_of_get {α:Type}{l:List α}{k:Nat}{x:α} (h:l[k]?=some x):k<l.length:=by
 rcases Nat.lt_or_ge k l.length with q | q
 ·exact q
 ·rw[List.getElem?_eq_none q] at h;cases h
theorem get_of_lt {α:Type}{l:List α}{k:Nat} (h:k<l.length):∃x,l[k]?=some x:=⟨_,List.getElem?_eq_getElem h⟩
theorem lv_reverse (l:PL):(lv l).reverse=lv l.reverse:=(List.map_reverse ..).symm
theorem turns_down (n:Nat):turns ((n:Int)-1) (-1) (-1)=n:=by
 rw[turns,if_neg (by decide)]
 show (((n:Int)-1 - -1 - -1-1) / 1).toNat=n
 rw[Int.ediv_one];exact lQ [] [_,_] (.n 0) (.n 1) [.l (.s (.s (.s (.s (.t (.n 1)) (.c 1)) (.c (-1))) (.c (-1))) (.c 1)) (.t (.n 0)),.e (.t (.n 0)) (.s (.s (.s (.s (.t (.n 1)) (.c 1)) (.c (-1))) (.c (-1))) (.c 1))] [1,0,-1] [1,0,1] rfl (tn0 (a:=(↑n:Int)-1 - -1 - -1-1)) (tnE (a:=(↑n:Int)-1 - -1 - -1-1) (la [] [_] (.c 0) (.s (.s (.s (.s (.t (.n 0)) (.c 1)) (.c (-1))) (.c (-1))) (.c 1)) [] [1] rfl))
theorem down_at {n b:Nat} (h:b<n):(n:Int)-1+(b:Int) * -1=((n-1-b:Nat):Int):=by exact lq [] [_,_,_,_] (.a (.s (.t (.n 0)) (.c 1)) (.p (.t (.n 1)) (-1))) (.t (.n 2)) [.E (.a (.n 2) (.n 1)) (.n 3),.E (.a (.n 3) (.c 1)) (.n 0),.L (.n 3) (.a (.n 2) (.n 1)),.L (.n 0) (.a (.n 3) (.c 1))] [1,1,1,0,0] [1,-1,-1,0,0] rfl (nsE (a:=n-1) (b:=b) (lA [] [_,_,_] (.n 0) (.n 1) [.B (.n 0) (.n 2),.L (.n 2) (.a (.n 1) (.c 1))] [1,1,1] rfl h (ns1 (a:=n) (b:=1)))) (nsE (a:=n) (b:=1) (lA [] [_,_] (.c 1) (.n 0) [.B (.n 1) (.n 0)] [1,1] rfl h)) (ns1 (a:=n-1) (b:=b)) (ns1 (a:=n) (b:=1))
section
variable {defs:String→Option Fn}{anc:String→List String}{n:Nat}{Q:V→Hp→Prop}{X:String→Hp→Prop}{H:Hp}
theorem i_lvN {p:Addr}{ps:PL}{k:Nat}{q:Int×Int} (h:H p=some (.list (lv ps))) (hq:ps[k]?=some q) (hl:ps.length≤1001) (w:Q (pv q) H):widx (.ref p) (.int (k:Int)) Q H:=by
 have hk:=lt_of_get hq
 rw[i_list h]
 exact⟨k,pv q,⟨by exact lb [] [_] (.c (-4611686018427387904)) (.t (.n 0)) [] [1] rfl,by exact lb [] [_,_] (.t (.n 0)) (.c 4611686018427387904) [.L (.n 1) (.c 1001),.B (.n 0) (.n 1)] [1,1,1] rfl hl hk⟩,place_nat (by rw[lv_length];exact hk),by rw[lv,List.getElem?_map,hq];rfl,w⟩
theorem i_last {p:Addr}{tr:List (Addr×Row)}{x:Addr×Row} (h:H p=some (.list (refs tr))) (hx:tr[tr.length-1]?=some x) (w:Q (.ref x.1) H):widx (.ref p) (.int (-1)) Q H:=by
 have hk:=lt_of_get hx
 rw[i_list h]
 exact⟨tr.length-1,.ref x.1,⟨by decide,by decide⟩,by rw[refs_length];exact place_last (by exact lB [] [_,_] (.c 0) (.n 0) [.B (.n 1) (.n 0)] [1,1] rfl hk),refs_get hx,w⟩
theorem fewest_spec (D:Def4 defs) (h6:defs "most_of" = some f_most_of) (h7:defs "fewest" = some f_fewest) {p:Addr}{ps:PL}{due:Int} (hp:H p=some (.list (lv ps))) (hl:ps.length≤100) (hv:∀q∈ps,1≤q.1∧q.1≤1000) (hc:∀q∈ps,0≤q.2∧q.2≤1000000000)
  (hS:¬(0≤due∧due≤1000)→X "NoSum" H)
  (hN:(0≤due∧due≤1000)→∀tr H',Tab due.toNat ps tr→Ext H H'→(rowAt (tr.map (·.2)) ps.length)[due.toNat]?=some none→X "NoChange" H')
  (hq:(0≤due∧due≤1000)→∀tr x l a H',Tab due.toNat ps tr→Ext H H'→(rowAt (tr.map (·.2)) ps.length)[due.toNat]?=some (some x)→Picks (tr.map (·.2)) ps ps.length due.toNat x l→l.length≤100→H a=none→H' a=some (.list (lv l))→Q (.ref a) H') :
  callN defs anc (n+4) "fewest" [.ref p,.int due] Q X H:=by
 refine call_of h7 rfl ?_
 simp only[f_fewest]
 (simp only[List.map_cons,List.map_nil,List.length_cons,List.length_nil,Nat.reduceAdd,Nat.reduceSub,List.replicate,List.cons_append,List.nil_append,sf_asg,sS,sZ,qE_call,qEs_cons,qEs_nil,qE_var,gS,gZ,v_some,true_and])
 refine table_spec D.h0 D.h1 D.h2 D.h3 hp hl hv hc hS fun hm tr R H₁ T hE1 hR0 hR I hf hn=>?_
 obtain⟨M,rfl⟩:∃M:Nat,due=M:=⟨due.toNat,by exact lq [_] [_] (.v 0) (.t (.n 0)) [.e (.t (.n 0)) (.v 0),.l (.v 0) (.t (.n 0))] [1,1,0] [1,-1,0] rfl (tnE (a:=due) (hm.1)) (tn0 (a:=due))⟩
 rw[Int.toNat_natCast] at *
 have hM:M≤1000:=by exact lA [] [_] (.n 0) (.c 1000) [.l (.t (.n 0)) (.c 1000)] [1,1] rfl hm.2
 have hlen:=T.len
 have hrl:tr.length≤1001:=by exact lA [] [_,_] (.n 0) (.c 1001) [.L (.n 1) (.c 100),.E (.n 0) (.a (.n 1) (.c 1))] [1,1,1] rfl hl hlen
 have hlast:ps.length<tr.length:=by exact lB [] [_,_] (.n 0) (.n 1) [.E (.n 1) (.a (.n 0) (.c 1))] [1,-1] rfl hlen
 have gl:=List.getElem?_eq_getElem hlast
 have ml:=List.getElem_mem hlast
 have er:rowAt (tr.map (·.2)) ps.length=tr[ps.length].2:=T.row hlast
 have hw:=T.rows _ ml
 obtain⟨z,hz⟩:=get_of_lt (l:=tr[ps.length].2) (k:=M) (by exact lB [] [_,_] (.n 0) (.n 1) [.E (.n 1) (.a (.n 0) (.c 1))] [1,-1] rfl hw)
 dsimp only[restW]
 (simp only[sf_ife,app_cons,app_nil,qE_cmp,asB_bool,qE_none,qE_idx,qE_var,gS,gZ,v_some,qE_neg,qE_int,k_int])
 refine i_last hR (by rw[hlen];exact gl) ?_
 refine i_lo (I _ ml) hz (by exact lA [] [_,_] (.n 0) (.c 1001) [.l (.t (.n 1)) (.c 1000),.E (.n 0) (.a (.n 1) (.c 1))] [1,1,1] rfl hm.2 hw) ?_
 cases z with
 | none =>
  simp only[ov]
  (simp only[c_isNN])
  refine iteP trivial ?_
  dsimp only[restW]
  (simp only[s_raise,true_and])
  exact hN hm tr H₁ T hE1 (by rw[er];exact hz)
 | some x =>
  simp only[ov]
  (simp only[c_isIN])
  refine iteF ?_
  dsimp only[restW]
  (simp only[sf_asg,sS,sZ,qE_list,qEs_nil])
  refine⟨Nat.zero_le _,fun F hF=>?_⟩
  dsimp only[restW]
  (simp only[sf_asg,sS,sZ,qE_var,gS,gZ,v_some])
  dsimp only[restW]
  have hp1:=hE1 _ _ hp
  have hpF:∀o,(H₁.set F o) p=some (.list (lv ps)):=fun o=>Ext.new o hF _ _ hp1
  refine for_cons ⟨rfl,?_⟩
  (simp only[sr_r3,qE_neg,qE_int,k_int,qE_bin,qE_bc,qEs_cons,qEs_nil,qE_var,gZ,v_some,true_and])
  rw[f_lenL (hpF _),lv_length]
  (simp only[b_sub,r3_i])
  refine⟨⟨by exact lb [] [_] (.c (-4611686018427387904)) (.s (.t (.n 0)) (.c 1)) [] [1] rfl,by exact lb [] [_] (.s (.t (.n 0)) (.c 1)) (.c 4611686018427387904) [.L (.n 0) (.c 100)] [1,1] rfl hl⟩,⟨by decide,by decide⟩,⟨by decide,by decide⟩,by decide,?_⟩
  rw[turns_down]
  refine forGo_map (l:=List.range ps.length) (f:=fun (k:Nat)=>It.v (.int ((ps.length:Int)-1+(k:Int) * -1)))
   (I:=fun as ρ H'=>∃acc p' x' x5 x6 x7 x8,ρ=[some (.ref p),some (.int M),some (.ref R),some (.ref F),some (.int (p':Nat)),x5,x6,x7,x8]∧H'=H₁.set F (.list (lv acc))∧Back (tr.map (·.2)) ps ps.length M x (ps.length-as.length) p' x' acc∧p'≤M∧acc.length≤as.length) ?_ ?_ ?_
   ⟨[],M,x,_,_,_,_,rfl,rfl,⟨Nat.le_refl _,by show (rowAt (tr.map (·.2)) ps.length)[M]?=_;rw[er];exact hz,fun l r=>by rw[List.reverse_nil,List.append_nil];exact r⟩,Nat.le_refl _,Nat.le_refl _⟩
  ·rintro as ρ H' _;exact okH_nil
  ·rintro ρ H' ⟨acc,p',x',x5,x6,x7,x8,rfl,rfl,B,h1,h2⟩
   rw[List.length_range,Nat.sub_self] at B
   rw[List.length_range] at h2
   dsimp only[restW]
   (simp only[s_ret,qE_rev,qE_var,gS,gZ,v_some,k_ref])
   refine⟨_,Hp.set_self _ _ _,?_⟩
   rw[lv_reverse]
   refine⟨by rw[lv_length,List.length_reverse,lim_eq];exact lA [] [_,_] (.n 0) (.c 16777216) [.L (.n 1) (.c 100),.L (.n 0) (.n 1)] [1,1,1] rfl hl h2,fun a ha=>?_⟩
   have hEF:=hE1.trans (Ext.new (.list (lv acc)) hF)
   exact hq hm tr x acc.reverse a _ T (hEF.trans (.new _ ha)) (by rw[er];exact hz) (B.done T) (by rw[List.length_reverse];exact lA [] [_,_] (.n 0) (.c 100) [.L (.n 1) (.c 100),.L (.n 0) (.n 1)] [1,1,1] rfl hl h2) (hEF.no ha) (Hp.set_self _ _ _)
  ·rintro as b bs ρ H' K hl' ⟨acc,p',x',x5,x6,x7,x8,rfl,rfl,B,h1,h2⟩ hK
   obtain⟨rfl,hb⟩:=range_split hl'
   refine⟨_,rfl,?_⟩
   rw[down_at hb]
   obtain⟨k,ek⟩:∃k,ps.length-1-as.length=k:=⟨_,rfl⟩
   rw[ek]
   have hk:k<ps.length:=by exact lB [] [_,_,_,_] (.n 0) (.n 1) [.E (.n 2) (.n 0),.E (.a (.n 3) (.c 1)) (.n 1),.L (.n 2) (.n 3)] [1,-1,1,1] rfl ek (nsE (a:=List.length ps) (b:=1) (lA [] [_,_] (.c 1) (.n 0) [.B (.n 1) (.n 0)] [1,1] rfl hb)) (ns0 (a:=List.length ps-1) (b:=as.length))
   have e1:ps.length-as.length=k+1:=by exact lQ [] [_,_,_,_,_,_] (.n 0) (.a (.n 1) (.c 1)) [.E (.n 2) (.n 1),.E (.a (.n 0) (.n 3)) (.n 4),.E (.a (.n 2) (.n 3)) (.n 5),.E (.a (.n 5) (.c 1)) (.n 4)] [1,-1,-1,1,1] [1,1,1,-1,-1] rfl ek (nsE (a:=List.length ps) (b:=as.length) (lA [] [_,_] (.n 0) (.n 1) [.B (.n 0) (.n 1)] [1,1] rfl hb)) (nsE (a:=List.length ps-1) (b:=as.length) (lA [] [_,_,_] (.n 0) (.n 1) [.B (.n 0) (.n 2),.L (.n 2) (.a (.n 1) (.c 1))] [1,1,1] rfl hb (ns1 (a:=List.length ps) (b:=1)))) (nsE (a:=List.length ps) (b:=1) (lA [] [_,_] (.c 1) (.n 0) [.B (.n 1) (.n 0)] [1,1] rfl hb))
   have e2:ps.length-(as++[as.length]).length=k:=by rw[List.length_append];show ps.length-(as.length+1)=k;exact lQ [] [_,_,_,_,_] (.n 0) (.n 1) [.E (.n 2) (.a (.n 1) (.c 1)),.E (.a (.n 0) (.a (.n 3) (.c 1))) (.n 4),.E (.a (.n 2) (.n 3)) (.n 4)] [1,-1,-1,1] [1,1,1,-1] rfl e1 (nsE (a:=List.length ps) (b:=as.length+1) (lA [] [_,_] (.a (.n 0) (.c 1)) (.n 1) [.B (.n 0) (.n 1)] [1,1] rfl hb)) (nsE (a:=List.length ps) (b:=as.length) (lA [] [_,_] (.n 0) (.n 1) [.B (.n 0) (.n 1)] [1,1] rfl hb))
   rw[e1] at B
   have gq:=List.getElem?_eq_getElem hk
   obtain⟨ra,rb,k1,k2,k3,k4,k5,k6,k7⟩:=T.step_at gq
   have mq:=List.getElem_mem hk
   obtain⟨v1,v2⟩:=hv _ mq
   obtain⟨c1,c2⟩:=hc _ mq
   have hcell:=B.cell
   rw[k4] at hcell
   have hR':∀o,(H₁.set F o) R=some (.list (refs tr)):=fun o=>Ext.new o hF _ _ hR
   have hI':∀(o:Ob) (y:Addr×Row),y∈tr→(H₁.set F o) y.1=some (.list (lo y.2)):=fun o y hy=>Ext.new o hF _ _ (I y hy)
   have ma:=List.mem_of_getElem? k1
   have mb:=List.mem_of_getElem? k2
   generalize ps[k]=q at gq k5 mq v1 v2 c1 c2
   have ev:q.1=((q.1.toNat:Nat):Int):=by exact lq [_] [_] (.v 0) (.t (.n 0)) [.e (.t (.n 0)) (.v 0),.l (.v 0) (.t (.n 0))] [1,1,0] [1,-1,0] rfl (tnE (a:=q.fst) (la [_] [] (.c 0) (.v 0) [.l (.c 1) (.v 0)] [1,1] rfl v1)) (tn0 (a:=q.fst))
   have ec:q.2=((q.2.toNat:Nat):Int):=by exact lq [_] [_] (.v 0) (.t (.n 0)) [.e (.t (.n 0)) (.v 0),.l (.v 0) (.t (.n 0))] [1,1,0] [1,-1,0] rfl (tnE (a:=q.snd) (c1)) (tn0 (a:=q.snd))
   obtain⟨y,hy1,hy2⟩:=k5.2 p' (by exact lB [] [_,_,_] (.n 0) (.n 1) [.L (.n 0) (.n 2),.E (.n 1) (.a (.n 2) (.c 1))] [1,1,-1] rfl h1 k6)
   cases hy1.symm.trans hcell
   dsimp only[bodyW]
   (simp only[sS,sZ,sf_asg2,qE_idx,qE_var,gS,gZ,v_some,true_and])
   refine i_lvN (hpF _) gq (by exact lA [] [_] (.n 0) (.c 1001) [.L (.n 0) (.c 100)] [1,1] rfl hl) ?_
   (simp only[u_pv])
   dsimp only[restW]
   (simp only[sf_asg,sS,sZ,qE_call,qEs_cons,qEs_nil,qE_var,gS,gZ,v_some,qE_idx,qE_bin,qE_int,b_add,true_and])
   refine i_refs (hR' _) k1 hrl ?_
   rw[show (k:Int)+1=((k+1:Nat):Int) from rfl]
   refine i_refs (hR' _) k2 hrl ?_
   refine i_lo (hI' _ _ mb) hcell (by exact lA [] [_,_] (.n 0) (.c 1001) [.l (.t (.n 1)) (.c 1000),.E (.n 0) (.a (.n 1) (.c 1))] [1,1,1] rfl hm.2 k7) ?_
   simp only[ov]
   have hcall:=fun Q' hq'=>most_of_spec (defs:=defs) (anc:=anc) (n:=n+2) (Q:=Q') (X:=X) h6 (hI' (.list (lv acc)) _ ma) (by exact lA [] [_,_] (.n 0) (.c 1001) [.l (.t (.n 1)) (.c 1000),.E (.n 0) (.a (.n 1) (.c 1))] [1,1,1] rfl hm.2 k6) (show p'<ra.2.length by exact lB [] [_,_,_] (.n 0) (.n 1) [.L (.n 0) (.n 2),.E (.n 1) (.a (.n 2) (.c 1))] [1,1,-1] rfl h1 k6) (v:=q.1.toNat) (c:=q.2.toNat) (by exact lA [_] [_] (.c 1) (.n 0) [.l (.c 1) (.v 0),.e (.v 0) (.t (.n 0))] [1,1,1] rfl v1 ev) (by exact lA [_] [_] (.n 0) (.c 1000) [.l (.v 0) (.c 1000),.e (.v 0) (.t (.n 0))] [1,1,-1] rfl v2 ev) hy2 hq'
   rw[←ev,←ec] at hcall
   refine hcall _ fun m hm'=>?_
   have hmp:=hm'.hp
   have hB:=B.step gq (by rw[k3];exact hm')
   have epos:(p':Int)-(m:Int)*q.1=((p'-m*q.1.toNat:Nat):Int):=by rw[Int.natCast_sub hmp,Int.natCast_mul,←ev]
   have fin:∀o x5 x7,o=H₁.set F (.list (lv (addP acc q.1 m)))→restW ⟨callN defs anc (n+3),anc⟩ false (.cons (.asg 4 (.bin .sub (.var 4) (.bin .mul (.var 8) (.var 6)))) .nil) K Q (fun c ξ H₁=>X c H₁) [some (.ref p),some (.int M),some (.ref R),some (.ref F),some (.int p'),x5,some (.int q.1),x7,some (.int m)] o:=by
    intro o x5 x7 eo
    subst eo
    dsimp only[restW]
    (simp only[sf_asg,sS,sZ,qE_bin,qE_var,gS,gZ,v_some,b_mul,b_sub])
    refine⟨.inr ⟨by exact lb [_] [] (.c (-18446744073709551616)) (.v 0) [.l (.c 1) (.v 0)] [1,1] rfl v1,by exact lb [_] [] (.v 0) (.c 18446744073709551616) [.l (.v 0) (.c 1000)] [1,1] rfl v2⟩,?_⟩
    rw[epos]
    refine hK _ _ ⟨addP acc q.1 m,p'-m*q.1.toNat,x'-m,_,_,_,_,rfl,rfl,by rw[e2];exact hB,Nat.le_trans (Nat.sub_le ..) h1,?_⟩
    rw[addP,List.length_append]
    by_cases h0:0<m
    ·rw[if_pos h0,List.length_append];exact Nat.add_le_add_right h2 1
    ·rw[if_neg h0];exact Nat.le_succ_of_le h2
   dsimp only[restW]
   (simp only[sf_ife,app_cons,app_nil,qE_cmp,asB_bool,qE_int,qE_var,gS,gZ,v_some,c_gt,decide_eq_true_eq])
   by_cases h0:0<m
   ·refine iteP (by exact lb [] [_] (.c 0) (.t (.n 0)) [.B (.c 0) (.n 0)] [1,1] rfl h0) ?_
    dsimp only[restW]
    (simp only[sf_ex,qE_mt,qEs_cons,qEs_nil,qE_tup,List.length_cons,List.length_nil,Nat.reduceAdd,qE_var,gS,gZ,v_some])
    rw[r_L (Hp.set_self _ _ _)]
    refine⟨⟨nofun,nofun⟩,Nat.le_of_ble_eq_true rfl,?_⟩
    rw[m_append (Hp.set_self _ _ _)]
    refine⟨by rw[lv_length,lim_eq];exact lB [] [_,_,_] (.n 0) (.c 16777216) [.L (.n 1) (.c 100),.L (.n 0) (.n 2),.B (.n 2) (.n 1)] [1,1,1,1] rfl hl h2 hb,?_⟩
    rw[Hp.set_set]
    refine fin _ _ _ ?_
    rw[addP,if_pos h0,lv_append];rfl
   ·refine iteN (by exact lf [] [_] [.L (.n 0) (.c 0),.b (.c 0) (.t (.n 0))] [1,1] rfl (Nat.not_lt.mp h0)) ?_
    refine fin _ _ _ ?_
    rw[addP,if_neg h0]
end
theorem f_lenPv {q:Int×Int}{Q:V→Hp→Prop}{H:Hp}:wbc .len [pv q] Q H=Q (.int 2) H:=rfl
theorem key_one {ps:PL} (hn:(ps.map (·.1)).Nodup) {a b:Int×Int} (ha:a∈ps) (hb:b∈ps) (e:a.1=b.1):a=b:=by
 obtain⟨i,hi,rfl⟩:=List.getElem_of_mem ha
 obtain⟨j,hj,rfl⟩:=List.getElem_of_mem hb
 have h1:i<(ps.map (·.1)).length:=by rw[List.length_map];exact hi
 have h2:j<(ps.map (·.1)).length:=by rw[List.length_map];exact hj
 have:=(List.getElem_inj (h₀:=h1) (h₁:=h2) hn).mp (by rw[List.getElem_map,List.getElem_map];exact e)
 subst this;rfl
theorem worthL_add (as:PL) (b:Int×Int):worthL (as++[b])=worthL as+b.1*b.2:=by rw[worthL,worthL,List.map_append,List.sum_append];exact congrArg (_ + ·) (Int.add_zero _)
section
variable {defs:String→Option Fn}{anc:String→List String}{n:Nat}{Q:V→Hp→Prop}{X:String→Hp→Prop}{H:Hp}
end
theorem turns_down0 (n:Nat):turns (n:Int) 0 (-1)=n:=by
 rw[turns,if_neg (by decide)]
 show (((n:Int)-0 - -1-1) / 1).toNat=n
 rw[Int.ediv_one];exact lQ [] [_,_] (.n 0) (.n 1) [.l (.s (.s (.s (.t (.n 1)) (.c 0)) (.c (-1))) (.c 1)) (.t (.n 0)),.e (.t (.n 0)) (.s (.s (.s (.t (.n 1)) (.c 0)) (.c (-1))) (.c 1))] [1,0,-1] [1,0,1] rfl (tn0 (a:=(↑n:Int)-0 - -1-1)) (tnE (a:=(↑n:Int)-0 - -1-1) (la [] [_] (.c 0) (.s (.s (.s (.t (.n 0)) (.c 0)) (.c (-1))) (.c 1)) [] [1] rfl))
section
variable {defs:String→Option Fn}{anc:String→List String}{n:Nat}{Q:V→Hp→Prop}{X:String→Hp→Prop}{H:Hp}
end
structure Def6 (defs:String→Option Fn):Prop extends Def4 defs where
 h6:defs "most_of" = some f_most_of
 h7:defs "fewest" = some f_fewest
structure TillAt (H:Hp) (p:Addr) (ps:PL):Prop where
 at_:H p=some (.list (lv ps))
 len:ps.length≤100
 val:∀q∈ps,1≤q.1∧q.1≤1000
 cnt:∀q∈ps,0≤q.2∧q.2≤1000000000
theorem TillAt.ext {H H':Hp}{p:Addr}{ps:PL} (t:TillAt H p ps) (e:Ext H H'):TillAt H' p ps:=⟨e _ _ t.at_,t.len,t.val,t.cnt⟩
noncomputable def InR (m:Int):Prop:=0≤m∧m≤1000
noncomputable def FewIs (M:Nat) (ps:PL) (z:Option Int):Prop:=∃tr:List (Addr×Row),Tab M ps tr∧(rowAt (tr.map (·.2)) ps.length)[M]?=some z
noncomputable def ChangeIs (M:Nat) (ps:PL) (x:Int) (l:PL):Prop:=∃tr:List (Addr×Row),Tab M ps tr∧(rowAt (tr.map (·.2)) ps.length)[M]?=some (some x)∧Picks (tr.map (·.2)) ps ps.length M x l
theorem FewIs.one {M:Nat}{ps:PL}{z z':Option Int} (a:FewIs M ps z) (b:FewIs M ps z'):z=z':=by
 obtain⟨tr,T,h⟩:=a
 obtain⟨tr',T',h'⟩:=b
 rw[T.one T'] at h
 exact Option.some.inj (h.symm.trans h')
theorem ChangeIs.few {M:Nat}{ps:PL}{x:Int}{l:PL} (a:ChangeIs M ps x l):FewIs M ps (some x):=by
 obtain⟨tr,T,h,_⟩:=a
 exact⟨tr,T,h⟩
theorem ChangeIs.one {M:Nat}{ps:PL}{x y:Int}{l l':PL} (a:ChangeIs M ps x l) (b:ChangeIs M ps y l'):x=y∧l=l':=by
 have e:=Option.some.inj (a.few.one b.few)
 subst e
 obtain⟨tr,T,h,p⟩:=a
 obtain⟨tr',T',h',p'⟩:=b
 rw[T.one T'] at p
 exact⟨rfl,p.one p'⟩
section
variable {defs:String→Option Fn}{n:Nat}{Q:V→Hp→Prop}{X:String→Hp→Prop}{H:Hp}
theorem fewest_is {anc:String→List String} (D:Def6 defs) {p:Addr}{ps:PL}{due:Int} (t:TillAt H p ps) (hS:¬InR due→X "NoSum" H) (hN:InR due→∀H',Ext H H'→FewIs due.toNat ps none→X "NoChange" H')
  (hq:InR due→∀x l a H',Ext H H'→ChangeIs due.toNat ps x l→l.length≤100→H a=none→H' a=some (.list (lv l))→Q (.ref a) H'):callN defs anc (n+4) "fewest" [.ref p,.int due] Q X H :=
 fewest_spec D.toDef4 D.h6 D.h7 t.at_ t.len t.val t.cnt hS (fun hm tr H' T e z=>hN hm H' e ⟨tr,T,z⟩) fun hm tr x l a H' T e z P hl ha hb=>hq hm x l a H' e ⟨tr,T,z,P⟩ hl ha hb
end
theorem Till.at {H:Hp}{p:Addr}{ps:PL} (T:Till ps) (h:H p=some (.list (lv ps))):TillAt H p ps:=⟨h,by have:=T.len;exact lA [] [_] (.n 0) (.c 100) [.L (.n 0) (.c 10)] [1,1] rfl this,T.val,T.cnt⟩
section
variable {Q:V→Hp→Prop}{X:String→Hp→Prop}{H:Hp}
theorem i_pair0 {a:Addr}{x y:V} (h:H a=some (.list [x,y])) (w:Q x H):widx (.ref a) (.int 0) Q H:=by rw[i_list h];exact⟨0,x,⟨by decide,by decide⟩,rfl,rfl,w⟩
theorem i_pair1 {a:Addr}{x y:V} (h:H a=some (.list [x,y])) (w:Q y H):widx (.ref a) (.int 1) Q H:=by rw[i_list h];exact⟨1,y,⟨by decide,by decide⟩,rfl,rfl,w⟩
end
section
variable {Q:V→Hp→Prop}{X:String→Hp→Prop}{H:Hp}
end
end Mine
end

section
namespace Mine
end Mine
end

section
namespace Mine
open PySem (Str Addr)
theorem zip_snoc {q:Int×Int}{m:Nat}:∀ {ps:PL}{w:List Nat}{k:Nat},ps[k]?=some q→w.length=k→ps.zip (w++[m])=ps.zip w++[(q,m)]
 | [],_,_,h,_=>by cases h
 | p :: ps,[],k,h,e=>by
  cases e
  cases h
  simp
 | p :: ps,x :: w,k,h,e=>by
  cases e
  exact congrArg ((p,x) :: ·) (zip_snoc (ps:=ps) (w:=w) h rfl)
noncomputable def wo (ps:PL) (w:List Nat):Nat:=((ps.zip w).map fun e=>e.1.1.toNat*e.2).sum
noncomputable def pz (ps:PL) (w:List Nat):PL:=((ps.zip w).filter fun e=>decide (0<e.2)).map fun e=>(e.1.1,(e.2:Int))
theorem wo_snoc {ps:PL}{w:List Nat}{k m:Nat}{q:Int×Int} (h:ps[k]?=some q) (e:w.length=k):wo ps (w++[m])=wo ps w+m*q.1.toNat:=by
 rw[wo,zip_snoc h e,List.map_append,List.sum_append,wo,Nat.mul_comm]
 rfl
theorem pz_snoc {ps:PL}{w:List Nat}{k m:Nat}{q:Int×Int} (h:ps[k]?=some q) (e:w.length=k):pz ps (w++[m])=addP (pz ps w) q.1 m:=by
 rw[pz,zip_snoc h e,List.filter_append,List.map_append,←pz,addP]
 by_cases z:0<m
 ·rw[if_pos z,List.filter_cons_of_pos (by exact decide_eq_true z)];rfl
 ·rw[if_neg z,List.filter_cons_of_neg (by rw[decide_eq_false z];exact Bool.false_ne_true)];exact List.append_nil _
inductive WayS (ps:PL) (k:Nat) (R:List Nat→Prop) (w:List Nat):Prop
 | mk (q:Int×Int) (w':List Nat) (m:Nat) (hq:ps[k]?=some q) (r:R w') (hm:m≤q.2.toNat) (e:w=w'++[m])
noncomputable def WayK (ps:PL) (k:Nat):List Nat→Prop:=Nat.rec (motive:=fun ξ=>List Nat→Prop) (fun w=>w=[]) (fun k R=>WayS ps k R) k
theorem WayK.len {ps:PL}{k:Nat}:∀ {w:List Nat},WayK ps k w→w.length=k:=by
 induction k with
 | zero=>intro w h;cases h;rfl
 | succ k ih =>
  intro w ⟨q,w',m,hq,r,hm,e⟩
  rw[e,List.length_append,ih r];rfl
noncomputable def betL:List Nat→List Nat→Bool
 | x :: xs,y :: ys=>if x=y then betL xs ys else decide (y<x)
 | _,_=>false
noncomputable def bet (a b:List Nat):Bool:=if a.sum=b.sum then betL a.reverse b.reverse else decide (a.sum<b.sum)
section
variable {M:Nat}{ps:PL}{tr:List (Addr×Row)}
theorem Tab.low (T:Tab M ps tr) {k:Nat}:∀ {w:List Nat},WayK ps k w→wo ps w≤M→∃x,(rowAt (tr.map (·.2)) k)[wo ps w]?=some (some x)∧x≤(w.sum:Int):=by
 induction k with
 | zero =>
  intro w h _
  cases h
  obtain⟨a,e⟩:=T.zero
  refine⟨0,?_,Int.le_refl _⟩
  have ew:wo ps []=0:=by rw[wo,List.zip_nil_right];rfl
  rw[rowAt,List.getElem?_map,e,ew];rfl
 | succ k ih =>
  intro w ⟨q,w',m,hq,r,hm,e⟩ hw
  replace r:WayK ps k w':=r
  subst e
  rw[wo_snoc hq r.len] at hw ⊢
  obtain⟨x,hx,hl⟩:=ih r (Nat.le_trans (Nat.le_add_right ..) hw)
  obtain⟨a,b,h1,h2,h3,h4,h5,h6,h7⟩:=T.step_at hq
  rw[h3] at hx
  rw[h4]
  obtain⟨z,hz,hL⟩:=h5.2 (wo ps w'+m*q.1.toNat) (by rw[h6];exact Nat.lt_succ_of_le hw)
  have hs:wo ps w'+m*q.1.toNat-m*q.1.toNat=wo ps w':=Nat.add_sub_cancel ..
  cases z with
  | none=>have:=hL m hm (Nat.le_add_left ..);rw[hs,hx] at this;cases this
  | some y =>
   have:=hL.2 m x hm (Nat.le_add_left ..) (by rw[hs];exact hx)
   refine⟨y,hz,?_⟩
   rw[List.sum_append,List.sum_cons,List.sum_nil]
   exact la [_,_] [_,_] (.v 0) (.t (.a (.n 0) (.a (.n 1) (.c 0)))) [.l (.v 1) (.t (.n 0)),.l (.v 0) (.a (.v 1) (.t (.n 1)))] [1,1,1] rfl hl this
inductive BestW (ps:PL) (k p:Nat) (x:Int) (l:PL) (w:List Nat):Prop
 | mk (h1:WayK ps k w) (h2:wo ps w=p) (h3:(w.sum:Int)=x) (h4:l=pz ps w) (h5:∀v,WayK ps k v→wo ps v=p→(v.sum:Int)=x→v=w∨(betL w.reverse v.reverse=true∧betL v.reverse w.reverse=false))
theorem Picks.best (T:Tab M ps tr) {k:Nat}:∀ {p:Nat}{x:Int}{l:PL},Picks (tr.map (·.2)) ps k p x l→p≤M→∃w,BestW ps k p x l w:=by
 induction k with
 | zero =>
  intro p x l h hp
  obtain⟨rfl,rfl,rfl⟩:=h
  have ew:wo ps []=0:=by rw[wo,List.zip_nil_right];rfl
  have ep:pz ps []=[]:=by rw[pz,List.zip_nil_right];rfl
  exact⟨[],rfl,ew,rfl,ep.symm,fun v hv ξ ξ=>.inl hv⟩
 | succ k ih =>
  intro p x l ⟨m,q,l',hq,hx,hm,r,e⟩ hp
  obtain⟨w,h1,h2,h3,h4,h5⟩:=ih r (Nat.le_trans (Nat.sub_le ..) hp)
  have hmp:=hm.hp
  refine⟨w++[m],⟨q,w,m,hq,h1,hm.hc,rfl⟩,by rw[wo_snoc hq h1.len,h2];exact Nat.sub_add_cancel hmp,?_,by rw[e,h4,pz_snoc hq h1.len],fun v hv e1 e2=>?_⟩
  ·rw[List.sum_append,List.sum_cons,List.sum_nil];exact lq [_] [_,_] (.t (.a (.n 0) (.a (.n 1) (.c 0)))) (.v 0) [.e (.t (.n 0)) (.s (.v 0) (.t (.n 1)))] [1,-1] [1,1] rfl h3
  ·obtain⟨q',v',m',hq',r',hm',rfl⟩:=hv
   cases hq.symm.trans hq'
   replace r':WayK ps k v':=r'
   rw[wo_snoc hq r'.len] at e1
   rw[List.sum_append,List.sum_cons,List.sum_nil] at e2
   obtain⟨y,hy,hl⟩:=T.low r' (by exact lA [] [_,_,_,_] (.n 0) (.n 1) [.L (.n 2) (.n 1),.E (.a (.n 0) (.n 3)) (.n 2)] [1,1,1] rfl hp e1)
   obtain⟨a,b,g1,g2,g3,g4,g5,g6,g7⟩:=T.step_at hq
   obtain⟨z,hz,hL⟩:=g5.2 p (by rw[g6];exact Nat.lt_succ_of_le hp)
   rw[g4,hz] at hx
   cases hx
   have hs:p-m'*q.1.toNat=wo ps v':=by rw[←e1];exact Nat.add_sub_cancel ..
   rw[g3] at hy hm
   have k1:=hL.2 m' y hm' (by rw[←e1];exact Nat.le_add_left ..) (by rw[hs];exact hy)
   have ey:y=x-m':=by exact lq [_,_] [_,_] (.v 0) (.s (.v 1) (.t (.n 0))) [.l (.v 1) (.a (.v 0) (.t (.n 0))),.e (.t (.a (.n 1) (.a (.n 0) (.c 0)))) (.v 1),.l (.v 0) (.t (.n 1))] [1,1,0,0] [1,0,1,1] rfl k1 e2 hl
   have hle:m'≤m:=by
    rcases Nat.lt_or_ge m m' with c | c
    ·exact absurd (by rw[hs,hy,ey]) (hm.top m' c hm' (by rw[←e1];exact Nat.le_add_left ..))
    ·exact c
   simp only[List.reverse_append,List.reverse_cons,List.reverse_nil,List.nil_append,List.singleton_append,betL]
   rcases Nat.lt_or_ge m' m with c | c
   ·refine .inr ⟨?_,?_⟩
    ·rw[if_neg (by exact lf [] [_,_] [.B (.n 0) (.n 1),.E (.n 1) (.n 0)] [1,1] rfl c)];exact decide_eq_true c
    ·rw[if_neg (by exact lf [] [_,_] [.B (.n 0) (.n 1),.E (.n 0) (.n 1)] [1,-1] rfl c)];exact decide_eq_false (by exact lf [] [_,_] [.L (.n 0) (.n 1),.B (.n 1) (.n 0)] [1,1] rfl hle)
   ·have em:m'=m:=Nat.le_antisymm hle c
    subst em
    rw[if_pos rfl,if_pos rfl]
    rcases h5 v' r' (by exact lQ [] [_,_] (.n 0) (.n 1) [.E (.n 1) (.n 0)] [1,1] [1,-1] rfl hs) (by exact lq [_] [_,_] (.t (.n 0)) (.s (.v 0) (.t (.n 1))) [.e (.t (.a (.n 0) (.a (.n 1) (.c 0)))) (.v 0)] [1,-1] [1,1] rfl e2) with g | g
    ·exact .inl (by rw[g])
    ·exact .inr g
end
inductive BestOf (ps:PL) (M:Nat) (l:PL) (w:List Nat):Prop
 | mk (h1:WayK ps ps.length w) (h2:wo ps w=M) (h4:l=pz ps w) (h5:∀v,WayK ps ps.length v→wo ps v=M→v=w∨(bet w v=true∧bet v w=false))
theorem ChangeIs.best {M:Nat}{ps:PL}{x:Int}{l:PL} (C:ChangeIs M ps x l):∃w,BestOf ps M l w:=by
 obtain⟨tr,T,hx,hp⟩:=C
 obtain⟨w,h1,h2,h3,h4,h5⟩:=hp.best T (Nat.le_refl M)
 refine⟨w,h1,h2,h4,fun v hv e=>?_⟩
 obtain⟨y,hy,hl⟩:=T.low hv (Nat.le_of_eq e)
 rw[e,hx] at hy
 cases hy
 by_cases c:(v.sum:Int)=x
 ·have es:w.sum=v.sum:=by exact lQ [_] [_,_] (.n 0) (.n 1) [.e (.t (.n 0)) (.v 0),.e (.t (.n 1)) (.v 0)] [1,-1,1] [1,1,-1] rfl h3 c
  rw[bet,bet,if_pos es,if_pos es.symm]
  exact h5 v hv e c
 ·have es:w.sum<v.sum:=by omega
  rw[bet,bet,if_neg (by exact lf [] [_,_] [.B (.n 0) (.n 1),.E (.n 0) (.n 1)] [1,-1] rfl es),if_neg (by exact lf [] [_,_] [.B (.n 0) (.n 1),.E (.n 1) (.n 0)] [1,1] rfl es)]
  exact .inr ⟨decide_eq_true es,decide_eq_false (by exact lf [_] [_,_] [.e (.t (.n 0)) (.v 0),.l (.v 0) (.t (.n 1)),.B (.n 1) (.n 0)] [1,1,1] rfl h3 hl)⟩
theorem FewIs.no_way {M:Nat}{ps:PL} (F:FewIs M ps none) {w:List Nat} (h:WayK ps ps.length w):wo ps w≠M:=fun e=>by
 obtain⟨tr,T,hx⟩:=F
 obtain⟨y,hy,_⟩:=T.low h (Nat.le_of_eq e)
 rw[e,hx] at hy
 cases hy
end Mine
end

section
namespace Mine
noncomputable def f_put_in:Fn:=⟨2,4,["till", "values", "counts", "value"],
 (.cons (.asg 2 (.call "counts_of" (.cons (.var 0) .nil)))
 (.cons (.for (.one 3) (.ex (.var 1)) (.cons (.ife (.cmp .notIn (.var 3) (.var 2)) (.cons (.raise "NoKind" "a piece of no kind of the till")
   .nil) .nil)
  (.cons (.ife (.cmp .eq (.idx (.var 2) (.var 3)) (.glob "MOST_COUNT" 1000000000)) (.cons (.raise "NoCount" "too many would lie there")
   .nil) .nil)
  (.cons (.setIt (.var 2) (.var 3) (.bin .add (.idx (.var 2) (.var 3)) (.int 1)))
  .nil))))
 (.cons (.ret (.call "pairs_of" (.cons (.var 2) .nil)))
 .nil)))⟩
noncomputable def f_taken_out:Fn:=⟨2,5,["till", "change", "counts", "value", "count"],
 (.cons (.asg 2 (.call "counts_of" (.cons (.var 0) .nil)))
 (.cons (.for (.two 3 4) (.ex (.var 1)) (.cons (.setIt (.var 2) (.var 3) (.bin .sub (.idx (.var 2) (.var 3)) (.var 4)))
  .nil))
 (.cons (.ret (.call "pairs_of" (.cons (.var 2) .nil)))
 .nil)))⟩
noncomputable def f_paid:Fn:=⟨3,6,["till", "price", "values", "full", "over", "change"],
 (.cons (.ex (.call "need_sum" (.cons (.var 1) .nil)))
 (.cons (.ife (.cmp .gt (.bc .len (.cons (.var 2) .nil)) (.glob "MOST_PIECES" 60)) (.cons (.raise "NoCount" "too many pieces")
  .nil) .nil)
 (.cons (.asg 3 (.call "put_in" (.cons (.var 0) (.cons (.var 2) .nil))))
 (.cons (.asg 4 (.bin .sub (.bc .sum (.cons (.var 2) .nil)) (.var 1)))
 (.cons (.ife (.cmp .lt (.var 4) (.int 0)) (.cons (.raise "TooLittle" "less than the price")
  .nil) .nil)
 (.cons (.ex (.call "need_sum" (.cons (.var 4) .nil)))
 (.cons (.asg 5 (.call "fewest" (.cons (.var 3) (.cons (.var 4) .nil))))
 (.cons (.ret (.tup (.cons (.call "taken_out" (.cons (.var 3) (.cons (.var 5) .nil))) (.cons (.var 5) .nil))))
 .nil))))))))⟩
end Mine
end

section
namespace Mine
open PySem (Str Addr)
noncomputable def MC:Int:=1000000000
noncomputable def fullP (ps:PL) (vs:List Int):PL:=ps.map fun p=>(p.1,p.2+(vs.count p.1:Int))
theorem fullP_nil (ps:PL):fullP ps []=ps:=by
 have:(fun p:Int×Int=>(p.1,p.2+(([]:List Int).count p.1:Int)))=id:=by funext p;exact Prod.ext rfl (Int.add_zero _)
 rw[fullP,this,List.map_id]
theorem fullP_keys (ps:PL) (vs:List Int):(fullP ps vs).map (·.1)=ps.map (·.1):=by rw[fullP,List.map_map];rfl
theorem fullP_length (ps:PL) (vs:List Int):(fullP ps vs).length=ps.length:=List.length_map ..
theorem dget_lk (v:Int) (ps:PL):dget v (ps.map kvI)=(lk v ps).map V.int:=by
 induction ps with
 | nil=>rfl
 | cons p ps ih =>
  show (if p.1=v then some (V.int p.2) else dget v (ps.map kvI))=(if p.1=v then some p.2 else lk v ps).map V.int
  by_cases e:p.1=v
  ·rw[if_pos e,if_pos e];rfl
  ·rw[if_neg e,if_neg e];exact ih
theorem lk_full (v:Int) (ps:PL) (vs:List Int):lk v (fullP ps vs)=(lk v ps).map (· + (vs.count v:Int)):=by
 induction ps with
 | nil=>rfl
 | cons p ps ih =>
  show (if p.1=v then some (p.2+(vs.count p.1:Int)) else lk v (fullP ps vs))=(if p.1=v then some p.2 else lk v ps).map (· + (vs.count v:Int))
  by_cases e:p.1=v
  ·rw[if_pos e,if_pos e,e];rfl
  ·rw[if_neg e,if_neg e];exact ih
theorem lk_key {v c:Int}{ps:PL} (h:lk v ps=some c):v∈ps.map (·.1):=List.mem_map.mpr ⟨_,lk_some h,rfl⟩
theorem setP_full {v c:Int}{ps:PL}{vs:List Int} (hn:(ps.map (·.1)).Nodup) (h:lk v ps=some c):setP v (c+(vs.count v:Int)+1) (fullP ps vs)=fullP ps (vs++[v]):=by
 rw[setP_old (by rw[fullP_keys];exact hn) (by rw[fullP_keys];exact lk_key h),fullP,fullP,List.map_map]
 refine List.map_congr_left fun p hp=>?_
 show (if p.1=v then (v,c+(vs.count v:Int)+1) else (p.1,p.2+(vs.count p.1:Int)))=(p.1,p.2+((vs++[v]).count p.1:Int))
 by_cases e:p.1=v
 ·have:p.2=c:=by
   have:=lk_mem hn (show (v,p.2)∈ps by rw[←e];exact hp)
   exact Option.some.inj (this.symm.trans h)
  rw[if_pos e,e,this,List.count_append,List.count_singleton_self,Int.natCast_add,Int.add_assoc];rfl
 ·rw[if_neg e,List.count_append,List.count_singleton,if_neg (by simpa using fun z=>e z.symm),Nat.add_zero]
noncomputable def faultAt (ps:PL) (done:List Int) (v:Int):String:=Option.casesOn (motive:=fun ξ=>String) (lk v ps) "NoKind" fun c=>if c+(done.count v:Int)=MC then "NoCount" else ""
noncomputable def putCode (ps:PL) (todo:List Int):List Int→String:=List.rec (motive:=fun ξ=>List Int→String) (fun ξ => "") (fun v ξ r done=>if faultAt ps done v = "" then r (done++[v]) else faultAt ps done v) todo
section
variable {defs:String→Option Fn}{anc:String→List String}{n:Nat}{Q:V→Hp→Prop}{X:String→Hp→Prop}{H:Hp}
theorem counts_is (h5:defs "counts_of" = some f_counts_of) {p:Addr}{ps:PL} (hp:H p=some (.list (lv ps))) (hl:ps.length≤1000) (hn:(ps.map (·.1)).Nodup)
  (hq:∀a,H a=none→Q (.ref a) (H.set a (.dict (ps.map kvI)))) :
  callN defs anc (n+1) "counts_of" [.ref p] Q X H:=by
 refine call_of h5 rfl ?_
 simp only[f_counts_of]
 (simp only[List.map_cons,List.map_nil,List.length_cons,List.length_nil,Nat.reduceAdd,Nat.reduceSub,List.replicate,List.cons_append,List.nil_append,sf_asg,sS,sZ,qE_dict0])
 intro D hD
 dsimp only[restW]
 refine for_cons ⟨rfl,?_⟩
 (simp only[sr_ex,qE_var,gZ,v_some])
 refine src_of (Ext.new _ hD _ _ hp) ?_
 have hpD:p≠D:=ne_new hp hD
 rw[lvIt]
 refine forGo_map (I:=fun as ρ H'=>∃x2 x3,ρ=[some (.ref p),some (.ref D),x2,x3]∧H'=H.set D (.dict (as.map kvI))) ?_ ?_ ?_ ⟨_,_,rfl,rfl⟩
 ·rintro as ρ H' ⟨x2,x3,rfl,rfl⟩;exact okH_one (by rw[Hp.set_ne _ hpD];exact hp)
 ·rintro ρ H' ⟨x2,x3,rfl,rfl⟩
  dsimp only[restW]
  (simp only[s_ret,qE_var,gS,gZ,v_some])
  exact hq D hD
 ·rintro as b bs ρ H' K e ⟨x2,x3,rfl,rfl⟩ hK
  refine⟨_,rfl,?_⟩
  dsimp only[bodyW]
  (simp only[sS,sZ,sf_setIt,qE_var,gS,gZ,v_some])
  rw[set_D (Hp.set_self _ _ _)]
  refine⟨by rw[List.length_map,lim_eq];rw[e,List.length_append] at hl;exact lB [] [_,_] (.n 0) (.c 16777216) [.L (.a (.n 0) (.n 1)) (.c 1000)] [1,1] rfl hl,?_⟩
  have hm:b.1∉as.map (·.1):=fun hm=>by
   rw[e,List.map_append,List.nodup_append] at hn
   exact hn.2.2 _ hm _ (.head _) rfl
  rw[dset_new (by rw[keys_kvI];exact hm),Hp.set_set]
  exact hK _ _ ⟨_,_,rfl,by rw[List.map_append];rfl⟩
theorem pairs_is (h5:defs "pairs_of" = some f_pairs_of) {p:Addr}{ps:PL} (hp:H p=some (.dict (ps.map kvI))) (hl:ps.length≤63) (hn:(ps.map (·.1)).Nodup) (hs:SrtP ps)
  (hq:∀a H',Ext H H'→H a=none→H' a=some (.list (lv ps))→Q (.ref a) H'):callN defs anc (n+1) "pairs_of" [.ref p] Q X H :=
 pairs_of_spec h5 hp hl hn fun qs a H' g1 g2 hE ha hb=>hq a H' hE ha (by rw[←sorted_one g1 g2 hs hn];exact hb)
theorem intsIt (vs:List Int):(vs.map V.int).map It.v=vs.map fun v=>It.v (.int v):=by rw[List.map_map];rfl
theorem putCode_go {ps:PL}{as:List Int}:∀ {bs:List Int}{done:List Int},putCode ps (as++bs) done=if putCode ps as done = "" then putCode ps bs (done++as) else putCode ps as done:=by
 induction as with
 | nil=>intro bs done;rw[List.nil_append,List.append_nil];rfl
 | cons v as ih =>
  intro bs done
  show (if faultAt ps done v = "" then putCode ps (as++bs) (done++[v]) else faultAt ps done v)=if (if faultAt ps done v = "" then putCode ps as (done++[v]) else faultAt ps done v) = "" then _ else (if faultAt ps done v = "" then putCode ps as (done++[v]) else faultAt ps done v)
  by_cases h:faultAt ps done v = ""
  ·rw[if_pos h,if_pos h,ih,List.append_assoc];rfl
  ·rw[if_neg h,if_neg h,if_neg h]
theorem putCode_fault {ps:PL}{as bs:List Int}{v:Int} (h:putCode ps as [] = "") (hf:faultAt ps as v ≠ ""):putCode ps (as++v :: bs) []=faultAt ps as v:=by
 rw[putCode_go,if_pos h]
 exact if_neg hf
theorem putCode_next {ps:PL}{as:List Int}{v:Int} (h:putCode ps as [] = "") (hf:faultAt ps as v = ""):putCode ps (as++[v]) [] = "" := by
 rw[putCode_go,if_pos h]
 exact if_pos hf
theorem put_in_spec (h1:defs "counts_of" = some f_counts_of) (h2:defs "pairs_of" = some f_pairs_of) (h5:defs "put_in" = some f_put_in) {p q:Addr}{ps:PL}{vs:List Int} (hp:H p=some (.list (lv ps))) (hv:H q=some (.list (vs.map V.int))) (hl:ps.length≤60) (hn:(ps.map (·.1)).Nodup) (hs:SrtP ps)
  (hX:∀H',putCode ps vs [] ≠ "" → Ext H H'→X (putCode ps vs []) H') (hq:putCode ps vs [] = "" → ∀a H',Ext H H'→H a=none→H' a=some (.list (lv (fullP ps vs)))→Q (.ref a) H') :
  callN defs anc (n+2) "put_in" [.ref p,.ref q] Q X H:=by
 refine call_of h5 rfl ?_
 simp only[f_put_in]
 (simp only[List.map_cons,List.map_nil,List.length_cons,List.length_nil,Nat.reduceAdd,Nat.reduceSub,List.replicate,List.cons_append,List.nil_append,sf_asg,sS,sZ,qE_call,qEs_cons,qEs_nil,qE_var,gZ,v_some,true_and])
 refine counts_is h1 hp (by exact lA [] [_] (.n 0) (.c 1000) [.L (.n 0) (.c 60)] [1,1] rfl hl) hn fun D hD=>?_
 dsimp only[restW]
 refine for_cons ⟨rfl,?_⟩
 (simp only[sr_ex,qE_var,gS,gZ,v_some])
 have hvD:∀o,(H.set D o) q=some (.list (vs.map V.int)):=fun o=>Ext.new o hD _ _ hv
 refine src_of (hvD _) ?_
 rw[intsIt]
 refine forGo_map (I:=fun as ρ H'=>∃x3,ρ=[some (.ref p),some (.ref q),some (.ref D),x3]∧H'=H.set D (.dict ((fullP ps as).map kvI))∧putCode ps as [] = "") ?_ ?_ ?_ ⟨_,rfl,by rw[fullP_nil],rfl⟩
 ·rintro as ρ H' ⟨x3,rfl,rfl,_⟩;exact okH_one (hvD _)
 ·rintro ρ H' ⟨x3,rfl,rfl,hc⟩
  dsimp only[restW]
  (simp only[s_ret,qE_call,qEs_cons,qEs_nil,qE_var,gS,gZ,v_some,true_and])
  refine pairs_is h2 (Hp.set_self _ _ _) (by rw[fullP_length];exact lA [] [_] (.n 0) (.c 63) [.L (.n 0) (.c 60)] [1,1] rfl hl) (by rw[fullP_keys];exact hn) (by show ((fullP ps vs).map (·.1)).Pairwise _;rw[fullP_keys];exact hs) fun a H' hE ha hb=>?_
  exact hq hc a H' ((Ext.new _ hD).trans hE) ((Ext.new _ hD).no ha) hb
 ·rintro as v bs ρ H' K e ⟨x3,rfl,rfl,hc⟩ hK
  refine⟨_,rfl,?_⟩
  dsimp only[bodyW]
  (simp only[sS,sZ,sf_ife,app_cons,app_nil,qE_cmp,asB_bool,qE_var,gS,gZ,v_some])
  rw[c_notInD (Hp.set_self _ _ _),dget_lk,lk_full]
  have fault:faultAt ps as v ≠ "" → X (faultAt ps as v) (H.set D (.dict ((fullP ps as).map kvI))):=fun hf=>by
   have:=hX (H.set D (.dict ((fullP ps as).map kvI)))
   rw[e,putCode_fault hc hf] at this
   exact this hf (Ext.new _ hD)
  cases hk:lk v ps with
  | none =>
   refine iteT ?_
   dsimp only[restW]
   (simp only[s_raise,true_and])
   have ef:faultAt ps as v = "NoKind" := by rw[faultAt,hk]
   rw[ef] at fault
   exact fault (by decide)
  | some c =>
   refine iteF ?_
   have hg:dget v ((fullP ps as).map kvI)=some (.int (c+(as.count v:Int))):=by rw[dget_lk,lk_full,hk];rfl
   have ef:faultAt ps as v=if c+(as.count v:Int)=MC then "NoCount" else "" := by rw[faultAt,hk]
   dsimp only[restW]
   (simp only[sf_ife,app_cons,app_nil,qE_cmp,asB_bool,qE_glob,qE_idx,qE_var,gS,gZ,v_some])
   rw[i_dict (Hp.set_self _ _ _)]
   refine⟨_,hg,?_⟩
   (simp only[c_eqI,decide_eq_true_eq])
   by_cases h:c+(as.count v:Int)=MC
   ·rw[if_pos h] at ef
    refine iteP h ?_
    dsimp only[restW]
    (simp only[s_raise,true_and])
    rw[ef] at fault
    exact fault (by decide)
   ·rw[if_neg h] at ef
    refine iteN h ?_
    dsimp only[restW]
    (simp only[sf_setIt,qE_var,gS,gZ,v_some,qE_bin,qE_int,qE_idx])
    rw[i_dict (Hp.set_self _ _ _)]
    refine⟨_,hg,?_⟩
    (simp only[b_add])
    rw[set_D (Hp.set_self _ _ _)]
    refine⟨by rw[List.length_map,fullP_length,lim_eq];exact lB [] [_] (.n 0) (.c 16777216) [.L (.n 0) (.c 60)] [1,1] rfl hl,?_⟩
    rw[dset_setP,setP_full hn hk,Hp.set_set]
    dsimp only[restW]
    (simp only[s_nil])
    exact hK _ _ ⟨_,rfl,rfl,putCode_next hc ef⟩
end
noncomputable def givenOf (l:PL) (v:Int):Int:=((l.filter fun e=>decide (e.1=v)).map (·.2)).sum
theorem givenOf_add (l:PL) (b:Int×Int) (v:Int):givenOf (l++[b]) v=if b.1=v then givenOf l v+b.2 else givenOf l v:=by
 rw[givenOf,List.filter_append,List.map_append,List.sum_append]
 show givenOf l v+_=_
 by_cases e:b.1=v
 ·rw[if_pos e,List.filter_cons,if_pos (by simpa using e)]
  exact congrArg (_ + ·) (Int.add_zero b.2)
 ·rw[if_neg e,List.filter_cons,if_neg (by simpa using e)]
  exact Int.add_zero _
noncomputable def takenP (ps l:PL):PL:=ps.map fun p=>(p.1,p.2-givenOf l p.1)
theorem takenP_nil (ps:PL):takenP ps []=ps:=by
 have:(fun p:Int×Int=>(p.1,p.2-givenOf [] p.1))=id:=by funext p;exact Prod.ext rfl (Int.sub_zero _)
 rw[takenP,this,List.map_id]
theorem takenP_keys (ps l:PL):(takenP ps l).map (·.1)=ps.map (·.1):=by rw[takenP,List.map_map];rfl
theorem takenP_length (ps l:PL):(takenP ps l).length=ps.length:=List.length_map ..
theorem lk_taken (v:Int) (ps l:PL):lk v (takenP ps l)=(lk v ps).map (· - givenOf l v):=by
 induction ps with
 | nil=>rfl
 | cons p ps ih =>
  show (if p.1=v then some (p.2-givenOf l p.1) else lk v (takenP ps l))=(if p.1=v then some p.2 else lk v ps).map (· - givenOf l v)
  by_cases e:p.1=v
  ·rw[if_pos e,if_pos e,e];rfl
  ·rw[if_neg e,if_neg e];exact ih
theorem setP_taken {c:Int}{ps l:PL}{b:Int×Int} (hn:(ps.map (·.1)).Nodup) (h:lk b.1 ps=some c):setP b.1 (c-givenOf l b.1-b.2) (takenP ps l)=takenP ps (l++[b]):=by
 rw[setP_old (by rw[takenP_keys];exact hn) (by rw[takenP_keys];exact lk_key h),takenP,takenP,List.map_map]
 refine List.map_congr_left fun p hp=>?_
 show (if p.1=b.1 then (b.1,c-givenOf l b.1-b.2) else (p.1,p.2-givenOf l p.1))=(p.1,p.2-givenOf (l++[b]) p.1)
 rw[givenOf_add]
 by_cases e:p.1=b.1
 ·have:p.2=c:=by
   have:=lk_mem hn (show (b.1,p.2)∈ps by rw[←e];exact hp)
   exact Option.some.inj (this.symm.trans h)
  rw[if_pos e,if_pos e.symm,e,this,Int.sub_sub]
 ·rw[if_neg e,if_neg (fun z=>e z.symm)]
theorem intsOf_int (vs:List Int):intsOf (vs.map V.int)=some vs:=by
 have:=intsOf_map (fun v:Int=>v) vs
 rwa [List.map_id'] at this
theorem full_cnt {ps:PL}{bs:List Int}:∀ {as:List Int},(∀q∈fullP ps as,0≤q.2∧q.2≤MC)→(ps.map (·.1)).Nodup→putCode ps bs as = "" → ∀q∈fullP ps (as++bs),0≤q.2∧q.2≤MC:=by
 induction bs with
 | nil=>intro as h _ _;rw[List.append_nil];exact h
 | cons v bs ih =>
  intro as h hn e
  have e:(if faultAt ps as v = "" then putCode ps bs (as++[v]) else faultAt ps as v) = "" := e
  by_cases hf:faultAt ps as v = ""
  ·rw[if_pos hf] at e
   rw[show as++v :: bs=as++[v]++bs by rw[List.append_assoc];rfl]
   refine ih (fun q hq=>?_) hn e
   obtain⟨p,hp,rfl⟩:=List.mem_map.mp hq
   have h1:=h _ (List.mem_map.mpr ⟨p,hp,rfl⟩)
   show 0≤p.2+((as++[v]).count p.1:Int)∧p.2+((as++[v]).count p.1:Int)≤MC
   have h2:0≤p.2+(as.count p.1:Int)∧p.2+(as.count p.1:Int)≤MC:=h1
   rw[List.count_append]
   by_cases ev:p.1=v
   ·have hl:=lk_mem hn (show (v,p.2)∈ps by rw[←ev];exact hp)
    rw[faultAt,hl] at hf
    have hf:(if p.2+(as.count v:Int)=MC then "NoCount" else "") = "" := hf
    have hne:¬p.2+(as.count v:Int)=MC:=fun z=>by rw[if_pos z] at hf;exact absurd hf (by decide)
    rw[←ev] at hne
    rw[ev,List.count_singleton_self,←ev]
    omega
   ·rw[List.count_singleton,if_neg (by simpa using fun z=>ev z.symm),Nat.add_zero]
    exact h2
  ·rw[if_neg hf] at e;exact absurd e hf
noncomputable def dueX (ps:PL) (price:Int) (vs:List Int):String :=
 if ¬(0≤price∧price≤1000) then "NoSum" else if 60<vs.length then "NoCount" else if putCode ps vs [] ≠ "" then putCode ps vs [] else if vs.sum<price then "TooLittle" else if ¬(0≤vs.sum-price∧vs.sum-price≤1000) then "NoSum" else ""
structure Def8 (defs:String→Option Fn):Prop extends Def6 defs where
 hco:defs "counts_of" = some f_counts_of
 hpa:defs "pairs_of" = some f_pairs_of
 hpu:defs "put_in" = some f_put_in
 hta:defs "taken_out" = some f_taken_out
 hpd:defs "paid" = some f_paid
section
variable {defs:String→Option Fn}{anc:String→List String}{n:Nat}{Q:V→Hp→Prop}{X:String→Hp→Prop}{H:Hp}
theorem taken_out_spec (D:Def8 defs) {p q:Addr}{ps l:PL} (hp:H p=some (.list (lv ps))) (hv:H q=some (.list (lv l))) (hl:ps.length≤60) (hn:(ps.map (·.1)).Nodup) (hs:SrtP ps) (C:Chg l ps)
  (hq:∀a H',Ext H H'→H a=none→H' a=some (.list (lv (takenP ps l)))→Q (.ref a) H') :
  callN defs anc (n+2) "taken_out" [.ref p,.ref q] Q X H:=by
 refine call_of D.hta rfl ?_
 simp only[f_taken_out]
 (simp only[List.map_cons,List.map_nil,List.length_cons,List.length_nil,Nat.reduceAdd,Nat.reduceSub,List.replicate,List.cons_append,List.nil_append,sf_asg,sS,sZ,qE_call,qEs_cons,qEs_nil,qE_var,gZ,v_some,true_and])
 refine counts_is D.hco hp (by exact lA [] [_] (.n 0) (.c 1000) [.L (.n 0) (.c 60)] [1,1] rfl hl) hn fun D' hD=>?_
 dsimp only[restW]
 refine for_cons ⟨rfl,?_⟩
 (simp only[sr_ex,qE_var,gS,gZ,v_some])
 have hvD:∀o,(H.set D' o) q=some (.list (lv l)):=fun o=>Ext.new o hD _ _ hv
 refine src_of (hvD _) ?_
 rw[lvIt]
 refine forGo_map (I:=fun as ρ H'=>∃x3 x4,ρ=[some (.ref p),some (.ref q),some (.ref D'),x3,x4]∧H'=H.set D' (.dict ((takenP ps as).map kvI))) ?_ ?_ ?_ ⟨_,_,rfl,by rw[takenP_nil]⟩
 ·rintro as ρ H' ⟨x3,x4,rfl,rfl⟩;exact okH_one (hvD _)
 ·rintro ρ H' ⟨x3,x4,rfl,rfl⟩
  dsimp only[restW]
  (simp only[s_ret,qE_call,qEs_cons,qEs_nil,qE_var,gS,gZ,v_some,true_and])
  refine pairs_is D.hpa (Hp.set_self _ _ _) (by rw[takenP_length];exact lA [] [_] (.n 0) (.c 63) [.L (.n 0) (.c 60)] [1,1] rfl hl) (by rw[takenP_keys];exact hn) (by show ((takenP ps l).map (·.1)).Pairwise _;rw[takenP_keys];exact hs) fun a H' hE ha hb=>?_
  exact hq a H' ((Ext.new _ hD).trans hE) ((Ext.new _ hD).no ha) hb
 ·rintro as b bs ρ H' K e ⟨x3,x4,rfl,rfl⟩ hK
  refine⟨_,rfl,?_⟩
  obtain⟨_,z,hz,e1,_⟩:=C.mem b (by rw[e];exact List.mem_append.mpr (.inr (.head _)))
  have hk:lk b.1 ps=some z.2:=lk_mem hn (by rw[←e1];exact hz)
  have hg:dget b.1 ((takenP ps as).map kvI)=some (.int (z.2-givenOf as b.1)):=by rw[dget_lk,lk_taken,hk];rfl
  dsimp only[bodyW]
  (simp only[sS,sZ,sf_setIt,qE_var,gS,gZ,v_some,qE_bin,qE_idx])
  rw[i_dict (Hp.set_self _ _ _)]
  refine⟨_,hg,?_⟩
  (simp only[b_sub])
  rw[set_D (Hp.set_self _ _ _)]
  refine⟨by rw[List.length_map,takenP_length,lim_eq];exact lB [] [_] (.n 0) (.c 16777216) [.L (.n 0) (.c 60)] [1,1] rfl hl,?_⟩
  rw[dset_setP,setP_taken hn hk,Hp.set_set]
  dsimp only[restW]
  (simp only[s_nil])
  exact hK _ _ ⟨_,_,rfl,rfl⟩
theorem paid_spec (D:Def8 defs) {p q:Addr}{ps:PL}{vs:List Int}{price:Int} (G:Till ps) (hp:H p=some (.list (lv ps))) (hv:H q=some (.list (vs.map V.int)))
  (hX:dueX ps price vs ≠ "" → ∀H',Ext H H'→X (dueX ps price vs) H')
  (hN:dueX ps price vs = "" → ∀H',Ext H H'→FewIs (vs.sum-price).toNat (fullP ps vs) none→X "NoChange" H')
  (hq:dueX ps price vs = "" → ∀x l a b H',Ext H H'→ChangeIs (vs.sum-price).toNat (fullP ps vs) x l→l.length≤100→H a=none→H b=none→a≠b→H' a=some (.list (lv (takenP (fullP ps vs) l)))→H' b=some (.list (lv l))→Q (.tup [.ref a,.ref b]) H') :
  callN defs anc (n+5) "paid" [.ref p,.int price,.ref q] Q X H:=by
 have hl:=G.len
 refine call_of D.hpd rfl ?_
 simp only[f_paid]
 (simp only[List.map_cons,List.map_nil,List.length_cons,List.length_nil,Nat.reduceAdd,Nat.reduceSub,List.replicate,List.cons_append,List.nil_append,sf_ex,qE_call,qEs_cons,qEs_nil,qE_var,gS,gZ,v_some,true_and])
 refine need_sum_spec D.h0 (fun h1=>?_) fun h1=>?_
 rotate_left
 ·have e:dueX ps price vs = "NoSum" := if_pos h1
  rw[e] at hX
  exact hX (by decide) H (.refl _)
 dsimp only[restW]
 (simp only[sf_ife,app_cons,app_nil,qE_cmp,asB_bool,qE_glob,qE_bc,qEs_cons,qEs_nil,qE_var,gS,gZ,v_some,true_and])
 rw[f_lenL hv,List.length_map]
 (simp only[c_gt,decide_eq_true_eq])
 have e1:dueX ps price vs=if 60<vs.length then "NoCount" else if putCode ps vs [] ≠ "" then putCode ps vs [] else if vs.sum<price then "TooLittle" else if ¬(0≤vs.sum-price∧vs.sum-price≤1000) then "NoSum" else "" := if_neg (fun z=>z h1)
 by_cases h2:60<vs.length
 ·refine iteP (by exact lb [] [_] (.c 60) (.t (.n 0)) [.B (.c 60) (.n 0)] [1,1] rfl h2) ?_
  dsimp only[restW]
  (simp only[s_raise,true_and])
  rw[e1,if_pos h2] at hX
  exact hX (by decide) H (.refl _)
 refine iteN (by exact lf [] [_] [.L (.n 0) (.c 60),.b (.c 60) (.t (.n 0))] [1,1] rfl (Nat.not_lt.mp h2)) ?_
 rw[if_neg h2] at e1
 dsimp only[restW]
 (simp only[sf_asg,sS,sZ,qE_call,qEs_cons,qEs_nil,qE_var,gS,gZ,v_some,true_and])
 refine put_in_spec D.hco D.hpa D.hpu hp hv (by exact lA [] [_] (.n 0) (.c 60) [.L (.n 0) (.c 10)] [1,1] rfl hl) G.nodup G.srt (fun H' h3 hE=>?_) fun h3 f H₁ hE1 hf0 hf=>?_
 ·rw[e1,if_pos h3] at hX
  exact hX h3 H' hE
 rw[if_neg (fun z=>z h3)] at e1
 have hv1:=hE1 _ _ hv
 dsimp only[restW]
 (simp only[sf_asg,sS,sZ,qE_bin,qE_var,gS,gZ,v_some,qE_bc,qEs_cons,qEs_nil,true_and])
 rw[f_sum hv1 (intsOf_int vs)]
 (simp only[b_sub])
 dsimp only[restW]
 (simp only[sf_ife,app_cons,app_nil,qE_cmp,asB_bool,qE_int,qE_var,gS,gZ,v_some,c_lt,decide_eq_true_eq])
 by_cases h4:vs.sum<price
 ·refine iteP (by exact lb [_,_] [] (.s (.v 0) (.v 1)) (.c 0) [.b (.v 0) (.v 1)] [1,1] rfl h4) ?_
  dsimp only[restW]
  (simp only[s_raise,true_and])
  rw[e1,if_pos h4] at hX
  exact hX (by decide) H₁ hE1
 refine iteN (by exact lf [_,_] [] [.l (.v 0) (.v 1),.b (.s (.v 1) (.v 0)) (.c 0)] [1,1] rfl (Int.not_lt.mp h4)) ?_
 rw[if_neg h4] at e1
 dsimp only[restW]
 (simp only[sf_ex,qE_call,qEs_cons,qEs_nil,qE_var,gS,gZ,v_some,true_and])
 refine need_sum_spec D.h0 (fun h5=>?_) fun h5=>?_
 rotate_left
 ·rw[e1,if_pos h5] at hX
  exact hX (by decide) H₁ hE1
 rw[if_neg (fun z=>z h5)] at e1
 have hcnt:∀q∈fullP ps vs,0≤q.2∧q.2≤1000000000:=full_cnt (as:=[]) (by rw[fullP_nil];exact G.cnt) G.nodup h3
 have hval:∀q∈fullP ps vs,1≤q.1∧q.1≤1000:=fun q hq=>by
  obtain⟨p,hp,rfl⟩:=List.mem_map.mp hq
  exact G.val p hp
 have hnod:((fullP ps vs).map (·.1)).Nodup:=by rw[fullP_keys];exact G.nodup
 have hsrt:SrtP (fullP ps vs):=by show ((fullP ps vs).map (·.1)).Pairwise _;rw[fullP_keys];exact G.srt
 have hfl:(fullP ps vs).length≤60:=by rw[fullP_length];exact lA [] [_] (.n 0) (.c 60) [.L (.n 0) (.c 10)] [1,1] rfl hl
 dsimp only[restW]
 (simp only[sf_asg,sS,sZ,qE_call,qEs_cons,qEs_nil,qE_var,gS,gZ,v_some,true_and])
 refine fewest_is D.toDef6 ⟨hf,by exact lA [] [_] (.n 0) (.c 100) [.L (.n 0) (.c 60)] [1,1] rfl hfl,hval,hcnt⟩ (fun h=>absurd h5 h) (fun ξ H' hE z=>hN e1 H' (hE1.trans hE) z) fun ξ x l b H₂ hE2 c hll hb0 hb=>?_
 have hchg:Chg l (fullP ps vs):=by
  obtain⟨tr',T',hx',P'⟩:=c
  have:=(P'.chg (srt_lt hsrt hnod) hval hcnt).1
  rwa [List.take_length] at this
 dsimp only[restW]
 (simp only[s_ret,qE_tup,qEs_cons,List.length_cons,qEs_nil,List.length_nil,Nat.reduceAdd,qE_var,gS,gZ,v_some,qE_call,true_and])
 refine taken_out_spec D (hE2 _ _ hf) hb hfl hnod hsrt hchg fun a H₃ hE3 ha0 ha=>?_
 skip
 have hE12:=hE1.trans hE2
 exact⟨Nat.le_of_ble_eq_true rfl,hq e1 x l a b H₃ (hE12.trans hE3) c hll (hE12.no ha0) (hE1.no hb0) (Ne.symm (ne_new hb ha0)) ha (hE3 _ _ hb)⟩
end
end Mine
end

section
namespace Mine
end Mine
end

section
namespace Mine
noncomputable def f_worth:Fn:=⟨1,1,["till", "value", "count"],
 (.cons (.ret (.bc .sum (.cons (.comp (.bin .mul (.var 1) (.var 2)) (.two 1 2) (.ex (.var 0))) .nil)))
 .nil)⟩
noncomputable def f_need_purse:Fn:=⟨2,5,["till", "purse", "counts", "value", "count"],
 (.cons (.asg 2 (.call "counts_of" (.cons (.var 0) .nil)))
 (.cons (.for (.two 3 4) (.ex (.var 1)) (.cons (.ife (.cmp .notIn (.var 3) (.var 2)) (.cons (.raise "NoKind" "the till has no such kind")
   .nil) .nil)
  .nil))
 (.cons (.ife (.cmp .gt (.bin .add (.call "worth" (.cons (.var 0) .nil)) (.call "worth" (.cons (.var 1) .nil))) (.glob "MOST_WORTH" 1500)) (.cons (.raise "NoSum" "both are worth too much")
  .nil) .nil)
 .nil)))⟩
noncomputable def f_lesser:Fn:=⟨2,2,["one", "other"],
 (.cons (.ife (.cmp .is (.var 0) .none) (.cons (.ret (.var 1))
  .nil) .nil)
 (.cons (.ife (.cmp .is (.var 1) .none) (.cons (.ret (.var 0))
  .nil) .nil)
 (.cons (.ret (.bc .min2 (.cons (.var 0) (.cons (.var 1) .nil))))
 .nil)))⟩
noncomputable def f_both_ways:Fn:=⟨4,6,["ahead", "value", "back", "pay", "more", "less", "one", "other"],
 (.cons (.asg 4 (.call "row_with" (.cons (.var 0) (.cons (.var 1) (.cons (.var 3) .nil)))))
 (.cons (.asg 5 (.rev (.call "row_with" (.cons (.rev (.var 0)) (.cons (.var 1) (.cons (.var 2) .nil))))))
 (.cons (.ret (.comp (.call "lesser" (.cons (.var 6) (.cons (.var 7) .nil))) (.two 6 7) (.zip (.var 4) (.var 5))))
 .nil)))⟩
noncomputable def f_rows_of:Fn:=⟨2,7,["till", "purse", "low", "counts", "rows", "value", "count", "place"],
 (.cons (.asg 2 (.call "worth" (.cons (.var 0) .nil)))
 (.cons (.asg 3 (.call "counts_of" (.cons (.var 1) .nil)))
 (.cons (.asg 4 (.list (.cons (.bin .add (.bin .add (.comp .none (.one 7) (.range1 (.var 2))) (.list (.cons (.int 0) .nil))) (.comp .none (.one 7) (.range1 (.call "worth" (.cons (.var 1) .nil))))) .nil)))
 (.cons (.for (.two 5 6) (.ex (.var 0)) (.cons (.ex (.mt .append (.var 4) (.cons (.call "both_ways" (.cons (.idx (.var 4) (.neg (.int 1))) (.cons (.var 5) (.cons (.var 6) (.cons (.mt .get (.var 3) (.cons (.var 5) (.cons (.int 0) .nil))) .nil))))) .nil)))
  .nil))
 (.cons (.ret (.var 4))
 .nil)))))⟩
noncomputable def f_scales:Fn:=⟨2,2,["till", "purse"],
 (.cons (.ex (.call "need_purse" (.cons (.var 0) (.cons (.var 1) .nil))))
 (.cons (.ret (.call "rows_of" (.cons (.var 0) (.cons (.var 1) .nil))))
 .nil))⟩
noncomputable def f_law_value_10:Fn:=⟨2,3,["_law_cell", "_law_k", "_law_drawn"],
 (.cons (.asg 2 (.call "_law_mixed" (.cons (.var 0) (.cons (.var 1) .nil))))
 (.cons (.ife (.cmp .eq (.bin .mod (.var 0) (.int 3)) (.int 0)) (.cons (.ret (.idx (.list (.cons (.int 1) (.cons (.int 2) (.cons (.int 5) (.cons (.int 10) (.cons (.int 20) (.cons (.int 50) (.cons (.int 100) (.cons (.int 200) (.cons (.int 500) (.cons (.int 1000) .nil))))))))))) (.bin .mod (.var 2) (.int 10))))
  .nil) .nil)
 (.cons (.ife (.cmp .eq (.bin .mod (.var 0) (.int 3)) (.int 1)) (.cons (.ret (.bin .add (.int 1) (.bin .mod (.var 2) (.int 12))))
  .nil) .nil)
 (.cons (.ret (.bin .add (.int 1) (.bin .mod (.var 2) (.int 60))))
 .nil))))⟩
noncomputable def f_law_till_and_purse:Fn:=⟨2,12,["_law_script", "_law_most", "_law_many", "_law_till", "_law_purse", "_law_seen", "_law_low", "_law_k", "_law_value_here", "_law_drawn", "_law_count", "_law_own_here"],
 (.cons (.asg 2 (.bin .add (.int 1) (.bin .mod (.call "_law_cell_at" (.cons (.var 0) (.cons (.int 0) .nil))) (.var 1))))
 (.cons (.ife (.bop true (.cons (.cmp .gt (.var 1) (.int 3)) (.cons (.cmp .eq (.bin .mod (.bin .fdiv (.call "_law_cell_at" (.cons (.var 0) (.cons (.int 0) .nil))) (.var 1)) (.int 6)) (.int 1)) .nil))) (.cons (.asg 2 (.bin .add (.int 7) (.bin .mod (.bin .fdiv (.bin .fdiv (.call "_law_cell_at" (.cons (.var 0) (.cons (.int 0) .nil))) (.var 1)) (.int 6)) (.int 4))))
  .nil) .nil)
 (.cons (.asg 3 (.list .nil))
 (.cons (.asg 4 (.list .nil))
 (.cons (.asg 5 .dict0)
 (.cons (.asg 6 (.int 0))
 (.cons (.for (.one 7) (.range1 (.var 2)) (.cons (.asg 8 (.call "_law_value" (.cons (.call "_law_cell_at" (.cons (.var 0) (.cons (.int 1) .nil))) (.cons (.bin .add (.var 7) (.int 1)) .nil))))
  (.cons (.whl (.cmp .isIn (.var 8) (.var 5)) (.cons (.asg 8 (.bin .add (.bin .mod (.var 8) (.int 1000)) (.int 1)))
   .nil))
  (.cons (.setIt (.var 5) (.var 8) (.bool true))
  (.cons (.asg 9 (.call "_law_mixed" (.cons (.call "_law_cell_at" (.cons (.var 0) (.cons (.int 2) .nil))) (.cons (.bin .add (.var 7) (.int 1)) .nil))))
  (.cons (.asg 10 (.bin .mod (.bin .fdiv (.var 9) (.int 2)) (.int 4)))
  (.cons (.ife (.cmp .eq (.bin .mod (.var 9) (.int 12)) (.int 1)) (.cons (.asg 10 (.bin .mod (.bin .fdiv (.var 9) (.int 12)) (.int 30)))
   .nil) .nil)
  (.cons (.asg 11 (.bin .mod (.bin .fdiv (.var 9) (.int 360)) (.int 4)))
  (.cons (.ife (.cmp .eq (.bin .mod (.bin .fdiv (.var 9) (.int 7)) (.int 5)) (.int 1)) (.cons (.asg 11 (.bin .mod (.bin .fdiv (.var 9) (.int 360)) (.int 30)))
   .nil) .nil)
  (.cons (.ife (.cmp .gt (.var 2) (.int 6)) (.cons (.asg 10 (.bin .mod (.var 10) (.int 2)))
   (.cons (.asg 11 (.bin .mod (.var 11) (.int 2)))
   .nil)) .nil)
  (.cons (.ife (.cmp .gt (.bin .add (.var 6) (.bin .mul (.var 8) (.bin .add (.var 10) (.var 11)))) (.int 600)) (.cons (.asg 10 (.int 0))
   (.cons (.asg 11 (.int 0))
   .nil)) .nil)
  (.cons (.asg 6 (.bin .add (.var 6) (.bin .mul (.var 8) (.bin .add (.var 10) (.var 11)))))
  (.cons (.ex (.mt .append (.var 3) (.cons (.tup (.cons (.var 8) (.cons (.var 10) .nil))) .nil)))
  (.cons (.ife (.cmp .gt (.bin .mod (.bin .fdiv (.var 9) (.int 1440)) (.int 3)) (.int 0)) (.cons (.ex (.mt .append (.var 4) (.cons (.tup (.cons (.var 8) (.cons (.var 11) .nil))) .nil)))
   .nil) .nil)
  .nil))))))))))))))
 (.cons (.ret (.list (.cons (.bc .sorted (.cons (.var 3) .nil)) (.cons (.bc .sorted (.cons (.var 4) .nil)) .nil))))
 .nil))))))))⟩
noncomputable def f_law_own:Fn:=⟨2,3,["_law_purse", "_law_value_here", "_law_pair"],
 (.cons (.for (.one 2) (.ex (.var 0)) (.cons (.ife (.cmp .eq (.idx (.var 2) (.int 0)) (.var 1)) (.cons (.ret (.idx (.var 2) (.int 1)))
   .nil) .nil)
  .nil))
 (.cons (.ret (.int 0))
 .nil))⟩
noncomputable def f_law_total:Fn:=⟨1,3,["_law_pairs", "_law_total_here", "_law_pair"],
 (.cons (.asg 1 (.int 0))
 (.cons (.for (.one 2) (.ex (.var 0)) (.cons (.asg 1 (.bin .add (.var 1) (.bin .mul (.idx (.var 2) (.int 0)) (.idx (.var 2) (.int 1)))))
  .nil))
 (.cons (.ret (.var 1))
 .nil)))⟩
noncomputable def f_law_lightest:Fn:=⟨4,8,["_law_ahead", "_law_at", "_law_pair", "_law_own_here", "_law_found", "_law_many", "_law_before", "_law_few"],
 (.cons (.asg 4 .none)
 (.cons (.for (.one 5) (.range2 (.bin .sub (.int 0) (.idx (.var 2) (.int 1))) (.bin .add (.var 3) (.int 1))) (.cons (.asg 6 (.bin .sub (.var 1) (.bin .mul (.var 5) (.idx (.var 2) (.int 0)))))
  (.cons (.ife (.bop true (.cons (.cmp .le (.int 0) (.var 6)) (.cons (.cmp .lt (.var 6) (.bc .len (.cons (.var 0) .nil))) (.cons (.cmp .isNot (.idx (.var 0) (.var 6)) .none) .nil)))) (.cons (.asg 7 (.bin .add (.idx (.var 0) (.var 6)) (.bc .abs (.cons (.var 5) .nil))))
   (.cons (.ife (.bop false (.cons (.cmp .is (.var 4) .none) (.cons (.cmp .lt (.var 7) (.var 4)) .nil))) (.cons (.asg 4 (.var 7))
    .nil) .nil)
   .nil)) .nil)
  .nil)))
 (.cons (.ret (.var 4))
 .nil)))⟩
noncomputable def f_law_scaled:Fn:=⟨3,8,["_law_rows", "_law_till", "_law_purse", "_law_low", "_law_size", "_law_k", "_law_own_here", "_law_at"],
 (.cons (.asg 3 (.call "_law_total" (.cons (.var 1) .nil)))
 (.cons (.asg 4 (.bin .add (.bin .add (.var 3) (.call "_law_total" (.cons (.var 2) .nil))) (.int 1)))
 (.cons (.ife (.bop false (.cons (.nt (.isi (.var 0) [.list])) (.cons (.cmp .ne (.bc .len (.cons (.var 0) .nil)) (.bin .add (.bc .len (.cons (.var 1) .nil)) (.int 1))) (.cons (.nt (.call "_law_row" (.cons (.idx (.var 0) (.int 0)) (.cons (.var 4) .nil)))) .nil)))) (.cons (.ret (.bool false))
  .nil) .nil)
 (.cons (.ife (.cmp .ne (.idx (.var 0) (.int 0)) (.bin .add (.bin .add (.bin .mul (.list (.cons .none .nil)) (.var 3)) (.list (.cons (.int 0) .nil))) (.bin .mul (.list (.cons .none .nil)) (.bin .sub (.bin .sub (.var 4) (.var 3)) (.int 1))))) (.cons (.ret (.bool false))
  .nil) .nil)
 (.cons (.for (.one 5) (.range1 (.bc .len (.cons (.var 1) .nil))) (.cons (.ife (.nt (.call "_law_row" (.cons (.idx (.var 0) (.bin .add (.var 5) (.int 1))) (.cons (.var 4) .nil)))) (.cons (.ret (.bool false))
   .nil) .nil)
  (.cons (.asg 6 (.call "_law_own" (.cons (.var 2) (.cons (.idx (.idx (.var 1) (.var 5)) (.int 0)) .nil))))
  (.cons (.for (.one 7) (.range1 (.var 4)) (.cons (.ife (.cmp .ne (.idx (.idx (.var 0) (.bin .add (.var 5) (.int 1))) (.var 7)) (.call "_law_lightest" (.cons (.idx (.var 0) (.var 5)) (.cons (.var 7) (.cons (.idx (.var 1) (.var 5)) (.cons (.var 6) .nil)))))) (.cons (.ret (.bool false))
    .nil) .nil)
   .nil))
  .nil))))
 (.cons (.ret (.bool true))
 .nil))))))⟩
end Mine
end

section
namespace Mine
open PySem (Str Addr)
noncomputable def ab (m:Int):Int:=if m<0 then -m else m
noncomputable def cellZ (r:Row) (i:Int):Option Int:=if 0≤i then (r[i.toNat]?).getD none else none
theorem cellZ_nat {r:Row}{k:Nat}{x:Option Int} (h:r[k]?=some x):cellZ r (k:Int)=x:=by rw[cellZ,if_pos (Int.natCast_nonneg k),Int.toNat_natCast,h];rfl
theorem cellZ_some {r:Row}{i a:Int} (h:cellZ r i=some a):0≤i∧r[i.toNat]?=some (some a):=by
 rw[cellZ] at h
 by_cases q:0≤i
 ·rw[if_pos q] at h
  cases e:r[i.toNat]? with
  | none=>rw[e] at h;cases h
  | some x=>rw[e] at h;exact⟨q,by rw[←h];rfl⟩
 ·rw[if_neg q] at h;cases h
noncomputable def LeastZ (r:Row) (v lo hi p:Int):Option Int→Prop
 | none=>∀m,lo≤m→m≤hi→cellZ r (p-m*v)=none
 | some x=>(∃m a,lo≤m∧m≤hi∧cellZ r (p-m*v)=some a∧x=a+ab m)∧∀m a,lo≤m→m≤hi→cellZ r (p-m*v)=some a→x≤a+ab m
theorem LeastZ.one {r:Row}{v lo hi p:Int}{x y:Option Int} (h:LeastZ r v lo hi p x) (k:LeastZ r v lo hi p y):x=y:=by
 cases x with
 | none=>cases y with
  | none=>rfl
  | some y =>
   obtain⟨⟨m,a,h1,h2,h3,_⟩,_⟩:=k
   have:=h m h1 h2;rw[h3] at this;cases this
 | some x =>
  obtain⟨⟨m,a,h1,h2,h3,e⟩,k1⟩:=h
  cases y with
  | none=>have:=k m h1 h2;rw[h3] at this;cases this
  | some y =>
   obtain⟨⟨m',a',g1,g2,g3,e'⟩,k2⟩:=k
   have:=k1 m' a' g1 g2 g3
   have:=k2 m a h1 h2 h3
   congr 1;omega
theorem ab_nonneg {m:Int} (h:0≤m):ab m=m:=if_neg (Int.not_lt.mpr h)
theorem ab_neg {m:Int} (h:m≤0):ab m=-m:=by
 unfold ab;split
 ·rfl
 ·omega
theorem IsLeast.toZ {r : Row} {v c p : Nat} (hp : p < r.length) : ∀ {x : Option Int}, IsLeast r v c p x → LeastZ r (v : Int) 0 (c : Int) (p : Int) x
  | none, h => fun m m0 m1 => by
    cases e : cellZ r ((p : Int) - m * v) with
    | none => rfl
    | some a =>
      obtain ⟨q, g⟩ := cellZ_some e
      obtain ⟨k, rfl⟩ : ∃ k : Nat, m = k := ⟨m.toNat, by exact lq [_] [_] (.v 0) (.t (.n 0)) [.e (.t (.n 0)) (.v 0), .l (.v 0) (.t (.n 0))] [1, 1, 0] [1, -1, 0] rfl (tnE (a := m) (m0)) (tn0 (a := m))⟩
      have hk : k * v ≤ p := by have : (k : Int) * v ≤ p := by exact la [_] [_] (.v 0) (.t (.n 0)) [.l (.c 0) (.s (.t (.n 0)) (.v 0))] [1, 1] rfl q
                                exact_mod_cast this
      have := h k (by exact lA [] [_, _] (.n 0) (.n 1) [.l (.t (.n 0)) (.t (.n 1))] [1, 1] rfl m1) hk
      rw [show ((p : Int) - (k : Int) * (v : Int)).toNat = p - k * v by rw [← Int.natCast_mul]; exact lQ [] [_, _, _, _] (.n 0) (.n 1) [.e (.t (.n 0)) (.s (.t (.n 2)) (.t (.n 3))), .E (.a (.n 1) (.n 3)) (.n 2)] [1, -1, 1] [1, 1, -1] rfl (tnE (a := (↑p : Int) - (↑(k * v) : Int)) (la [] [_, _] (.c 0) (.s (.t (.n 0)) (.t (.n 1))) [.L (.n 1) (.n 0)] [1, 1] rfl hk)) (nsE (a := p) (b := k * v) (hk)), this] at g
      cases g
  | some x, ⟨⟨m, h1, h2, h3⟩, h⟩ => by
    have e : (p : Int) - (m : Int) * (v : Int) = ((p - m * v : Nat) : Int) := by rw [Int.natCast_sub h2, Int.natCast_mul]
    refine ⟨⟨m, x - m, by exact la [] [_] (.c 0) (.t (.n 0)) [] [1] rfl, by exact la [] [_, _] (.t (.n 0)) (.t (.n 1)) [.L (.n 0) (.n 1)] [1, 1] rfl h1, by rw [e]; exact cellZ_nat h3, by rw [ab_nonneg (by exact la [] [_] (.c 0) (.t (.n 0)) [] [1] rfl)]; exact lq [_] [_] (.v 0) (.a (.s (.v 0) (.t (.n 0))) (.t (.n 0))) [] [1] [1] rfl⟩, fun m' a m0 m1 g => ?_⟩
    obtain ⟨q, g⟩ := cellZ_some g
    obtain ⟨k, rfl⟩ : ∃ k : Nat, m' = k := ⟨m'.toNat, by exact lq [_] [_] (.v 0) (.t (.n 0)) [.e (.t (.n 0)) (.v 0), .l (.v 0) (.t (.n 0))] [1, 1, 0] [1, -1, 0] rfl (tnE (a := m') (m0)) (tn0 (a := m'))⟩
    have hk : k * v ≤ p := by have : (k : Int) * v ≤ p := by exact la [_] [_] (.v 0) (.t (.n 0)) [.l (.c 0) (.s (.t (.n 0)) (.v 0))] [1, 1] rfl q
                              exact_mod_cast this
    rw [show ((p : Int) - (k : Int) * (v : Int)).toNat = p - k * v by rw [← Int.natCast_mul]; exact lQ [] [_, _, _, _] (.n 0) (.n 1) [.e (.t (.n 0)) (.s (.t (.n 2)) (.t (.n 3))), .E (.a (.n 1) (.n 3)) (.n 2)] [1, -1, 1] [1, 1, -1] rfl (tnE (a := (↑p : Int) - (↑(k * v) : Int)) (la [] [_, _] (.c 0) (.s (.t (.n 0)) (.t (.n 1))) [.L (.n 1) (.n 0)] [1, 1] rfl hk)) (nsE (a := p) (b := k * v) (hk))] at g
    have := h k a (by exact lA [] [_, _] (.n 0) (.n 1) [.l (.t (.n 0)) (.t (.n 1))] [1, 1] rfl m1) hk g
    rw [ab_nonneg (by exact m0)]; exact this
theorem Int.natCast_succ_comm (k:Nat):((k+1:Nat):Int)=1+(k:Int):=by rw[Int.natCast_succ,Int.add_comm]
theorem cellZ_rev {r:Row}{i:Int}:cellZ r.reverse i=cellZ r ((r.length:Int)-1-i):=by
 by_cases h0:0≤i
 ·by_cases h1:i<r.length
  ·rw[cellZ,cellZ,if_pos h0,if_pos (by exact la [_] [_] (.c 0) (.s (.s (.t (.n 0)) (.c 1)) (.v 0)) [.b (.v 0) (.t (.n 0))] [1,1] rfl h1),List.getElem?_reverse (by exact lB [_] [_,_] (.n 0) (.n 1) [.b (.v 0) (.t (.n 1)),.e (.t (.n 0)) (.v 0)] [1,1,1] rfl h1 (tnE (a:=i) (h0)))]
   congr 2
   obtain⟨k,rfl⟩:=Int.eq_ofNat_of_zero_le h0
   have hk:k<r.length:=Int.ofNat_lt.mp h1
   rw[Int.toNat_natCast,Int.sub_sub,←Int.natCast_succ_comm k,←Int.natCast_sub hk,Int.toNat_natCast,Nat.sub_sub,Nat.add_comm 1 k]
  ·rw[cellZ,cellZ,if_pos h0,if_neg (by exact lf [_] [_] [.l (.t (.n 0)) (.v 0),.l (.c 0) (.s (.s (.t (.n 0)) (.c 1)) (.v 0))] [1,1] rfl (Int.not_lt.mp h1)),List.getElem?_eq_none (by rw[List.length_reverse];exact lA [_] [_,_] (.n 0) (.n 1) [.l (.t (.n 0)) (.v 0),.l (.v 0) (.t (.n 1))] [1,1,1] rfl (Int.not_lt.mp h1) (tn0 (a:=i)))];rfl
 ·rw[cellZ,cellZ,if_neg h0,if_pos (by exact la [_] [_] (.c 0) (.s (.s (.t (.n 0)) (.c 1)) (.v 0)) [.b (.v 0) (.c 0)] [1,1] rfl (Int.not_le.mp h0)),List.getElem?_eq_none (by exact lA [_] [_,_] (.n 0) (.n 1) [.b (.v 0) (.c 0),.l (.s (.s (.t (.n 0)) (.c 1)) (.v 0)) (.t (.n 1))] [1,1,1] rfl (Int.not_le.mp h0) (tn0 (a:=(↑(List.length r):Int)-1-i)))];rfl
theorem LeastZ.flip {r:Row}{v c p:Int}:∀ {x:Option Int},LeastZ r.reverse v 0 c p x→LeastZ r v (-c) 0 ((r.length:Int)-1-p) x
 | none,h=>fun m m0 m1=>by
  have:=h (-m) (by exact la [_] [] (.c 0) (.g (.v 0)) [.l (.v 0) (.c 0)] [1,1] rfl m1) (by exact la [_,_] [] (.g (.v 0)) (.v 1) [.l (.g (.v 1)) (.v 0)] [1,1] rfl m0)
  rw[cellZ_rev,Int.neg_mul] at this
  rw[←this];congr 1;exact lq [_,_] [_] (.s (.s (.s (.t (.n 0)) (.c 1)) (.v 0)) (.v 1)) (.s (.s (.t (.n 0)) (.c 1)) (.s (.v 0) (.g (.v 1)))) [] [1] [1] rfl
 | some x,⟨⟨m,a,h1,h2,h3,e⟩,h⟩=>by
  refine⟨⟨-m,a,by exact la [_,_] [] (.g (.v 0)) (.g (.v 1)) [.l (.v 1) (.v 0)] [1,1] rfl h2,by exact la [_] [] (.g (.v 0)) (.c 0) [.l (.c 0) (.v 0)] [1,1] rfl h1,?_,by rw[e,ab_nonneg h1,ab_neg (by exact la [_] [] (.g (.v 0)) (.c 0) [.l (.c 0) (.v 0)] [1,1] rfl h1)];exact lq [_,_] [] (.a (.v 0) (.v 1)) (.a (.v 0) (.g (.g (.v 1)))) [] [1] [1] rfl⟩,fun m' b m0 m1 g=>?_⟩
  ·rw[cellZ_rev] at h3;rw[←h3,Int.neg_mul];congr 1;exact lq [_,_] [_] (.s (.s (.s (.t (.n 0)) (.c 1)) (.v 0)) (.g (.v 1))) (.s (.s (.t (.n 0)) (.c 1)) (.s (.v 0) (.v 1))) [] [1] [1] rfl
  ·have:=h (-m') b (by exact la [_] [] (.c 0) (.g (.v 0)) [.l (.v 0) (.c 0)] [1,1] rfl m1) (by exact la [_,_] [] (.g (.v 0)) (.v 1) [.l (.g (.v 1)) (.v 0)] [1,1] rfl m0) (by rw[cellZ_rev,Int.neg_mul,←g];congr 1;exact lq [_,_] [_] (.s (.s (.t (.n 0)) (.c 1)) (.s (.v 0) (.g (.v 1)))) (.s (.s (.s (.t (.n 0)) (.c 1)) (.v 0)) (.v 1)) [] [1] [1] rfl)
   rw[ab_nonneg (by exact la [_] [] (.c 0) (.g (.v 0)) [.l (.v 0) (.c 0)] [1,1] rfl m1)] at this
   rw[ab_neg m1];exact this
noncomputable def lesr:Option Int→Option Int→Option Int
 | none,y=>y
 | some x,none=>some x
 | some x,some y=>some (if y<x then y else x)
theorem LeastZ.join {r:Row}{v lo hi p:Int} (hl:lo≤0) (hh:0≤hi) {x y:Option Int} (h:LeastZ r v 0 hi p x) (k:LeastZ r v lo 0 p y):LeastZ r v lo hi p (lesr x y):=by
 cases x with
 | none=>cases y with
  | none=>exact fun m m0 m1=>(Int.le_total 0 m).elim (fun q=>h m q m1) fun q=>k m m0 q
  | some y =>
   obtain⟨⟨m,a,h1,h2,h3,e⟩,k⟩:=k
   exact⟨⟨m,a,h1,by exact la [_,_] [] (.v 0) (.v 1) [.l (.c 0) (.v 1),.l (.v 0) (.c 0)] [1,1,1] rfl hh h2,h3,e⟩,fun m' b m0 m1 g=>(Int.le_total 0 m').elim (fun q=>by rw[h m' q m1] at g;cases g) fun q=>k m' b m0 q g⟩
 | some x =>
  obtain⟨⟨m,a,h1,h2,h3,e⟩,h⟩:=h
  cases y with
  | none=>exact⟨⟨m,a,by exact la [_,_] [] (.v 0) (.v 1) [.l (.v 0) (.c 0),.l (.c 0) (.v 1)] [1,1,1] rfl hl h1,h2,h3,e⟩,fun m' b m0 m1 g=>(Int.le_total 0 m').elim (fun q=>h m' b q m1 g) fun q=>by rw[k m' m0 q] at g;cases g⟩
  | some y =>
   obtain⟨⟨m',a',g1,g2,g3,e'⟩,k⟩:=k
   have both:∀z b,lo≤z→z≤hi→cellZ r (p-z*v)=some b→x≤b+ab z∨y≤b+ab z:=fun z b z0 z1 g=>(Int.le_total 0 z).elim (fun q=>.inl (h z b q z1 g)) fun q=>.inr (k z b z0 q g)
   show LeastZ r v lo hi p (some (if y<x then y else x))
   by_cases c:y<x
   ·rw[if_pos c]
    exact⟨⟨m',a',g1,by exact la [_,_] [] (.v 0) (.v 1) [.l (.c 0) (.v 1),.l (.v 0) (.c 0)] [1,1,1] rfl hh g2,g3,e'⟩,fun z b z0 z1 g=>(both z b z0 z1 g).elim (fun q=>by exact la [_,_,_,_] [] (.v 0) (.a (.v 1) (.v 2)) [.b (.v 0) (.v 3),.l (.v 3) (.a (.v 1) (.v 2))] [1,1,1] rfl c q) id⟩
   ·rw[if_neg c]
    exact⟨⟨m,a,by exact la [_,_] [] (.v 0) (.v 1) [.l (.v 0) (.c 0),.l (.c 0) (.v 1)] [1,1,1] rfl hl h1,h2,h3,e⟩,fun z b z0 z1 g=>(both z b z0 z1 g).elim id fun q=>by exact la [_,_,_,_] [] (.v 0) (.a (.v 1) (.v 2)) [.l (.v 0) (.v 3),.l (.v 3) (.a (.v 1) (.v 2))] [1,1,1] rfl (Int.not_lt.mp c) q⟩
 /-- a row behind one kind -/
 structure RowZ (r:Row) (v back pay:Int) (r':Row):Prop where
  len:r'.length=r.length
  at_:∀p,p<r.length→∃x,r'[p]?=some x∧LeastZ r v (-back) pay (p:Int) x
theorem RowZ.one {r:Row}{v back pay:Int}{a b:Row} (x:RowZ r v back pay a) (y:RowZ r v back pay b):a=b:=by
 refine List.ext_getElem? fun k=>?_
 rcases Nat.lt_or_ge k r.length with q | q
 ·obtain⟨u,e1,l1⟩:=x.at_ k q
  obtain⟨w,e2,l2⟩:=y.at_ k q
  rw[e1,e2,l1.one l2]
 ·rw[List.getElem?_eq_none (by rw[x.len];exact q),List.getElem?_eq_none (by rw[y.len];exact q)]
noncomputable def zipR (a b:Row):Row:=(a.zip b).map fun e=>lesr e.1 e.2
theorem RowZ.of {r a q:Row}{v back pay:Nat} (h:IsRow r v pay a) (k:IsRow r.reverse v back q):RowZ r (v:Int) (back:Int) (pay:Int) (zipR a q.reverse):=by
 have hl:q.length=r.length:=by rw[k.1,List.length_reverse]
 refine⟨by rw[zipR,List.length_map,List.length_zip,h.1,List.length_reverse,hl,Nat.min_self],fun p hp=>?_⟩
 obtain⟨x,e1,l1⟩:=h.2 p hp
 obtain⟨y,e2,l2⟩:=k.2 (r.length-1-p) (by rw[List.length_reverse];exact lB [] [_,_,_] (.n 0) (.n 1) [.E (.a (.n 2) (.c 1)) (.n 1),.L (.n 0) (.n 2)] [1,1,1] rfl (nsE (a:=List.length r) (b:=1) (lA [] [_,_] (.c 1) (.n 0) [.B (.n 1) (.n 0)] [1,1] rfl hp)) (ns0 (a:=List.length r-1) (b:=p)))
 have e3:q.reverse[p]?=some y:=by rw[List.getElem?_reverse (by exact lB [] [_,_,_] (.n 0) (.n 1) [.E (.n 1) (.n 2),.B (.n 0) (.n 2)] [1,-1,1] rfl hl hp),hl];exact e2
 refine⟨lesr x y,?_,(l1.toZ hp).join (by exact la [] [_] (.g (.t (.n 0))) (.c 0) [] [1] rfl) (by exact la [] [_] (.c 0) (.t (.n 0)) [] [1] rfl) ?_⟩
 ·rw[zipR,List.getElem?_map,List.getElem?_zip_eq_some (z:=(x,y)) |>.mpr ⟨e1,e3⟩];rfl
 ·have:=(l2.toZ (by rw[List.length_reverse];exact lB [] [_,_,_] (.n 0) (.n 1) [.E (.a (.n 2) (.c 1)) (.n 1),.L (.n 0) (.n 2)] [1,1,1] rfl (nsE (a:=List.length r) (b:=1) (lA [] [_,_] (.c 1) (.n 0) [.B (.n 1) (.n 0)] [1,1] rfl hp)) (ns0 (a:=List.length r-1) (b:=p)))).flip
  rw[show ((r.length:Int)-1-((r.length-1-p:Nat):Int))=p by exact lq [] [_,_,_,_] (.s (.s (.t (.n 0)) (.c 1)) (.t (.n 1))) (.t (.n 2)) [.E (.a (.n 1) (.n 2)) (.n 3),.E (.a (.n 3) (.c 1)) (.n 0),.L (.n 3) (.a (.n 1) (.n 2)),.L (.n 0) (.a (.n 3) (.c 1))] [1,1,1,0,0] [1,-1,-1,0,0] rfl (nsE (a:=List.length r-1) (b:=p) (lA [] [_,_,_] (.n 0) (.n 1) [.B (.n 0) (.n 2),.L (.n 2) (.a (.n 1) (.c 1))] [1,1,1] rfl hp (ns1 (a:=List.length r) (b:=1)))) (nsE (a:=List.length r) (b:=1) (lA [] [_,_] (.c 1) (.n 0) [.B (.n 1) (.n 0)] [1,1] rfl hp)) (ns1 (a:=List.length r-1) (b:=p)) (ns1 (a:=List.length r) (b:=1))] at this
  exact this
structure RTab (ps qs:PL) (lo hi:Nat) (tr:List (Addr×Row)):Prop where
 len:tr.length=ps.length+1
 zero:∃a,tr[0]?=some (a,List.replicate lo none++some 0 :: List.replicate hi none)
 step:∀i p,ps[i]?=some p→∃a b,tr[i]?=some a∧tr[i+1]?=some b∧RowZ a.2 p.1 p.2 ((lk p.1 qs).getD 0) b.2
 rows:∀x∈tr,x.2.length=lo+hi+1
theorem RTab.one {ps qs:PL}{lo hi:Nat}{tr tk:List (Addr×Row)} (a:RTab ps qs lo hi tr) (b:RTab ps qs lo hi tk):tr.map (·.2)=tk.map (·.2):=by
 have go:∀k,k<ps.length+1→(tr.map (·.2))[k]?=(tk.map (·.2))[k]?:=by
  intro k
  induction k with
  | zero =>
   intro _
   obtain⟨x,hx⟩:=a.zero
   obtain⟨y,hy⟩:=b.zero
   rw[List.getElem?_map,List.getElem?_map,hx,hy];rfl
  | succ k ih =>
   intro hk
   have ih:=ih (by exact lB [] [_,_] (.n 0) (.a (.n 1) (.c 1)) [.B (.a (.n 0) (.c 1)) (.a (.n 1) (.c 1))] [1,1] rfl hk)
   obtain⟨p,hp⟩:=get_of_lt (l:=ps) (k:=k) (by exact lB [] [_,_] (.n 0) (.n 1) [.B (.a (.n 0) (.c 1)) (.a (.n 1) (.c 1))] [1,1] rfl hk)
   obtain⟨x,y,h1,h2,h3⟩:=a.step k p hp
   obtain⟨x',y',g1,g2,g3⟩:=b.step k p hp
   rw[List.getElem?_map,List.getElem?_map,h1,g1] at ih
   rw[List.getElem?_map,List.getElem?_map,h2,g2]
   have e:x.2=x'.2:=Option.some.inj ih
   rw[e] at h3
   exact congrArg some (h3.one g3)
 refine List.ext_getElem? fun k=>?_
 rcases Nat.lt_or_ge k (ps.length+1) with q | q
 ·exact go k q
 ·rw[List.getElem?_eq_none (by rw[List.length_map,a.len];exact q),List.getElem?_eq_none (by rw[List.length_map,b.len];exact q)]
structure PP (ps:PL):Prop where
 len:ps.length≤60
 nodup:(ps.map (·.1)).Nodup
 val:∀q∈ps,1≤q.1∧q.1≤2000
 cnt:∀q∈ps,0≤q.2∧q.2≤1000000000
theorem worthL_nonneg {ps:PL} (h:∀q∈ps,0≤q.1∧0≤q.2):0≤worthL ps:=by
 induction ps with
 | nil=>exact Int.le_refl _
 | cons p ps ih =>
  have h1:=h p (.head _)
  have:=Int.mul_nonneg h1.1 h1.2
  have:=ih fun q hq=>h q (.tail _ hq)
  show 0≤p.1*p.2+worthL ps
  omega
theorem PP.worth0 {ps:PL} (P:PP ps):0≤worthL ps:=worthL_nonneg fun q h=>⟨by have:=(P.val q h).1;exact la [_] [] (.c 0) (.v 0) [.l (.c 1) (.v 0)] [1,1] rfl this,(P.cnt q h).1⟩
theorem lo_rev (r:Row):(lo r).reverse=lo r.reverse:=(List.map_reverse ..).symm
theorem zip_lo:∀(a b:Row),zipL (lo a) (lo b)=(a.zip b).map fun e=>It.p (ov e.1) (ov e.2)
 | [],_=>by simp [lo,zipL]
 | _ :: _,[]=>by simp [lo,zipL]
 | x :: a,y :: b=>congrArg (It.p (ov x) (ov y) :: ·) (zip_lo a b)
theorem lo_none (n:Nat):(List.range n).map (fun ξ=>V.none)=lo (List.replicate n none):=by rw[lo,List.map_replicate,List.map_const',List.length_range];rfl
theorem lk_range {v:Int}{qs:PL} (h:∀q∈qs,0≤q.2∧q.2≤1000000000):0≤(lk v qs).getD 0∧(lk v qs).getD 0≤1000000000:=by
 cases e:lk v qs with
 | none=>exact⟨by decide,by decide⟩
 | some c=>exact h _ (lk_some e)
section
variable {defs:String→Option Fn}{anc:String→List String}{n:Nat}{Q:V→Hp→Prop}{X:String→Hp→Prop}{H:Hp}
theorem worth_is (h:defs "worth" = some f_worth) {p:Addr}{ps:PL} (P:PP ps) (hp:H p=some (.list (lv ps))) (hq:∀H',Ext H H'→Q (.int (worthL ps)) H') :
  callN defs anc (n+1) "worth" [.ref p] Q X H:=by
 have hl:=P.len
 refine call_of h rfl ?_
 simp only[f_worth]
 (simp only[List.map_cons,List.map_nil,List.length_cons,List.length_nil,Nat.reduceAdd,Nat.reduceSub,List.replicate,List.cons_append,List.nil_append,s_ret,qE_bc,qEs_cons,qEs_nil,qE_comp,qE_bin,qE_var,sr_ex,gZ,v_some,true_and])
 refine src_of hp ?_
 rw[lvIt]
 refine compGo_all _ (fun e=>V.int (e.1*e.2)) (okH_one hp) (by rw[lim_eq];exact lA [] [_] (.n 0) (.c 16777216) [.L (.n 0) (.c 60)] [1,1] rfl hl) ?_ ⟨by rw[List.length_map,lim_eq];exact lA [] [_] (.n 0) (.c 16777216) [.L (.n 0) (.c 60)] [1,1] rfl hl,fun a ha=>?_⟩
 ·intro e he
  refine⟨_,rfl,fun K hK=>?_⟩
  obtain⟨v0,v1⟩:=P.val e he
  (simp only[sS,sZ,gS,gZ,v_some,b_mul])
  exact⟨.inl ⟨by exact lb [_] [] (.c (-18446744073709551616)) (.v 0) [.l (.c 1) (.v 0)] [1,1] rfl v0,by exact lb [_] [] (.v 0) (.c 18446744073709551616) [.l (.v 0) (.c 2000)] [1,1] rfl v1⟩,hK⟩
 ·dsimp only
  rw[f_sum (Hp.set_self _ _ _) (intsOf_map (fun e=>e.1*e.2) ps)]
  exact hq _ (.new _ ha)
theorem lesser_is (h:defs "lesser" = some f_lesser) {x y:Option Int} (hq:Q (ov (lesr x y)) H):callN defs anc (n+1) "lesser" [ov x,ov y] Q X H:=by
 refine call_of h rfl ?_
 simp only[f_lesser]
 (simp only[List.map_cons,List.map_nil,List.length_cons,List.length_nil,Nat.reduceAdd,Nat.sub_self,List.replicate,List.cons_append,List.nil_append,sf_ife,app_cons,app_nil,qE_cmp,asB_bool,qE_none,qE_var,gZ,v_some])
 cases x with
 | none =>
  simp only[ov]
  (simp only[c_isNN])
  refine iteP trivial ?_
  dsimp only[restW]
  (simp only[s_ret,qE_var,gS,gZ,v_some])
  exact hq
 | some x =>
  simp only[ov]
  (simp only[c_isIN])
  refine iteF ?_
  dsimp only[restW]
  (simp only[sf_ife,app_cons,app_nil,qE_cmp,asB_bool,qE_none,qE_var,gS,gZ,v_some])
  cases y with
  | none =>
   simp only[ov]
   (simp only[c_isNN])
   refine iteP trivial ?_
   dsimp only[restW]
   (simp only[s_ret,qE_var,gZ,v_some])
   exact hq
  | some y =>
   simp only[ov]
   (simp only[c_isIN])
   refine iteF ?_
   dsimp only[restW]
   (simp only[s_ret,qE_bc,qEs_cons,qEs_nil,qE_var,gS,gZ,v_some,f_min,true_and])
   exact hq
theorem both_is (h1:defs "fill" = some f_fill) (h2:defs "row_with" = some f_row_with) (h3:defs "lesser" = some f_lesser) (h5:defs "both_ways" = some f_both_ways) {A:Addr}{r:Row}{v back pay:Nat} (hA:H A=some (.list (lo r))) (hL:r.length≤2001) (hv0:1≤v) (hv:v≤2000) (hb:back≤1000000000) (hp:pay≤1000000000)
  (hq:∀r' a H',RowZ r v back pay r'→Ext H H'→H a=none→H' a=some (.list (lo r'))→Q (.ref a) H') :
  callN defs anc (n+3) "both_ways" [.ref A,.int v,.int back,.int pay] Q X H:=by
 refine call_of h5 rfl ?_
 simp only[f_both_ways]
 (simp only[List.map_cons,List.map_nil,List.length_cons,List.length_nil,Nat.reduceAdd,Nat.reduceSub,List.replicate,List.cons_append,List.nil_append,sf_asg,sS,sZ,qE_call,qEs_cons,qEs_nil,qE_var,gS,gZ,v_some,true_and])
 refine row_withB h1 h2 hA hL hv0 hv hp fun a x H₁ I1 hE1 ξ hx=>?_
 dsimp only[restW]
 (simp only[sf_asg,sS,sZ,qE_rev,qE_call,qEs_cons,qEs_nil,qE_var,gS,gZ,v_some,k_ref,true_and])
 refine⟨lo r,hE1 _ _ hA,by rw[List.length_reverse,lo_length,lim_eq];exact lA [] [_] (.n 0) (.c 16777216) [.L (.n 0) (.c 2001)] [1,1] rfl hL,fun R hR=>?_⟩
 rw[lo_rev]
 have hE2:=hE1.trans (Ext.new (.list (lo r.reverse)) hR)
 have hx2:=Ext.new (.list (lo r.reverse)) hR _ _ hx
 refine row_withB h1 h2 (Hp.set_self _ _ _) (by rw[List.length_reverse];exact hL) hv0 hv hb fun q y H₃ I3 hE3 ξ hy=>?_
 have hql:q.length=r.length:=by rw[I3.1,List.length_reverse]
 refine⟨lo q,hy,by rw[List.length_reverse,lo_length,lim_eq];exact lA [] [_,_] (.n 0) (.c 16777216) [.L (.n 1) (.c 2001),.E (.n 0) (.n 1)] [1,1,1] rfl hL hql,fun L hL'=>?_⟩
 rw[lo_rev]
 have hE4:=(hE2.trans hE3).trans (Ext.new (.list (lo q.reverse)) hL')
 have hx4:=Ext.new (.list (lo q.reverse)) hL' _ _ (hE3 _ _ hx2)
 have hy4:=Hp.set_self H₃ L (.list (lo q.reverse))
 generalize H₃.set L (.list (lo q.reverse))=H₄ at hE4 hx4 hy4 ⊢
 dsimp only[restW]
 (simp only[s_ret,qE_comp,qE_call,qEs_cons,qEs_nil,qE_var,true_and,sr_zip,gS,gZ,v_some])
 refine zip_i hx4 hy4 ?_
 rw[zip_lo]
 have hz:(a.zip q.reverse).length≤2001:=by rw[List.length_zip,I1.1];exact Nat.le_trans (Nat.min_le_left ..) hL
 refine compGo_all _ (fun e=>ov (lesr e.1 e.2)) ?_ (by rw[lim_eq];exact lA [] [_] (.n 0) (.c 16777216) [.L (.n 0) (.c 2001)] [1,1] rfl hz) ?_ ⟨by rw[List.length_map,lim_eq];exact lA [] [_] (.n 0) (.c 16777216) [.L (.n 0) (.c 2001)] [1,1] rfl hz,fun d hd=>?_⟩
 ·intro z hz
  simp only[List.mem_cons,List.not_mem_nil,or_false] at hz
  rcases hz with rfl | rfl
  ·exact hx4
  ·exact hy4
 ·intro e he
  refine⟨_,rfl,fun K hK=>?_⟩
  (simp only[sS,sZ,gS,gZ,v_some])
  exact lesser_is h3 hK
 ·refine hq (zipR a q.reverse) d _ (RowZ.of I1 I3) (hE4.trans (.new _ hd)) (hE4.no hd) ?_
  rw[Hp.set_self,zipR,lo,List.map_map];rfl
structure Def10R (defs:String→Option Fn):Prop where
 h1:defs "fill" = some f_fill
 h2:defs "row_with" = some f_row_with
 h3:defs "lesser" = some f_lesser
 h4:defs "both_ways" = some f_both_ways
 h5:defs "worth" = some f_worth
 h6:defs "counts_of" = some f_counts_of
 h7:defs "rows_of" = some f_rows_of
 h8:defs "need_purse" = some f_need_purse
structure Def10 (defs:String→Option Fn):Prop extends Def10R defs where
 h9:defs "scales" = some f_scales
structure RowsAt (H H':Hp) (R:Addr) (tr:List (Addr×Row)):Prop where
 ext:Ext H H'
 new:H R=none
 at_:H' R=some (.list (refs tr))
 inh:InH H' tr
 fresh:∀x∈tr,H x.1=none∧x.1≠R
 nodup:(tr.map (·.1)).Nodup
theorem RowsAt.add {H H' H'':Hp}{R a:Addr}{tr:List (Addr×Row)}{r:Row} (A:RowsAt H H' R tr) (hE:Ext H' H'') (hn:H' a=none) (ha:H'' a=some (.list (lo r))):RowsAt H (H''.set R (.list (refs tr++[.ref a]))) R (tr++[(a,r)]):=by
 have naR:a≠R:=by rintro rfl;rw[A.at_] at hn;cases hn
 refine⟨.setNew _ (A.ext.trans hE) A.new,A.new,by rw[Hp.set_self,refs,refs,List.map_append];rfl,fun x hx=>?_,fun x hx=>?_,?_⟩
 ·rcases List.mem_append.mp hx with z | z
  ·rw[Hp.set_ne _ (A.fresh x z).2];exact hE _ _ (A.inh x z)
  ·rw[List.mem_singleton] at z;subst z;rw[Hp.set_ne _ naR];exact ha
 ·rcases List.mem_append.mp hx with z | z
  ·exact A.fresh x z
  ·rw[List.mem_singleton] at z;subst z;exact⟨A.ext.no hn,naR⟩
 ·rw[List.map_append]
  refine nodup_snoc A.nodup fun z=>?_
  obtain⟨x,hx,ex⟩:=List.mem_map.mp z
  have:=A.inh x hx;rw[ex,hn] at this;cases this
theorem RTab.add {ps qs:PL}{lo hi:Nat}{tr:List (Addr×Row)}{q:Int×Int}{a:Addr}{r:Row}{x:Addr×Row} (T:RTab ps qs lo hi tr) (hx:tr[ps.length]?=some x) (h:RowZ x.2 q.1 q.2 ((lk q.1 qs).getD 0) r):RTab (ps++[q]) qs lo hi (tr++[(a,r)]):=by
 have hl:=T.len
 refine⟨by rw[List.length_append,List.length_append,hl];rfl,?_,fun i y hy=>?_,fun y hy=>?_⟩
 ·obtain⟨z,hz⟩:=T.zero
  exact⟨z,by rw[List.getElem?_append_left (by omega)];exact hz⟩
 ·by_cases q':i<ps.length
  ·rw[List.getElem?_append_left q'] at hy
   obtain⟨u,w,k1,k2,k3⟩:=T.step i y hy
   exact⟨u,w,by rw[List.getElem?_append_left (by exact lB [] [_,_,_] (.n 0) (.n 1) [.E (.n 1) (.a (.n 2) (.c 1)),.B (.n 0) (.n 2)] [1,-1,1] rfl hl q')];exact k1,by rw[List.getElem?_append_left (by exact lB [] [_,_,_] (.a (.n 0) (.c 1)) (.n 1) [.E (.n 1) (.a (.n 2) (.c 1)),.B (.n 0) (.n 2)] [1,-1,1] rfl hl q')];exact k2,k3⟩
  ·have hlt:=lt_of_get hy
   rw[List.length_append,List.length_singleton] at hlt
   have e:i=ps.length:=by exact lQ [] [_,_] (.n 0) (.n 1) [.L (.n 1) (.n 0),.B (.n 0) (.a (.n 1) (.c 1))] [1,1,0] [1,0,1] rfl (Nat.not_lt.mp q') hlt
   subst e
   rw[List.getElem?_append_right (Nat.le_refl _),Nat.sub_self] at hy
   cases hy
   exact⟨x,(a,r),by rw[List.getElem?_append_left (by exact lB [] [_,_] (.n 0) (.n 1) [.E (.n 1) (.a (.n 0) (.c 1))] [1,-1] rfl hl)];exact hx,by rw[List.getElem?_append_right (by exact lA [] [_,_] (.n 0) (.a (.n 1) (.c 1)) [.E (.n 0) (.a (.n 1) (.c 1))] [1,1] rfl hl),hl,Nat.sub_self];rfl,h⟩
 ·rcases List.mem_append.mp hy with z | z
  ·exact T.rows y z
  ·rw[List.mem_singleton] at z;subst z;exact h.len.trans (T.rows x (List.mem_of_getElem? hx))
inductive RowsI (H:Hp) (p q:Addr) (qs:PL) (C R:Addr) (lo hi:Nat) (as:PL) (ρ:Loc) (H':Hp):Prop
 | mk (tr:List (Addr×Row)) (x5 x6:Option V) (e:ρ=[some (.ref p),some (.ref q),some (.int (lo:Int)),some (.ref C),some (.ref R),x5,x6,none]) (hC:H' C=some (.dict (qs.map kvI))) (T:RTab as qs lo hi tr) (A:RowsAt H H' R tr)
theorem rows_is (D:Def10R defs) {p q:Addr}{ps qs:PL} (P:PP ps) (P':PP qs) (hp:H p=some (.list (lv ps))) (hpq:H q=some (.list (lv qs))) (hw:worthL ps+worthL qs≤1500)
  (hq:∀tr R H',RTab ps qs (worthL ps).toNat (worthL qs).toNat tr→RowsAt H H' R tr→Q (.ref R) H') :
  callN defs anc (n+4) "rows_of" [.ref p,.ref q] Q X H:=by
 have hl:=P.len
 have hl':=P'.len
 have w1:=P.worth0
 have w2:=P'.worth0
 refine call_of D.h7 rfl ?_
 simp only[f_rows_of]
 (simp only[List.map_cons,List.map_nil,List.length_cons,List.length_nil,Nat.reduceAdd,Nat.reduceSub,List.replicate,List.cons_append,List.nil_append,sf_asg,sS,sZ,qE_call,qEs_cons,qEs_nil,qE_var,gZ,v_some,true_and])
 refine worth_is D.h5 P hp fun H₁ hE1=>?_
 obtain⟨lw,el⟩:∃k:Nat,worthL ps=k:=⟨(worthL ps).toNat,by exact lq [_] [_] (.v 0) (.t (.n 0)) [.e (.t (.n 0)) (.v 0),.l (.v 0) (.t (.n 0))] [1,1,0] [1,-1,0] rfl (tnE (a:=worthL ps) (w1)) (tn0 (a:=worthL ps))⟩
 obtain⟨hw',eh⟩:∃k:Nat,worthL qs=k:=⟨(worthL qs).toNat,by exact lq [_] [_] (.v 0) (.t (.n 0)) [.e (.t (.n 0)) (.v 0),.l (.v 0) (.t (.n 0))] [1,1,0] [1,-1,0] rfl (tnE (a:=worthL qs) (w2)) (tn0 (a:=worthL qs))⟩
 have hsum:lw+hw'≤1500:=by exact lA [_,_] [_,_] (.a (.n 0) (.n 1)) (.c 1500) [.l (.a (.v 0) (.v 1)) (.c 1500),.e (.v 0) (.t (.n 0)),.e (.v 1) (.t (.n 1))] [1,1,-1,-1] rfl hw el eh
 rw[el] at hq ⊢
 rw[eh,Int.toNat_natCast,Int.toNat_natCast] at hq
 dsimp only[restW]
 (simp only[sf_asg,sS,sZ,qE_call,qEs_cons,qEs_nil,qE_var,gS,gZ,v_some,true_and])
 refine counts_is D.h6 (hE1 _ _ hpq) (by exact lA [] [_] (.n 0) (.c 1000) [.L (.n 0) (.c 60)] [1,1] rfl hl') P'.nodup fun C hC=>?_
 have hE2:=hE1.trans (Ext.new (.dict (qs.map kvI)) hC)
 have gC:=Hp.set_self H₁ C (.dict (qs.map kvI))
 generalize H₁.set C (.dict (qs.map kvI))=H₂ at hE2 gC ⊢
 dsimp only[restW]
 (simp only[sf_asg,sS,sZ,qE_list,qEs_cons,qEs_nil,qE_bin,qE_comp,qE_none,sr_r1,qE_call,qE_var,gS,gZ,v_some,true_and,qE_int,r1_i])
 refine⟨⟨by exact lb [_] [_] (.c (-4611686018427387904)) (.t (.n 0)) [.l (.c 0) (.v 0),.e (.v 0) (.t (.n 0))] [1,1,1] rfl w1 el,by exact lb [_,_] [_] (.t (.n 0)) (.c 4611686018427387904) [.l (.a (.v 0) (.v 1)) (.c 1500),.l (.c 0) (.v 1),.e (.v 0) (.t (.n 0))] [1,1,1,-1] rfl hw w2 el⟩,?_⟩
 rw[Int.toNat_natCast,rangeL_map]
 refine compGo_all _ (fun ξ=>V.none) okH_nil (by rw[List.length_range,lim_eq];exact lA [_,_] [_] (.n 0) (.c 16777216) [.l (.a (.v 0) (.v 1)) (.c 1500),.l (.c 0) (.v 1),.e (.v 0) (.t (.n 0))] [1,1,1,-1] rfl hw w2 el) (fun x ξ=>⟨_,rfl,fun K hK=>hK⟩) ⟨by rw[List.length_map,List.length_range,lim_eq];exact lA [_,_] [_] (.n 0) (.c 16777216) [.l (.a (.v 0) (.v 1)) (.c 1500),.l (.c 0) (.v 1),.e (.v 0) (.t (.n 0))] [1,1,1,-1] rfl hw w2 el,fun a1 ha1=>?_⟩
 rw[lo_none]
 refine⟨Nat.le_of_ble_eq_true rfl,fun a2 ha2=>⟨_,_,Ext.new _ ha2 _ _ (Hp.set_self _ _ _),Hp.set_self _ _ _,by rw[List.length_append,lo_length,List.length_replicate,lim_eq];exact Nat.le_trans (Nat.add_le_add_right (show lw≤1500 by exact lA [_,_] [_] (.n 0) (.c 1500) [.l (.a (.v 0) (.v 1)) (.c 1500),.l (.c 0) (.v 1),.e (.v 0) (.t (.n 0))] [1,1,1,-1] rfl hw w2 el) 1) (by decide),fun a3 ha3=>?_⟩⟩
 have hE3:=((hE2.trans (Ext.new (.list (lo (List.replicate lw none))) ha1)).trans (Ext.new (.list [V.int 0]) ha2)).trans (Ext.new (.list (lo (List.replicate lw none)++[V.int 0])) ha3)
 have gC3:=((Ext.new (.list (lo (List.replicate lw none))) ha1).trans (Ext.new (.list [V.int 0]) ha2)).trans (Ext.new (.list (lo (List.replicate lw none)++[V.int 0])) ha3) _ _ gC
 have g3:=Hp.set_self ((H₂.set a1 (.list (lo (List.replicate lw none)))).set a2 (.list [V.int 0])) a3 (.list (lo (List.replicate lw none)++[V.int 0]))
 generalize ((H₂.set a1 (.list (lo (List.replicate lw none)))).set a2 (.list [V.int 0])).set a3 (.list (lo (List.replicate lw none)++[V.int 0]))=H₃ at hE3 gC3 g3 ⊢
 refine worth_is D.h5 P' (hE3 _ _ hpq) fun H₄ hE4=>?_
 rw[eh]
 (simp only[r1_i])
 refine⟨⟨by exact lb [_] [_] (.c (-4611686018427387904)) (.t (.n 0)) [.l (.c 0) (.v 0),.e (.v 0) (.t (.n 0))] [1,1,1] rfl w2 eh,by exact lb [_,_] [_] (.t (.n 0)) (.c 4611686018427387904) [.l (.a (.v 0) (.v 1)) (.c 1500),.l (.c 0) (.v 0),.e (.v 1) (.t (.n 0))] [1,1,1,-1] rfl hw w1 eh⟩,?_⟩
 rw[Int.toNat_natCast,rangeL_map]
 refine compGo_all _ (fun ξ=>V.none) okH_nil (by rw[List.length_range,lim_eq];exact lA [_,_] [_] (.n 0) (.c 16777216) [.l (.a (.v 0) (.v 1)) (.c 1500),.l (.c 0) (.v 0),.e (.v 1) (.t (.n 0))] [1,1,1,-1] rfl hw w1 eh) (fun x ξ=>⟨_,rfl,fun K hK=>hK⟩) ⟨by rw[List.length_map,List.length_range,lim_eq];exact lA [_,_] [_] (.n 0) (.c 16777216) [.l (.a (.v 0) (.v 1)) (.c 1500),.l (.c 0) (.v 0),.e (.v 1) (.t (.n 0))] [1,1,1,-1] rfl hw w1 eh,fun a4 ha4=>?_⟩
 rw[lo_none]
 have e0:lo (List.replicate lw none)++[V.int 0]++lo (List.replicate hw' none)=lo (List.replicate lw none++some 0 :: List.replicate hw' none):=by rw[lo,lo,lo,List.map_append,List.map_cons,List.append_assoc];rfl
 refine⟨_,_,Ext.new _ ha4 _ _ (hE4 _ _ g3),Hp.set_self _ _ _,?_⟩
 rw[e0]
 refine⟨by rw[lo_length,List.length_append,List.length_cons,List.length_replicate,List.length_replicate,lim_eq];exact lA [_,_] [_,_] (.a (.n 0) (.a (.n 1) (.c 1))) (.c 16777216) [.l (.a (.v 0) (.v 1)) (.c 1500),.e (.v 0) (.t (.n 0)),.e (.v 1) (.t (.n 1))] [1,1,-1,-1] rfl hw el eh,fun a5 ha5=>⟨Nat.le_of_ble_eq_true rfl,fun R hR=>?_⟩⟩
 have hE5:=(hE3.trans hE4).trans (Ext.new (.list (lo (List.replicate hw' none))) ha4)
 have hE6:=hE5.trans (Ext.new (.list (lo (List.replicate lw none++some 0 :: List.replicate hw' none))) ha5)
 have hE7:=hE6.trans (Ext.new (.list [V.ref a5]) hR)
 have gC7:=((hE4.trans (Ext.new (.list (lo (List.replicate hw' none))) ha4)).trans (Ext.new (.list (lo (List.replicate lw none++some 0 :: List.replicate hw' none))) ha5)).trans (Ext.new (.list [V.ref a5]) hR) _ _ gC3
 have n5R:a5≠R:=ne_new (Hp.set_self _ a5 _) hR
 have g5:=Ext.new (.list [V.ref a5]) hR _ _ (Hp.set_self _ a5 (.list (lo (List.replicate lw none++some 0 :: List.replicate hw' none))))
 have gR:=Hp.set_self ((H₄.set a4 (.list (lo (List.replicate hw' none)))).set a5 (.list (lo (List.replicate lw none++some 0 :: List.replicate hw' none)))) R (.list [V.ref a5])
 have h50:=hE5.no ha5
 have hR0:=hE6.no hR
 generalize ((H₄.set a4 (.list (lo (List.replicate hw' none)))).set a5 (.list (lo (List.replicate lw none++some 0 :: List.replicate hw' none)))).set R (.list [V.ref a5])=H₇ at hE7 gC7 g5 gR ⊢
 dsimp only[restW]
 refine for_cons ⟨rfl,?_⟩
 (simp only[sr_ex,qE_var,gZ,v_some])
 refine src_of (hE7 _ _ hp) ?_
 rw[lvIt]
 have one:∀x∈[(a5,List.replicate lw none++some (0:Int) :: List.replicate hw' none)],x=(a5,List.replicate lw none++some (0:Int) :: List.replicate hw' none):=fun x hx=>List.mem_singleton.mp hx
 have hCH:H C=none:=by
  have:=hE1.no hC;exact this
 refine forGo_map (I:=RowsI H p q qs C R lw hw') ?_ ?_ ?_ ⟨[(a5,List.replicate lw none++some 0 :: List.replicate hw' none)],none,none,rfl,gC7,⟨rfl,⟨a5,rfl⟩,(fun i q h=>by cases h),fun x hx=>?_⟩,hE7,hR0,gR,fun x hx=>?_,fun x hx=>?_,?_⟩
 ·rintro as ρ H' ⟨tr,x5,x6,rfl,hC',T,A⟩;exact okH_one (A.ext _ _ hp)
 ·rintro ρ H' ⟨tr,x5,x6,rfl,hC',T,A⟩
  dsimp only[restW]
  (simp only[s_ret,qE_var,gS,gZ,v_some])
  exact hq tr R H' T A
 ·rintro as b bs ρ H' K hl'' ⟨tr,x5,x6,rfl,hC',T,A⟩ hK
  refine⟨_,rfl,?_⟩
  have hb:b∈ps:=by rw[hl''];simp
  have hlas:as.length≤60:=by rw[hl''] at hl;simp at hl;exact lA [] [_,_] (.n 0) (.c 60) [.L (.a (.n 0) (.a (.n 1) (.c 1))) (.c 60)] [1,1] rfl hl
  have hlen:=T.len
  have hlt:as.length<tr.length:=by exact lB [] [_,_] (.n 0) (.n 1) [.E (.n 1) (.a (.n 0) (.c 1))] [1,-1] rfl hlen
  have glast:tr[as.length]?=some tr[as.length]:=List.getElem?_eq_getElem hlt
  have hmem:tr[as.length]∈tr:=List.getElem_mem _
  obtain⟨v0,v1⟩:=P.val b hb
  obtain⟨c0,c1⟩:=P.cnt b hb
  obtain⟨d0,d1⟩:=lk_range (v:=b.1) P'.cnt
  dsimp only[bodyW]
  (simp only[sS,sZ,sf_ex,qE_mt,qEs_cons,qEs_nil,qE_call,qE_int,qE_var,gS,gZ,v_some,qE_idx,qE_neg,k_int,true_and])
  rw[r_L A.at_]
  refine⟨⟨by decide,by decide⟩,?_⟩
  refine i_last A.at_ (x:=tr[as.length]) (by rw[hlen];exact glast) ?_
  rw[r_D hC']
  refine⟨.inl rfl,?_⟩
  rw[m_get hC',dget_lk]
  have eg:((lk b.1 qs).map V.int).getD (V.int 0)=V.int ((lk b.1 qs).getD 0):=by cases lk b.1 qs <;> rfl
  rw[eg]
  obtain⟨v,ev⟩:∃k:Nat,b.1=k:=⟨b.1.toNat,by exact lq [_] [_] (.v 0) (.t (.n 0)) [.e (.t (.n 0)) (.v 0),.l (.v 0) (.t (.n 0))] [1,1,0] [1,-1,0] rfl (tnE (a:=b.fst) (la [_] [] (.c 0) (.v 0) [.l (.c 1) (.v 0)] [1,1] rfl v0)) (tn0 (a:=b.fst))⟩
  obtain⟨c,ec⟩:∃k:Nat,b.2=k:=⟨b.2.toNat,by exact lq [_] [_] (.v 0) (.t (.n 0)) [.e (.t (.n 0)) (.v 0),.l (.v 0) (.t (.n 0))] [1,1,0] [1,-1,0] rfl (tnE (a:=b.snd) (c0)) (tn0 (a:=b.snd))⟩
  obtain⟨d,ed⟩:∃k:Nat,(lk b.1 qs).getD 0=k:=⟨((lk b.1 qs).getD 0).toNat,by exact lq [_] [_] (.v 0) (.t (.n 0)) [.e (.t (.n 0)) (.v 0),.l (.v 0) (.t (.n 0))] [1,1,0] [1,-1,0] rfl (tnE (a:=(lk b.fst qs).getD 0) (d0)) (tn0 (a:=(lk b.fst qs).getD 0))⟩
  have hrow:RowZ tr[as.length].2 b.1 b.2 ((lk b.1 qs).getD 0)=RowZ tr[as.length].2 (v:Int) (c:Int) (d:Int):=by rw[←ev,←ec,←ed]
  rw[ed,ev,ec]
  refine both_is D.h1 D.h2 D.h3 D.h4 (A.inh _ hmem) (by rw[T.rows _ hmem];exact lA [_,_] [_,_] (.a (.a (.n 0) (.n 1)) (.c 1)) (.c 2001) [.l (.a (.v 0) (.v 1)) (.c 1500),.e (.v 0) (.t (.n 0)),.e (.v 1) (.t (.n 1))] [1,1,-1,-1] rfl hw el eh) (by exact lA [_] [_] (.c 1) (.n 0) [.l (.c 1) (.v 0),.e (.v 0) (.t (.n 0))] [1,1,1] rfl v0 ev) (by exact lA [_] [_] (.n 0) (.c 2000) [.l (.v 0) (.c 2000),.e (.v 0) (.t (.n 0))] [1,1,-1] rfl v1 ev) (by exact lA [_] [_] (.n 0) (.c 1000000000) [.l (.v 0) (.c 1000000000),.e (.v 0) (.t (.n 0))] [1,1,-1] rfl c1 ec) (by exact lA [_] [_] (.n 0) (.c 1000000000) [.l (.v 0) (.c 1000000000),.e (.v 0) (.t (.n 0))] [1,1,-1] rfl d1 ed) fun r' a H'' hr hE' hna hea=>?_
  rw[m_append (hE' _ _ A.at_)]
  refine⟨by rw[refs_length,hlen,lim_eq];exact lB [] [_] (.a (.n 0) (.c 1)) (.c 16777216) [.L (.n 0) (.c 60)] [1,1] rfl hlas,?_⟩
  dsimp only[restW]
  (simp only[s_nil])
  have nCR:C≠R:=fun e=>by subst e;rw[A.at_] at hC';cases hC'
  exact hK _ _ ⟨tr++[(a,r')],_,_,rfl,by rw[Hp.set_ne _ nCR];exact hE' _ _ hC',T.add glast (by rw[hrow];exact hr),A.add hE' hna hea⟩
 ·rw[one x hx];simp;exact lQ [] [_,_] (.a (.n 0) (.a (.n 1) (.c 1))) (.a (.a (.n 0) (.n 1)) (.c 1)) [] [1] [1] rfl
 ·rw[one x hx];exact g5
 ·rw[one x hx];exact⟨h50,n5R⟩
 ·simp
noncomputable def Kinds (ps qs:PL):Prop:=∀q∈qs,q.1∈ps.map (·.1)
theorem need_purse_is (D:Def10R defs) {p q:Addr}{ps qs:PL} (P:PP ps) (P':PP qs) (hp:H p=some (.list (lv ps))) (hpq:H q=some (.list (lv qs)))
  (hK:¬Kinds ps qs→∀H',Ext H H'→X "NoKind" H') (hS:Kinds ps qs→1500<worthL ps+worthL qs→∀H',Ext H H'→X "NoSum" H') (hq:Kinds ps qs→worthL ps+worthL qs≤1500→∀H',Ext H H'→Q .none H') :
  callN defs anc (n+2) "need_purse" [.ref p,.ref q] Q X H:=by
 have hl:=P.len
 have hl':=P'.len
 refine call_of D.h8 rfl ?_
 simp only[f_need_purse]
 (simp only[List.map_cons,List.map_nil,List.length_cons,List.length_nil,Nat.reduceAdd,Nat.reduceSub,List.replicate,List.cons_append,List.nil_append,sf_asg,sS,sZ,qE_call,qEs_cons,qEs_nil,qE_var,gZ,v_some,true_and])
 refine counts_is D.h6 hp (by exact lA [] [_] (.n 0) (.c 1000) [.L (.n 0) (.c 60)] [1,1] rfl hl) P.nodup fun C hC=>?_
 have hE1:=Ext.new (.dict (ps.map kvI)) hC
 have gC:=Hp.set_self H C (.dict (ps.map kvI))
 generalize H.set C (.dict (ps.map kvI))=H₁ at hE1 gC ⊢
 dsimp only[restW]
 refine for_cons ⟨rfl,?_⟩
 (simp only[sr_ex,qE_var,gS,gZ,v_some])
 refine src_of (hE1 _ _ hpq) ?_
 rw[lvIt]
 refine forGo_map (I:=fun as ρ H'=>H'=H₁∧(∃x3 x4,ρ=[some (.ref p),some (.ref q),some (.ref C),x3,x4])∧Kinds ps as) ?_ ?_ ?_ ⟨rfl,⟨_,_,rfl⟩,nofun⟩
 ·rintro as ρ H' ⟨rfl,⟨x3,x4,rfl⟩,k⟩;exact okH_one (hE1 _ _ hpq)
 ·rintro ρ H' ⟨rfl,⟨x3,x4,rfl⟩,k⟩
  dsimp only[restW]
  (simp only[sf_ife,app_cons,app_nil,qE_cmp,asB_bool,qE_glob,qE_bin,qE_call,qEs_cons,qEs_nil,qE_var,gS,gZ,v_some,true_and])
  refine worth_is D.h5 P (hE1 _ _ hp) fun H₂ hE2=>?_
  refine worth_is D.h5 P' (hE2 _ _ (hE1 _ _ hpq)) fun H₃ hE3=>?_
  have hE:=(hE1.trans hE2).trans hE3
  (simp only[b_add,c_gt,decide_eq_true_eq])
  refine ite_all (fun h=>?_) fun h=>?_
  ·dsimp only[restW]
   (simp only[s_raise,true_and])
   exact hS k h H₃ hE
  ·dsimp only[restW]
   (simp only[s_nil])
   exact hq k (by exact (Int.not_lt.mp h)) H₃ hE
 ·rintro as b bs ρ H' K hl'' ⟨rfl,⟨x3,x4,rfl⟩,k⟩ hK'
  refine⟨_,rfl,?_⟩
  dsimp only[bodyW]
  (simp only[sS,sZ,sf_ife,app_cons,app_nil,qE_cmp,asB_bool,qE_var,gS,gZ,v_some])
  rw[c_notInD gC,dget_lk]
  cases e:lk b.1 ps with
  | none =>
   refine iteP rfl ?_
   dsimp only[restW]
   (simp only[s_raise,true_and])
   refine hK (fun k=>?_) _ hE1
   exact (lk_none.mp e) (k b (by rw[hl''];simp))
  | some c =>
   refine iteN (fun z=>by cases z) ?_
   dsimp only[restW]
   (simp only[s_nil])
   refine hK' _ _ ⟨rfl,⟨_,_,rfl⟩,fun y hy=>?_⟩
   rcases List.mem_append.mp hy with z | z
   ·exact k y z
   ·rw[List.mem_singleton] at z;subst z;exact lk_key e
theorem scales_is (D:Def10 defs) {p q:Addr}{ps qs:PL} (P:PP ps) (P':PP qs) (hp:H p=some (.list (lv ps))) (hpq:H q=some (.list (lv qs)))
  (hK:¬Kinds ps qs→∀H',Ext H H'→X "NoKind" H') (hS:Kinds ps qs→1500<worthL ps+worthL qs→∀H',Ext H H'→X "NoSum" H')
  (hq:Kinds ps qs→worthL ps+worthL qs≤1500→∀tr R H',RTab ps qs (worthL ps).toNat (worthL qs).toNat tr→RowsAt H H' R tr→Q (.ref R) H') :
  callN defs anc (n+5) "scales" [.ref p,.ref q] Q X H:=by
 refine call_of D.h9 rfl ?_
 simp only[f_scales]
 (simp only[List.map_cons,List.map_nil,List.length_cons,List.length_nil,Nat.reduceAdd,Nat.sub_self,List.replicate,List.cons_append,List.nil_append,sf_ex,qE_call,qEs_cons,qEs_nil,qE_var,gS,gZ,v_some,true_and])
 refine need_purse_is D.toDef10R P P' hp hpq (fun k H' hE=>hK k H' hE) (fun k w H' hE=>hS k w H' hE) fun k w H₁ hE1=>?_
 dsimp only[restW]
 (simp only[s_ret,qE_call,qEs_cons,qEs_nil,qE_var,gS,gZ,v_some,true_and])
 refine rows_is D.toDef10R P P' (hE1 _ _ hp) (hE1 _ _ hpq) w fun tr R H₂ T A=>?_
 exact hq k w tr R H₂ T ⟨hE1.trans A.ext,hE1.no A.new,A.at_,A.inh,fun x hx=>⟨hE1.no (A.fresh x hx).1,(A.fresh x hx).2⟩,A.nodup⟩
end
theorem LeastZ.none0 {r:Row}{v lo p:Int}:LeastZ r v lo (lo-1) p none:=fun m m0 m1=>by omega
theorem LeastZ.skip {r:Row}{v lo m p:Int} (h:cellZ r (p-m*v)=none):∀ {x:Option Int},LeastZ r v lo (m-1) p x→LeastZ r v lo m p x
 | none,k=>fun z z0 z1=>by
  by_cases e:z=m
  ·rw[e];exact h
  ·exact k z z0 (by omega)
 | some x,⟨⟨z,a,g1,g2,g3,g4⟩,k⟩=>⟨⟨z,a,g1,by exact la [_,_] [] (.v 0) (.v 1) [.l (.v 0) (.s (.v 1) (.c 1))] [1,1] rfl g2,g3,g4⟩,fun z b z0 z1 g=>by
  by_cases e:z=m
  ·rw[e,h] at g;cases g
  ·exact k z b z0 (by omega) g⟩
theorem LeastZ.first {r:Row}{v lo m p a:Int} (hm:lo≤m) (h:cellZ r (p-m*v)=some a) (k:LeastZ r v lo (m-1) p none):LeastZ r v lo m p (some (a+ab m)) :=
 ⟨⟨m,a,hm,Int.le_refl _,h,rfl⟩,fun z b z0 z1 g=>by
  by_cases e:z=m
  ·rw[e,h] at g;cases g;rw[e];exact Int.le_refl _
  ·rw[k z z0 (by omega)] at g;cases g⟩
theorem LeastZ.less {r:Row}{v lo m p a y:Int} (hm:lo≤m) (h:cellZ r (p-m*v)=some a) (k:LeastZ r v lo (m-1) p (some y)) (hl:a+ab m<y):LeastZ r v lo m p (some (a+ab m)) :=
 ⟨⟨m,a,hm,Int.le_refl _,h,rfl⟩,fun z b z0 z1 g=>by
  by_cases e:z=m
  ·rw[e,h] at g;cases g;rw[e];exact Int.le_refl _
  ·have:=k.2 z b z0 (by omega) g;exact la [_,_,_,_,_] [] (.a (.v 0) (.v 1)) (.a (.v 2) (.v 3)) [.b (.a (.v 0) (.v 1)) (.v 4),.l (.v 4) (.a (.v 2) (.v 3))] [1,1,1] rfl hl this⟩
theorem LeastZ.keep {r:Row}{v lo m p a y:Int} (h:cellZ r (p-m*v)=some a) (k:LeastZ r v lo (m-1) p (some y)) (hl:¬a+ab m<y):LeastZ r v lo m p (some y):=by
 obtain⟨⟨z,b,g1,g2,g3,g4⟩,k⟩:=k
 exact⟨⟨z,b,g1,by exact la [_,_] [] (.v 0) (.v 1) [.l (.v 0) (.s (.v 1) (.c 1))] [1,1] rfl g2,g3,g4⟩,fun z b z0 z1 g=>by
  by_cases e:z=m
  ·rw[e,h] at g;cases g;rw[e];exact (Int.not_lt.mp hl)
  ·exact k z b z0 (by omega) g⟩
section
variable {defs:String→Option Fn}{anc:String→List String}{n:Nat}{Q:V→Hp→Prop}{X:String→Hp→Prop}{H:Hp}
theorem own_spec (h:defs "_law_own" = some f_law_own) {p:Addr}{qs:PL}{v:Int} (hp:H p=some (.list (lv qs))) (hq:Q (.int ((lk v qs).getD 0)) H) :
  callN defs anc (n+1) "_law_own" [.ref p,.int v] Q X H:=by
 refine call_of h rfl ?_
 simp only[f_law_own]
 (simp only[List.map_cons,List.map_nil,List.length_cons,List.length_nil,Nat.reduceAdd,Nat.reduceSub,List.replicate,List.cons_append,List.nil_append])
 refine for_cons ⟨rfl,?_⟩
 (simp only[sr_ex,qE_var,gZ,v_some])
 refine src_of hp ?_
 rw[lvIt]
 refine forGo_map (I:=fun as ρ H'=>H'=H∧(∃x2,ρ=[some (.ref p),some (.int v),x2])∧lk v as=none) ?_ ?_ ?_ ⟨rfl,⟨_,rfl⟩,rfl⟩
 ·rintro as ρ H' ⟨rfl,⟨x2,rfl⟩,k⟩;exact okH_one hp
 ·rintro ρ H' ⟨rfl,⟨x2,rfl⟩,k⟩
  dsimp only[restW]
  (simp only[s_ret,qE_int])
  rw[k] at hq;exact hq
 ·rintro as b bs ρ H' K e ⟨rfl,⟨x2,rfl⟩,k⟩ hK
  refine⟨_,rfl,?_⟩
  dsimp only[bodyW]
  (simp only[sS,sZ,sf_ife,app_cons,app_nil,qE_cmp,asB_bool,qE_var,gS,gZ,v_some,qE_idx,qE_int,i_pv0,c_eqI,decide_eq_true_eq])
  have e1:lk v qs=lk v (b :: bs):=by rw[e];exact lk_append (lk_none.mp k)
  refine ite_all (fun h=>?_) fun h=>?_
  ·dsimp only[restW]
   (simp only[s_ret,qE_idx,qE_int,qE_var,gS,gZ,v_some,i_pv1])
   rw[e1,lk,if_pos h] at hq;exact hq
  ·dsimp only[restW]
   (simp only[s_nil])
   refine hK _ _ ⟨rfl,⟨_,rfl⟩,?_⟩
   rw[lk_append (lk_none.mp k),lk,if_neg h];rfl
theorem total_spec (h:defs "_law_total" = some f_law_total) {p:Addr}{ps:PL} (hp:H p=some (.list (lv ps))) (hv:∀q∈ps,1≤q.1∧q.1≤2000) (hq:Q (.int (worthL ps)) H) :
  callN defs anc (n+1) "_law_total" [.ref p] Q X H:=by
 refine call_of h rfl ?_
 simp only[f_law_total]
 (simp only[List.map_cons,List.map_nil,List.length_cons,List.length_nil,Nat.reduceAdd,Nat.reduceSub,List.replicate,List.cons_append,List.nil_append,sf_asg,sS,sZ,qE_int])
 dsimp only[restW]
 refine for_cons ⟨rfl,?_⟩
 (simp only[sr_ex,qE_var,gZ,v_some])
 refine src_of hp ?_
 rw[lvIt]
 refine forGo_map (I:=fun as ρ H'=>H'=H∧∃x2,ρ=[some (.ref p),some (.int (worthL as)),x2]) ?_ ?_ ?_ ⟨rfl,_,rfl⟩
 ·rintro as ρ H' ⟨rfl,x2,rfl⟩;exact okH_one hp
 ·rintro ρ H' ⟨rfl,x2,rfl⟩
  dsimp only[restW]
  (simp only[s_ret,qE_var,gS,gZ,v_some])
  exact hq
 ·rintro as b bs ρ H' K e ⟨rfl,x2,rfl⟩ hK
  refine⟨_,rfl,?_⟩
  obtain⟨v0,v1⟩:=hv b (by rw[e];simp)
  dsimp only[bodyW]
  (simp only[sS,sZ,sf_asg,qE_bin,qE_idx,qE_int,qE_var,gS,gZ,v_some,i_pv1,i_pv0,b_mul,b_add])
  refine⟨.inl ⟨by exact lb [_] [] (.c (-18446744073709551616)) (.v 0) [.l (.c 1) (.v 0)] [1,1] rfl v0,by exact lb [_] [] (.v 0) (.c 18446744073709551616) [.l (.v 0) (.c 2000)] [1,1] rfl v1⟩,?_⟩
  dsimp only[restW]
  (simp only[s_nil])
  exact hK _ _ ⟨rfl,_,by rw[worthL_add]⟩
inductive LightI (H:Hp) (A:Addr) (r:Row) (p:Int) (q:Int×Int) (own:Int) (done rest:List It) (ρ:Loc) (H':Hp):Prop
 | mk (x:Option Int) (x5 x6 x7:Option V) (eH:H'=H) (hr:rangeL (0-q.2) 1 (own+1-(0-q.2)).toNat=done++rest) (e:ρ=[some (.ref A),some (.int p),some (pv q),some (.int own),some (ov x),x5,x6,x7]) (L:LeastZ r q.1 (-q.2) (-q.2+done.length-1) p x)
theorem lightest_spec (h:defs "_law_lightest" = some f_law_lightest) {A:Addr}{r:Row}{p:Int}{q:Int×Int}{own:Int} (hA:H A=some (.list (lo r))) (hL:r.length≤2001) (hv0:1≤q.1) (hv:q.1≤2000) (hc0:0≤q.2) (hc:q.2≤1000000000) (ho0:0≤own) (ho:own≤1000000000)
  (hq:∀x,LeastZ r q.1 (-q.2) own p x→Q (ov x) H) :
  callN defs anc (n+1) "_law_lightest" [.ref A,.int p,pv q,.int own] Q X H:=by
 refine call_of h rfl ?_
 simp only[f_law_lightest]
 (simp only[List.map_cons,List.map_nil,List.length_cons,List.length_nil,Nat.reduceAdd,Nat.reduceSub,List.replicate,List.cons_append,List.nil_append,sf_asg,sS,sZ,qE_none])
 dsimp only[restW]
 refine for_cons ⟨rfl,?_⟩
 (simp only[sr_r2,qE_bin,qE_int,qE_var,gS,gZ,v_some,b_add,qE_idx,i_pv1,b_sub,r2_i])
 refine⟨⟨by exact lb [_] [] (.c (-4611686018427387904)) (.s (.c 0) (.v 0)) [.l (.v 0) (.c 1000000000)] [1,1] rfl hc,by exact lb [_] [] (.s (.c 0) (.v 0)) (.c 4611686018427387904) [.l (.c 0) (.v 0)] [1,1] rfl hc0⟩,⟨by exact lb [_] [] (.c (-4611686018427387904)) (.a (.v 0) (.c 1)) [.l (.c 0) (.v 0)] [1,1] rfl ho0,by exact lb [_] [] (.a (.v 0) (.c 1)) (.c 4611686018427387904) [.l (.v 0) (.c 1000000000)] [1,1] rfl ho⟩,?_⟩
 refine forGo_inv (I:=LightI H A r p q own) ?_ ?_ ?_ _ [] _ _ ⟨none,none,none,none,rfl,rfl,rfl,by simpa using LeastZ.none0⟩
 ·intro _ _ _ _ _ p hp;cases hp
 ·rintro done ρ H' ⟨x,x5,x6,x7,rfl,hr,rfl,L⟩
  dsimp only[restW]
  (simp only[s_ret,qE_var,gS,gZ,v_some])
  have hd:=congrArg List.length hr
  rw[rangeL_length,List.append_nil] at hd
  rw[show -q.2+(done.length:Int)-1=own by exact lq [_,_] [_,_] (.s (.a (.g (.v 0)) (.t (.n 0))) (.c 1)) (.v 1) [.E (.n 1) (.n 0),.l (.s (.a (.v 1) (.c 1)) (.s (.c 0) (.v 0))) (.t (.n 1)),.e (.t (.n 1)) (.s (.a (.v 1) (.c 1)) (.s (.c 0) (.v 0)))] [1,1,0,-1] [1,-1,0,1] rfl hd (tn0 (a:=own+1-(0-q.snd))) (tnE (a:=own+1-(0-q.snd)) (la [_,_] [] (.c 0) (.s (.a (.v 0) (.c 1)) (.s (.c 0) (.v 1))) [.l (.c 0) (.v 1),.l (.c 0) (.v 0)] [1,1,1] rfl hc0 ho0))] at L
  exact hq x L
 ·rintro done it rest ρ H' K ⟨x,x5,x6,x7,rfl,hr,rfl,L⟩ hK
  obtain⟨rfl,hlt⟩:=rangeL_at hr
  refine⟨_,rfl,?_⟩
  have em:0-q.2+(done.length:Int)*1=-q.2+done.length:=by exact lq [_] [_] (.a (.s (.c 0) (.v 0)) (.p (.t (.n 0)) 1)) (.a (.g (.v 0)) (.t (.n 0))) [] [1] [1] rfl
  rw[em]
  generalize hm:-q.2+(done.length:Int)=m at L
  have hml:-q.2≤m:=by exact la [_,_] [_] (.g (.v 0)) (.v 1) [.e (.a (.g (.v 0)) (.t (.n 0))) (.v 1)] [1,1] rfl hm
  have nxt:-q.2+((done++[It.v (.int (0-q.2+(done.length:Int)*1))]).length:Int)-1=m:=by rw[List.length_append,List.length_singleton];exact lq [_,_] [_] (.s (.a (.g (.v 0)) (.t (.a (.n 0) (.c 1)))) (.c 1)) (.v 1) [.e (.a (.g (.v 0)) (.t (.n 0))) (.v 1)] [1,-1] [1,1] rfl hm
  have fin:∀(y:Option Int) (y7:Option V) (y6:Option V),LeastZ r q.1 (-q.2) m p y→K [some (.ref A),some (.int p),some (pv q),some (.int own),some (ov y),some (.int m),y6,y7] H':=fun y y7 y6 Ly =>
   hK _ _ ⟨y,_,_,_,rfl,by rw[hr];simp,rfl,by rw[nxt];exact Ly⟩
  have sv:Sm m∨Sm q.1:=.inr ⟨by exact lb [_] [] (.c (-18446744073709551616)) (.v 0) [.l (.c 1) (.v 0)] [1,1] rfl hv0,by exact lb [_] [] (.v 0) (.c 18446744073709551616) [.l (.v 0) (.c 2000)] [1,1] rfl hv⟩
  dsimp only[bodyW]
  (simp only[sS,sZ,sf_asg,qE_bin,qE_idx,qE_int,qE_var,gS,gZ,v_some,i_pv0,b_mul,b_sub])
  refine⟨sv,?_⟩
  dsimp only[restW]
  (simp only[sf_ife,app_cons,app_nil,qE_bop,qB_more,qB_one,qE_cmp,asB_bool,qE_none,qE_idx,qE_var,gS,gZ,v_some,qE_bc,qEs_cons,qEs_nil,true_and,qE_int,c_le,decide_eq_true_eq])
  rw[f_lenL hA,lo_length]
  (simp only[c_lt,decide_eq_true_eq])
  have nos:cellZ r (p-m*q.1)=none→restW ⟨callN defs anc n,anc⟩ false .nil K Q (fun c ξ H₁=>X c H₁) [some (.ref A),some (.int p),some (pv q),some (.int own),some (ov x),some (.int m),some (.int (p-m*q.1)),x7] H':=fun hn=>by
   dsimp only[restW]
   (simp only[s_nil])
   exact fin x _ _ (L.skip hn)
  by_cases b0:0≤p-m*q.1
  ·refine iteP b0 ?_
   by_cases b1:p-m*q.1<r.length
   ·refine iteP b1 ?_
    obtain⟨k,ek⟩:∃k:Nat,p-m*q.1=k:=⟨(p-m*q.1).toNat,by exact lq [_,_] [_] (.s (.v 0) (.v 1)) (.t (.n 0)) [.e (.t (.n 0)) (.s (.v 0) (.v 1)),.l (.s (.v 0) (.v 1)) (.t (.n 0))] [1,1,0] [1,-1,0] rfl (tnE (a:=p-m*q.fst) (b0)) (tn0 (a:=p-m*q.fst))⟩
    obtain⟨z,hz⟩:=get_of_lt (l:=r) (k:=k) (by exact lB [_,_] [_,_] (.n 0) (.n 1) [.b (.s (.v 0) (.v 1)) (.t (.n 1)),.e (.s (.v 0) (.v 1)) (.t (.n 0))] [1,1,-1] rfl b1 ek)
    have hcz:cellZ r (p-m*q.1)=z:=by rw[ek];exact cellZ_nat hz
    rw[ek] at nos ⊢
    refine i_loB hA hz hL ?_
    rw[ek] at hcz
    cases z with
    | none =>
     simp only[ov]
     (simp only[c_isnNN])
     refine iteF ?_
     exact nos hcz
    | some a =>
     simp only[ov]
     (simp only[c_isnIN])
     refine iteP trivial ?_
     dsimp only[restW]
     (simp only[sf_asg,sS,sZ,qE_bin,qE_bc,qEs_cons,qEs_nil,qE_var,gS,gZ,v_some,f_abs,true_and,qE_idx])
     refine i_loB hA hz hL ?_
     simp only[ov]
     (simp only[b_add])
     have eab:(if m<0 then -m else m)=ab m:=rfl
     rw[eab]
     dsimp only[restW]
     (simp only[sf_ife,app_cons,app_nil,qE_bop,qB_more,qB_one,qE_cmp,asB_bool,qE_var,gS,gZ,v_some,qE_none])
     have hcz':cellZ r (p-m*q.1)=some a:=by rw[ek];exact hcz
     cases x with
     | none =>
      simp only[ov]
      (simp only[c_isNN])
      refine iteN (by decide) (iteP (by decide) ?_)
      dsimp only[restW]
      (simp only[sf_asg,sS,sZ,qE_var,gS,gZ,v_some])
      dsimp only[restW]
      (simp only[s_nil])
      exact fin (some (a+ab m)) _ _ (L.first hml hcz')
     | some y =>
      simp only[ov]
      (simp only[c_lt,decide_eq_true_eq,c_isIN])
      refine iteP (by decide) ?_
      refine ite_all (fun hlt=>?_) fun hlt=>?_
      ·dsimp only[restW]
       (simp only[sf_asg,sS,sZ,qE_var,gS,gZ,v_some])
       dsimp only[restW]
       (simp only[s_nil])
       exact fin (some (a+ab m)) _ _ (L.less hml hcz' hlt)
      ·dsimp only[restW]
       (simp only[s_nil])
       exact fin (some y) _ _ (L.keep hcz' hlt)
   ·refine iteN b1 (iteN b1 ?_)
    refine nos ?_
    rw[cellZ,if_pos b0,List.getElem?_eq_none (by exact lA [_,_] [_,_] (.n 0) (.n 1) [.l (.t (.n 0)) (.s (.v 0) (.v 1)),.l (.s (.v 0) (.v 1)) (.t (.n 1))] [1,1,1] rfl (Int.not_lt.mp b1) (tn0 (a:=p-m*q.fst)))];rfl
  ·refine iteN b0 (iteN b0 ?_)
   refine nos ?_
   rw[cellZ,if_neg b0]
end
theorem lo_reps (a b:Nat):List.replicate a V.none++[V.int 0]++List.replicate b V.none=lo (List.replicate a none++some 0 :: List.replicate b none):=by
 rw[lo,List.map_append,List.map_cons,List.map_replicate,List.map_replicate,List.append_assoc];rfl
structure Def10L (defs:String→Option Fn):Prop where
 who:defs "_law_whole" = some f_law_whole
 row:defs "_law_row" = some f_law_row
 own:defs "_law_own" = some f_law_own
 tot:defs "_law_total" = some f_law_total
 lig:defs "_law_lightest" = some f_law_lightest
 sca:defs "_law_scaled" = some f_law_scaled
section
variable {defs:String→Option Fn}{anc:String→List String}{n:Nat}{Q:V→Hp→Prop}{X:String→Hp→Prop}{H:Hp}
theorem scaled_spec (D:Def10L defs) {R p q:Addr}{ps qs:PL}{tr:List (Addr×Row)} (P:PP ps) (P':PP qs) (hp:H p=some (.list (lv ps))) (hpq:H q=some (.list (lv qs))) (hw:worthL ps+worthL qs≤1500) (T:RTab ps qs (worthL ps).toNat (worthL qs).toNat tr) (hR:H R=some (.list (refs tr))) (I:InH H tr)
  (hq:∀H',Ext H H'→Q (.bool true) H') :
  callN defs anc (n+3) "_law_scaled" [.ref R,.ref p,.ref q] Q X H:=by
 have hl:=P.len
 have w1:=P.worth0
 have w2:=P'.worth0
 obtain⟨lw,el⟩:∃k:Nat,worthL ps=k:=⟨(worthL ps).toNat,by exact lq [_] [_] (.v 0) (.t (.n 0)) [.e (.t (.n 0)) (.v 0),.l (.v 0) (.t (.n 0))] [1,1,0] [1,-1,0] rfl (tnE (a:=worthL ps) (w1)) (tn0 (a:=worthL ps))⟩
 obtain⟨hw',eh⟩:∃k:Nat,worthL qs=k:=⟨(worthL qs).toNat,by exact lq [_] [_] (.v 0) (.t (.n 0)) [.e (.t (.n 0)) (.v 0),.l (.v 0) (.t (.n 0))] [1,1,0] [1,-1,0] rfl (tnE (a:=worthL qs) (w2)) (tn0 (a:=worthL qs))⟩
 have hsum:lw+hw'≤1500:=by exact lA [_,_] [_,_] (.a (.n 0) (.n 1)) (.c 1500) [.l (.a (.v 0) (.v 1)) (.c 1500),.e (.v 0) (.t (.n 0)),.e (.v 1) (.t (.n 1))] [1,1,-1,-1] rfl hw el eh
 rw[el,eh,Int.toNat_natCast,Int.toNat_natCast] at T
 have hlen:=T.len
 have hrl:tr.length≤1001:=by exact lA [] [_,_] (.n 0) (.c 1001) [.L (.n 1) (.c 60),.E (.n 0) (.a (.n 1) (.c 1))] [1,1,1] rfl hl hlen
 have rowlen:∀x∈tr,x.2.length≤2001:=fun x hx=>by rw[T.rows x hx];exact lA [_,_] [_,_] (.a (.a (.n 0) (.n 1)) (.c 1)) (.c 2001) [.l (.a (.v 0) (.v 1)) (.c 1500),.e (.v 0) (.t (.n 0)),.e (.v 1) (.t (.n 1))] [1,1,-1,-1] rfl hw el eh
 obtain⟨a0,hz⟩:=T.zero
 have m0:(a0,List.replicate lw none++some 0 :: List.replicate hw' none)∈tr:=List.mem_of_getElem? hz
 refine call_of D.sca rfl ?_
 simp only[f_law_scaled]
 (simp only[List.map_cons,List.map_nil,List.length_cons,List.length_nil,Nat.reduceAdd,Nat.reduceSub,List.replicate,List.cons_append,List.nil_append,sf_asg,sS,sZ,qE_call,qEs_cons,qEs_nil,qE_var,gS,gZ,v_some,true_and])
 refine total_spec D.tot hp P.val ?_
 dsimp only[restW]
 (simp only[sf_asg,sS,sZ,qE_bin,qE_int,qE_call,qEs_cons,qEs_nil,qE_var,gS,gZ,v_some,true_and])
 refine total_spec D.tot hpq P'.val ?_
 (simp only[b_add])
 rw[el,eh]
 dsimp only[restW]
 (simp only[sf_ife,app_cons,app_nil,qE_bop,qB_more,qB_one,qE_nt,asB_bool,qE_call,qEs_cons,qEs_nil,qE_var,gS,gZ,v_some,qE_idx,qE_int,true_and,qE_cmp,qE_bin,qE_bc,qE_isi])
 refine⟨true,isi_list hR,?_⟩
 refine iteP (by decide) ?_
 rw[f_lenL hR,f_lenL hp,refs_length,lv_length,hlen]
 (simp only[b_add,c_neI])
 rw[decide_eq_true (by exact lq [] [_] (.t (.a (.n 0) (.c 1))) (.a (.t (.n 0)) (.c 1)) [] [1] [1] rfl)]
 refine iteP (by decide) ?_
 refine i_refs hR (i:=0) hz hrl ?_
 refine row_spec D.who D.row (I _ m0) (by rw[T.rows _ m0];exact lq [] [_,_] (.a (.a (.t (.n 0)) (.t (.n 1))) (.c 1)) (.t (.a (.a (.n 0) (.n 1)) (.c 1))) [] [1] [1] rfl) ?_
 (simp only[asB_bool])
 refine iteNf ?_
 dsimp only[restW]
 (simp only[sf_ife,app_cons,app_nil,qE_cmp,asB_bool,qE_bin,qE_int,qE_var,gS,gZ,v_some,b_sub,qE_list,qEs_cons,qEs_nil,qE_none,qE_idx])
 refine i_refs hR (i:=0) hz hrl ?_
 refine⟨Nat.le_of_ble_eq_true rfl,fun b1 h1=>⟨_,Hp.set_self _ _ _,⟨⟨by exact lb [_] [_] (.c (-4611686018427387904)) (.t (.n 0)) [.l (.c 0) (.v 0),.e (.v 0) (.t (.n 0))] [1,1,1] rfl w1 el,by exact lb [_,_] [_] (.t (.n 0)) (.c 4611686018427387904) [.l (.a (.v 0) (.v 1)) (.c 1500),.l (.c 0) (.v 1),.e (.v 0) (.t (.n 0))] [1,1,1,-1] rfl hw w2 el⟩,by exact la [_,_] [_] (.t (.n 0)) (.c 16777216) [.l (.a (.v 0) (.v 1)) (.c 1500),.l (.c 0) (.v 1),.e (.v 0) (.t (.n 0))] [1,1,1,-1] rfl hw w2 el⟩,?_⟩⟩
 rw[Int.toNat_natCast]
 refine⟨by rw[List.length_replicate,lim_eq];exact lA [_,_] [_] (.n 0) (.c 16777216) [.l (.a (.v 0) (.v 1)) (.c 1500),.l (.c 0) (.v 1),.e (.v 0) (.t (.n 0))] [1,1,1,-1] rfl hw w2 el,fun b2 h2=>⟨Nat.le_of_ble_eq_true rfl,fun b3 h3=>⟨_,_,Ext.new _ h3 _ _ (Hp.set_self _ _ _),Hp.set_self _ _ _,by rw[List.length_append,List.length_replicate,lim_eq];exact Nat.le_trans (Nat.add_le_add_right (show lw≤1500 by exact lA [_,_] [_] (.n 0) (.c 1500) [.l (.a (.v 0) (.v 1)) (.c 1500),.l (.c 0) (.v 1),.e (.v 0) (.t (.n 0))] [1,1,1,-1] rfl hw w2 el) 1) (by decide),fun b4 h4=>?_⟩⟩⟩
 have hE4:=(((Ext.new (.list [V.none]) h1).trans (Ext.new (.list (List.replicate lw V.none)) h2)).trans (Ext.new (.list [V.int 0]) h3)).trans (Ext.new (.list (List.replicate lw V.none++[V.int 0])) h4)
 have g4:=Hp.set_self (((H.set b1 (.list [V.none])).set b2 (.list (List.replicate lw V.none))).set b3 (.list [V.int 0])) b4 (.list (List.replicate lw V.none++[V.int 0]))
 generalize (((H.set b1 (.list [V.none])).set b2 (.list (List.replicate lw V.none))).set b3 (.list [V.int 0])).set b4 (.list (List.replicate lw V.none++[V.int 0]))=H₄ at hE4 g4 ⊢
 refine⟨Nat.le_of_ble_eq_true rfl,fun b5 h5=>⟨_,Hp.set_self _ _ _,⟨⟨by exact lb [_] [_,_] (.c (-4611686018427387904)) (.s (.s (.a (.a (.t (.n 0)) (.t (.n 1))) (.c 1)) (.t (.n 0))) (.c 1)) [.l (.c 0) (.v 0),.e (.v 0) (.t (.n 1))] [1,1,1] rfl w2 eh,by exact lb [_,_] [_,_] (.s (.s (.a (.a (.t (.n 0)) (.t (.n 1))) (.c 1)) (.t (.n 0))) (.c 1)) (.c 4611686018427387904) [.l (.a (.v 0) (.v 1)) (.c 1500),.l (.c 0) (.v 0),.e (.v 1) (.t (.n 1))] [1,1,1,-1] rfl hw w1 eh⟩,by exact la [_,_] [_,_] (.s (.s (.a (.a (.t (.n 0)) (.t (.n 1))) (.c 1)) (.t (.n 0))) (.c 1)) (.c 16777216) [.l (.a (.v 0) (.v 1)) (.c 1500),.l (.c 0) (.v 0),.e (.v 1) (.t (.n 1))] [1,1,1,-1] rfl hw w1 eh⟩,?_⟩⟩
 rw[show ((lw:Int)+(hw':Int)+1-(lw:Int)-1).toNat=hw' by exact lQ [] [_,_,_] (.n 0) (.n 1) [.l (.s (.s (.a (.a (.t (.n 2)) (.t (.n 1))) (.c 1)) (.t (.n 2))) (.c 1)) (.t (.n 0)),.e (.t (.n 0)) (.s (.s (.a (.a (.t (.n 2)) (.t (.n 1))) (.c 1)) (.t (.n 2))) (.c 1))] [1,0,-1] [1,0,1] rfl (tn0 (a:=(↑lw:Int)+(↑hw':Int)+1-(↑lw:Int)-1)) (tnE (a:=(↑lw:Int)+(↑hw':Int)+1-(↑lw:Int)-1) (la [_] [_,_] (.c 0) (.s (.s (.a (.a (.t (.n 0)) (.t (.n 1))) (.c 1)) (.t (.n 0))) (.c 1)) [.l (.c 0) (.v 0),.e (.v 0) (.t (.n 1))] [1,1,1] rfl w2 eh))]
 refine⟨by rw[List.length_replicate,lim_eq];exact lA [_,_] [_] (.n 0) (.c 16777216) [.l (.a (.v 0) (.v 1)) (.c 1500),.l (.c 0) (.v 0),.e (.v 1) (.t (.n 0))] [1,1,1,-1] rfl hw w1 eh,fun b6 h6=>⟨_,_,((Ext.new (.list [V.none]) h5).trans (Ext.new _ h6)) _ _ g4,Hp.set_self _ _ _,?_⟩⟩
 rw[lo_reps]
 refine⟨by rw[lo_length,List.length_append,List.length_cons,List.length_replicate,List.length_replicate,lim_eq];exact lA [_,_] [_,_] (.a (.n 0) (.a (.n 1) (.c 1))) (.c 16777216) [.l (.a (.v 0) (.v 1)) (.c 1500),.e (.v 0) (.t (.n 0)),.e (.v 1) (.t (.n 1))] [1,1,-1,-1] rfl hw el eh,fun b7 h7=>?_⟩
 have hE7:=((hE4.trans (Ext.new (.list [V.none]) h5)).trans (Ext.new (.list (List.replicate hw' V.none)) h6)).trans (Ext.new (.list (lo (List.replicate lw none++some 0 :: List.replicate hw' none))) h7)
 have g7:=Hp.set_self ((H₄.set b5 (.list [V.none])).set b6 (.list (List.replicate hw' V.none))) b7 (.list (lo (List.replicate lw none++some 0 :: List.replicate hw' none)))
 generalize ((H₄.set b5 (.list [V.none])).set b6 (.list (List.replicate hw' V.none))).set b7 (.list (lo (List.replicate lw none++some 0 :: List.replicate hw' none)))=H₇ at hE7 g7 ⊢
 dsimp only
 rw[c_neLo (hE7 _ _ (I _ m0)) g7,decide_eq_true rfl]
 refine iteNf ?_
 have hp7:=hE7 _ _ hp
 have hq7:=hE7 _ _ hpq
 have hR7:=hE7 _ _ hR
 have I7:InH H₇ tr:=fun x hx=>hE7 _ _ (I x hx)
 dsimp only[restW]
 refine for_cons ⟨rfl,?_⟩
 (simp only[sr_r1,qE_bc,qEs_cons,qEs_nil,qE_var,gS,gZ,v_some,true_and])
 rw[f_lenL hp7,lv_length]
 (simp only[r1_i])
 refine⟨⟨by exact lb [] [_] (.c (-4611686018427387904)) (.t (.n 0)) [] [1] rfl,by exact lb [] [_] (.t (.n 0)) (.c 4611686018427387904) [.L (.n 0) (.c 60)] [1,1] rfl hl⟩,?_⟩
 rw[Int.toNat_natCast,rangeL_map]
 refine forGo_map (I:=fun as ρ H'=>H'=H₇∧∃x5 x6 x7,ρ=[some (.ref R),some (.ref p),some (.ref q),some (.int (lw:Int)),some (.int ((lw:Int)+(hw':Int)+1)),x5,x6,x7]) ?_ ?_ ?_ ⟨rfl,_,_,_,rfl⟩
 ·rintro as ρ H' _;exact okH_nil
 ·rintro ρ H' ⟨rfl,x5,x6,x7,rfl⟩
  dsimp only[restW]
  (simp only[s_ret,qE_bool])
  exact hq _ hE7
 ·rintro as b bs ρ H' K e ⟨rfl,x5,x6,x7,rfl⟩ hK
  obtain⟨rfl,hk⟩:=range_split e
  refine⟨_,rfl,?_⟩
  obtain⟨y,hy⟩:=get_of_lt (l:=ps) hk
  obtain⟨ra,rb,g1,g2,RZ⟩:=T.step as.length y hy
  have ma:=List.mem_of_getElem? g1
  have mb:=List.mem_of_getElem? g2
  obtain⟨v0,v1⟩:=P.val y (List.mem_of_getElem? hy)
  obtain⟨c0,c1⟩:=P.cnt y (List.mem_of_getElem? hy)
  obtain⟨d0,d1⟩:=lk_range (v:=y.1) P'.cnt
  have ek:(as.length:Int)+1=((as.length+1:Nat):Int):=by exact lq [] [_] (.a (.t (.n 0)) (.c 1)) (.t (.a (.n 0) (.c 1))) [] [1] [1] rfl
  dsimp only[bodyW]
  (simp only[sS,sZ,sf_ife,app_cons,app_nil,qE_nt,asB_bool,qE_call,qEs_cons,qEs_nil,qE_var,gS,gZ,v_some,qE_idx,qE_bin,qE_int,b_add,true_and])
  rw[ek]
  refine i_refs hR7 g2 hrl ?_
  refine row_spec D.who D.row (I7 _ mb) (by rw[T.rows _ mb];exact lq [] [_,_] (.a (.a (.t (.n 0)) (.t (.n 1))) (.c 1)) (.t (.a (.a (.n 0) (.n 1)) (.c 1))) [] [1] [1] rfl) ?_
  (simp only[asB_bool])
  refine iteNf ?_
  dsimp only[restW]
  (simp only[sf_asg,sS,sZ,qE_call,qEs_cons,qEs_nil,qE_idx,qE_int,qE_var,gS,gZ,v_some,true_and])
  refine i_lvN hp7 hy (by exact lA [] [_] (.n 0) (.c 1001) [.L (.n 0) (.c 60)] [1,1] rfl hl) ?_
  (simp only[i_pv0])
  refine own_spec D.own hq7 ?_
  generalize hd:(lk y.1 qs).getD 0=d at RZ d0 d1 ⊢
  dsimp only[restW]
  refine for_cons ⟨rfl,?_⟩
  (simp only[sr_r1,qE_var,gS,gZ,v_some,r1_i])
  refine⟨⟨by exact lb [_,_] [_,_] (.c (-4611686018427387904)) (.a (.a (.t (.n 0)) (.t (.n 1))) (.c 1)) [.l (.c 0) (.v 0),.l (.c 0) (.v 1),.e (.v 0) (.t (.n 0)),.e (.v 1) (.t (.n 1))] [1,1,1,1,1] rfl w1 w2 el eh,by exact lb [_,_] [_,_] (.a (.a (.t (.n 0)) (.t (.n 1))) (.c 1)) (.c 4611686018427387904) [.l (.a (.v 0) (.v 1)) (.c 1500),.e (.v 0) (.t (.n 0)),.e (.v 1) (.t (.n 1))] [1,1,-1,-1] rfl hw el eh⟩,?_⟩
  rw[show ((lw:Int)+(hw':Int)+1).toNat=lw+hw'+1 by exact lQ [] [_,_,_] (.n 0) (.a (.a (.n 1) (.n 2)) (.c 1)) [.l (.a (.a (.t (.n 1)) (.t (.n 2))) (.c 1)) (.t (.n 0)),.e (.t (.n 0)) (.a (.a (.t (.n 1)) (.t (.n 2))) (.c 1))] [1,0,-1] [1,0,1] rfl (tn0 (a:=(↑lw:Int)+(↑hw':Int)+1)) (tnE (a:=(↑lw:Int)+(↑hw':Int)+1) (la [_,_] [_,_] (.c 0) (.a (.a (.t (.n 0)) (.t (.n 1))) (.c 1)) [.l (.c 0) (.v 0),.l (.c 0) (.v 1),.e (.v 0) (.t (.n 0)),.e (.v 1) (.t (.n 1))] [1,1,1,1,1] rfl w1 w2 el eh)),rangeL_map]
  refine forGo_map (I:=fun as2 ρ H2=>H2=H'∧∃x7,ρ=[some (.ref R),some (.ref p),some (.ref q),some (.int (lw:Int)),some (.int ((lw:Int)+(hw':Int)+1)),some (.int (as.length:Int)),some (.int d),x7]) ?_ ?_ ?_ ⟨rfl,_,rfl⟩
  ·rintro as2 ρ H2 _;exact okH_nil
  ·rintro ρ H2 ⟨rfl,x7,rfl⟩
   dsimp only[restW]
   (simp only[s_nil])
   exact hK _ _ ⟨rfl,_,_,_,rfl⟩
  ·rintro as2 b2 bs2 ρ H2 K2 e2 ⟨rfl,x7,rfl⟩ hK2
   obtain⟨rfl,hk2⟩:=range_split e2
   refine⟨_,rfl,?_⟩
   have hra:as2.length<ra.2.length:=by rw[T.rows _ ma];exact hk2
   obtain⟨z,hz1,hz2⟩:=RZ.at_ as2.length hra
   dsimp only[bodyW]
   (simp only[sS,sZ,sf_ife,app_cons,app_nil,qE_cmp,asB_bool,qE_call,qEs_cons,qEs_nil,qE_var,gS,gZ,v_some,qE_idx,true_and,qE_bin,qE_int,b_add])
   rw[ek]
   refine i_refs hR7 g2 hrl (i_loB (I7 _ mb) hz1 (rowlen _ mb) ?_)
   refine i_refs hR7 g1 hrl (i_lvN hp7 hy (by exact lA [] [_] (.n 0) (.c 1001) [.L (.n 0) (.c 60)] [1,1] rfl hl) ?_)
   refine lightest_spec D.lig (I7 _ ma) (rowlen _ ma) v0 v1 c0 c1 d0 d1 fun x' hx'=>?_
   rw[hx'.one hz2,c_neOv,decide_eq_true rfl]
   refine iteNf ?_
   dsimp only[restW]
   (simp only[s_nil])
   exact hK2 _ _ ⟨rfl,_,rfl⟩
end
theorem value10_spec {defs:String→Option Fn}{anc:String→List String}{n:Nat}{Q:V→Hp→Prop}{X:String→Hp→Prop}{H:Hp} (h:defs "_law_mixed" = some f_law_mixed) (h':defs "_law_value" = some f_law_value_10) {c k:Int} (hq:∀v H',1≤v→v≤1000→Ext H H'→Q (.int v) H') :
  callN defs anc (n+2) "_law_value" [.int c,.int k] Q X H:=by
 refine call_of h' rfl ?_
 simp only[f_law_value_10]
 (simp only[List.map_cons,List.map_nil,List.length_cons,List.length_nil,Nat.reduceAdd,Nat.reduceSub,List.replicate,List.cons_append,List.nil_append,sf_asg,sS,sZ,qE_call,qEs_cons,qEs_nil,qE_var,gS,gZ,v_some,true_and])
 refine mixed_spec h fun v h0 h1=>?_
 dsimp only[restW]
 (simp only[sf_ife,app_cons,app_nil,qE_cmp,asB_bool,qE_int,qE_bin,qE_var,gZ,v_some,b_mod,c_eqI,decide_eq_true_eq])
 refine⟨by decide,ite_all (fun ξ=>?_) fun ξ=>?_⟩
 ·dsimp only[restW]
  (simp only[s_ret,qE_idx,qE_bin,qE_int,qE_var,gS,gZ,v_some,b_mod,qE_list,qEs_cons,qEs_nil])
  refine⟨by decide,fun a ha=>⟨by decide,?_⟩⟩
  rw[i_list (Hp.set_self _ _ _)]
  have e1:=Int.emod_nonneg v (show (10:Int)≠0 by decide)
  have e2:=Int.emod_lt_of_pos v (show (0:Int)<10 by decide)
  refine ex_idxA (P:=fun z=>Q z _) ⟨by exact lb [_] [] (.c (-4611686018427387904)) (.v 0) [.l (.c 0) (.v 0)] [1,1] rfl e1,by exact lb [_] [] (.v 0) (.c 4611686018427387904) [.b (.v 0) (.c 10)] [1,1] rfl e2⟩ e1 (by simpa using e2) ?_
  simp only[List.mem_cons,List.not_mem_nil,or_false]
  rintro z (rfl | rfl | rfl | rfl | rfl | rfl | rfl | rfl | rfl | rfl) <;> exact hq _ _ (by decide) (by decide) (.new _ ha)
 ·dsimp only[restW]
  (simp only[sf_ife,app_cons,app_nil,qE_cmp,asB_bool,qE_int,qE_bin,qE_var,gZ,v_some,b_mod,c_eqI,decide_eq_true_eq])
  refine⟨by decide,ite_all (fun ξ=>?_) fun ξ=>?_⟩
  ·dsimp only[restW]
   (simp only[s_ret,qE_bin,qE_int,qE_var,gS,gZ,v_some,b_mod,b_add])
   exact⟨by decide,hq _ _ (by exact la [_] [] (.c 1) (.a (.c 1) (.v 0)) [.l (.c 0) (.v 0)] [1,1] rfl (em0 12 rfl)) (by exact la [_] [] (.a (.c 1) (.v 0)) (.c 1000) [.b (.v 0) (.c 12)] [1,1] rfl (em1 12 rfl)) (.refl _)⟩
  ·dsimp only[restW]
   (simp only[s_ret,qE_bin,qE_int,qE_var,gS,gZ,v_some,b_mod,b_add])
   exact⟨by decide,hq _ _ (by exact la [_] [] (.c 1) (.a (.c 1) (.v 0)) [.l (.c 0) (.v 0)] [1,1] rfl (em0 60 rfl)) (by exact la [_] [] (.a (.c 1) (.v 0)) (.c 1000) [.b (.v 0) (.c 60)] [1,1] rfl (em1 60 rfl)) (.refl _)⟩
structure TPB (ps qs:PL) (low:Int):Prop where
 nodup:(ps.map (·.1)).Nodup
 val:∀q∈ps,1≤q.1∧q.1≤1000
 cnt:∀q∈ps,0≤q.2∧q.2≤29
 cntq:∀q∈qs,0≤q.2∧q.2≤29
 sub:(qs.map (·.1)).Sublist (ps.map (·.1))
 sum:worthL ps+worthL qs≤low
 most:low≤600
theorem TPB.add {ps qs:PL}{low u c o:Int} (T:TPB ps qs low) (hu:u∉ps.map (·.1)) (u0:1≤u) (u1:u≤1000) (c0:0≤c) (c1:c≤29) (o0:0≤o) (hl:low+u*(c+o)≤600):TPB (ps++[(u,c)]) qs (low+u*(c+o)) where
 nodup:=by rw[List.map_append];exact nodup_snoc T.nodup hu
 val:=fun q hq=>(List.mem_append.mp hq).elim (T.val q) fun h=>by rw[List.mem_singleton] at h;subst h;exact⟨u0,u1⟩
 cnt:=fun q hq=>(List.mem_append.mp hq).elim (T.cnt q) fun h=>by rw[List.mem_singleton] at h;subst h;exact⟨c0,c1⟩
 cntq:=T.cntq
 sub:=by rw[List.map_append];exact T.sub.trans (List.sublist_append_left ..)
 sum:=by
  rw[worthL_add]
  have:=T.sum
  have h1:u*(c+o)=u*c+u*o:=Int.mul_add ..
  have h2:=Int.mul_nonneg (show 0≤u by exact la [_] [] (.c 0) (.v 0) [.l (.c 1) (.v 0)] [1,1] rfl u0) o0
  show worthL ps+u*c+worthL qs≤_
  exact la [_,_,_,_,_,_] [] (.a (.a (.v 0) (.v 1)) (.v 2)) (.a (.v 3) (.v 4)) [.l (.a (.v 0) (.v 2)) (.v 3),.e (.v 4) (.a (.v 1) (.v 5)),.l (.c 0) (.v 5)] [1,1,-1,1] rfl this h1 h2
 most:=hl
theorem TPB.add2 {ps qs:PL}{low u c o:Int} (T:TPB ps qs low) (hu:u∉ps.map (·.1)) (u0:1≤u) (u1:u≤1000) (c0:0≤c) (c1:c≤29) (o0:0≤o) (o1:o≤29) (hl:low+u*(c+o)≤600):TPB (ps++[(u,c)]) (qs++[(u,o)]) (low+u*(c+o)) where
 nodup:=by rw[List.map_append];exact nodup_snoc T.nodup hu
 val:=fun q hq=>(List.mem_append.mp hq).elim (T.val q) fun h=>by rw[List.mem_singleton] at h;subst h;exact⟨u0,u1⟩
 cnt:=fun q hq=>(List.mem_append.mp hq).elim (T.cnt q) fun h=>by rw[List.mem_singleton] at h;subst h;exact⟨c0,c1⟩
 cntq:=fun q hq=>(List.mem_append.mp hq).elim (T.cntq q) fun h=>by rw[List.mem_singleton] at h;subst h;exact⟨o0,o1⟩
 sub:=by rw[List.map_append,List.map_append];exact T.sub.append (List.Sublist.refl _)
 sum:=by
  rw[worthL_add,worthL_add]
  have:=T.sum
  have h1:u*(c+o)=u*c+u*o:=Int.mul_add ..
  show worthL ps+u*c+(worthL qs+u*o)≤_
  exact la [_,_,_,_,_,_] [] (.a (.a (.v 0) (.v 1)) (.a (.v 2) (.v 3))) (.a (.v 4) (.v 5)) [.l (.a (.v 0) (.v 2)) (.v 4),.e (.v 5) (.a (.v 1) (.v 3))] [1,1,-1] rfl this h1
 most:=hl
structure TP (ps qs:PL) (most:Int):Prop where
 pos:1≤ps.length
 len:ps.length≤10
 few:most≤3→(ps.length:Int)≤most
 nodup:(ps.map (·.1)).Nodup
 nodupq:(qs.map (·.1)).Nodup
 val:∀q∈ps,1≤q.1∧q.1≤1000
 cnt:∀q∈ps,0≤q.2∧q.2≤29
 cntq:∀q∈qs,0≤q.2∧q.2≤29
 kinds:Kinds ps qs
 sum:worthL ps+worthL qs≤600
 lenq:qs.length≤ps.length
 srt:SrtP ps
 srtq:SrtP qs
theorem worthL_perm {a b:PL} (h:a.Perm b):worthL a=worthL b:=by
 unfold worthL
 induction h with
 | nil=>rfl
 | cons x _ ih=>simp only[List.map_cons,List.sum_cons,ih]
 | swap x y l=>simp only[List.map_cons,List.sum_cons];exact lq [_,_,_] [] (.a (.v 0) (.a (.v 1) (.v 2))) (.a (.v 1) (.a (.v 0) (.v 2))) [] [1] [1] rfl
 | trans _ _ h1 h2=>exact h1.trans h2
theorem TPB.done {ps qs a b:PL}{low most:Int} (T:TPB ps qs low) (ha:a.Perm ps) (hb:b.Perm qs) (sa:SrtP a) (sb:SrtP b) (h1:1≤ps.length) (h2:ps.length≤10) (h3:most≤3→(ps.length:Int)≤most):TP a b most where
 pos:=by rw[ha.length_eq];exact h1
 len:=by rw[ha.length_eq];exact h2
 few:=fun h=>by rw[ha.length_eq];exact h3 h
 nodup:=((ha.map _).nodup_iff).mpr T.nodup
 nodupq:=((hb.map _).nodup_iff).mpr (T.nodup.sublist T.sub)
 val:=fun q h=>T.val q (ha.mem_iff.mp h)
 cnt:=fun q h=>T.cnt q (ha.mem_iff.mp h)
 cntq:=fun q h=>T.cntq q (hb.mem_iff.mp h)
 kinds:=fun q h=>((ha.map _).mem_iff).mpr (T.sub.subset (List.mem_map_of_mem (hb.mem_iff.mp h)))
 sum:=by rw[worthL_perm ha,worthL_perm hb];have:=T.sum;have:=T.most;omega
 lenq:=by rw[ha.length_eq,hb.length_eq];have:=T.sub.length_le;simpa using this
 srt:=sa
 srtq:=sb
inductive TPI (H:Hp) (xs:List Int) (most m:Int) (F U S:Addr) (done rest:List It) (ρ:Loc) (H':Hp):Prop
 | mk (ps qs:PL) (kvs:List (Int×V)) (low:Int) (x7 x8 x9 x10 x11:Option V) (hr:rangeL 0 1 m.toNat=done++rest) (e:ρ=[some (.ro xs),some (.int most),some (.int m),some (.ref F),some (.ref U),some (.ref S),some (.int low),x7,x8,x9,x10,x11])
  (hE:Ext H H') (e1:H' F=some (.list (lv ps))) (e2:H' U=some (.list (lv qs))) (e3:H' S=some (.dict kvs)) (l1:ps.length=done.length) (l2:keys kvs=ps.map (·.1)) (T:TPB ps qs low)
inductive SeenT (H₂:Hp) (xs:List Int) (most m:Int) (F U S:Addr) (low j:Int) (x9 x10 x11:Option V) (kvs:List (Int×V)) (k:Nat) (ρ:Loc) (H'':Hp):Prop
 | mk (v:Int) (eH:H''=H₂) (e:ρ=[some (.ro xs),some (.int most),some (.int m),some (.ref F),some (.ref U),some (.ref S),some (.int low),some (.int j),some (.int v),x9,x10,x11]) (h1:1≤v) (h2:v≤1000) (h3:((v-1+(k:Int)) % (1000:Int)+1)∉keys kvs)
section
variable {defs:String→Option Fn}{anc:String→List String}{n:Nat}{Q:V→Hp→Prop}{X:String→Hp→Prop}{H:Hp}
theorem tp_loop (h1:defs "_law_mixed" = some f_law_mixed) (h4:defs "_law_cell_at" = some f_law_cell_at)
  (hval:∀ {Q:V→Hp→Prop}{X:String→Hp→Prop}{H:Hp}{c k:Int},1≤k→k≤11→(∀v H',1≤v→v≤1000→Ext H H'→Q (.int v) H')→callN defs anc (n+2) "_law_value" [.int c,.int k] Q X H)
  {xs:List Int}{most m:Int}{F U S:Addr} (hm1:1≤m) (hm10:m≤10) (hF:H F=none) (hU:H U=none) (hS:H S=none) (nFU:F≠U) (nFS:F≠S) (nUS:U≠S) {done rest:List It}{it:It}{ρ:Loc}{H':Hp}{K:Loc→Hp→Prop} (I:TPI H xs most m F U S done (it :: rest) ρ H')
  (hK:∀ρ' H',TPI H xs most m F U S (done++[it]) rest ρ' H'→K ρ' H'):∃ρ',bindT (.one 7) it ρ=some ρ'∧bodyW ⟨callN defs anc (n+2),anc⟩ false (f_law_till_and_purse.body.drop 6).forBody Q (fun c ξ H₁=>X c H₁) ρ' K H':=by
 obtain⟨ps,qs,kvs,low,x7,x8,x9,x10,x11,hr,rfl,hE,e1,e2,e3,l1,l2,T⟩:=I
 obtain⟨rfl,hlt⟩:=rangeL_at hr
 refine⟨_,rfl,?_⟩
 have hlt10:ps.length<10:=by exact lB [_] [_,_,_] (.n 0) (.c 10) [.l (.v 0) (.c 10),.E (.n 0) (.n 1),.B (.n 1) (.n 2),.e (.t (.n 2)) (.v 0)] [1,1,1,1,1] rfl hm10 l1 hlt (tnE (a:=m) (la [_] [] (.c 0) (.v 0) [.l (.c 1) (.v 0)] [1,1] rfl hm1))
 have hjl:(0:Int)+done.length*1=ps.length:=by exact lq [] [_,_] (.a (.c 0) (.p (.t (.n 0)) 1)) (.t (.n 1)) [.E (.n 1) (.n 0)] [1,1] [1,-1] rfl l1
 have lq:=T.sub.length_le
 rw[List.length_map,List.length_map] at lq
 dsimp only[bodyW]
 simp only[f_law_till_and_purse,Sts.drop,Sts.forBody]
 rw[hjl]
 (simp only[sS,sZ,sf_asg,qE_call,qEs_cons,qEs_nil,qE_bin,qE_int,qE_var,gS,gZ,v_some,b_add,true_and])
 refine cell_at_spec h4 (by decide) (by decide) fun c1=>?_
 refine hval (by exact la [] [_] (.c 1) (.a (.t (.n 0)) (.c 1)) [] [1] rfl) (by exact la [] [_] (.a (.t (.n 0)) (.c 1)) (.c 11) [.B (.n 0) (.c 10)] [1,1] rfl hlt10) fun v H₂ hv1 hv2 hE2=>?_
 have e1':=hE2 _ _ e1
 have e2':=hE2 _ _ e2
 have e3':=hE2 _ _ e3
 obtain⟨nn,hnn⟩:=free_place 1000 (by decide) (ks:=keys kvs) (by rw[l2,List.length_map];exact lB [] [_] (.n 0) (.c 1000) [.B (.n 0) (.c 10)] [1,1] rfl hlt10) v
 dsimp only[restW]
 refine whl_cons (I:=SeenT H₂ xs most m F U S low (ps.length:Int) x9 x10 x11 kvs) ?_ (n:=nn) ⟨v,rfl,rfl,hv1,hv2,hnn⟩
 rintro k ρ H'' K'' ⟨u,rfl,rfl,hu1,hu2,hu⟩ hK''
 (simp only[qE_cmp,asB_bool,qE_var,gS,gZ,v_some])
 rw[c_inD e3']
 simp only[dget_some_iff]
 refine ite_all (fun hin=>?_) fun hin=>?_
 ·dsimp only[bodyW]
  (simp only[sf_asg,sS,sZ,qE_bin,qE_int,qE_var,gS,gZ,v_some,b_mod,b_add])
  refine⟨by decide,?_⟩
  dsimp only[restW]
  (simp only[s_nil])
  cases k with
  | zero =>
   have:(u-1+((0:Nat):Int)) % 1000+1=u:=by rw[show u-1+((0:Nat):Int)=u-1 from Int.add_zero _,Int.emod_eq_of_lt (by exact la [_] [] (.c 0) (.s (.v 0) (.c 1)) [.l (.c 1) (.v 0)] [1,1] rfl hu1) (by exact lb [_] [] (.s (.v 0) (.c 1)) (.c 1000) [.l (.v 0) (.c 1000)] [1,1] rfl hu2),Int.sub_add_cancel]
   rw[this] at hu;exact absurd hin hu
  | succ k =>
   refine hK'' k _ _ (Nat.lt_succ_self _) ⟨_,rfl,rfl,by exact la [_] [] (.c 1) (.a (.v 0) (.c 1)) [.l (.c 0) (.v 0)] [1,1] rfl (em0 1000 rfl),by exact la [_] [] (.a (.v 0) (.c 1)) (.c 1000) [.b (.v 0) (.c 1000)] [1,1] rfl (em1 1000 rfl),?_⟩
   have:(u % 1000+1-1+(k:Int)) % 1000+1=(u-1+((k+1:Nat):Int)) % 1000+1:=by rw[Int.add_sub_cancel,Int.emod_add_emod,show u-1+((k+1:Nat):Int)=u+(k:Int) by exact Mine.lq [_] [_] (.a (.s (.v 0) (.c 1)) (.t (.a (.n 0) (.c 1)))) (.a (.v 0) (.t (.n 0))) [] [1] [1] rfl]
   rw[this];exact hu
 ·have hup:u∉ps.map (·.1):=by rw[←l2];exact hin
  dsimp only[restW]
  (simp only[sf_setIt,qE_var,gS,gZ,v_some,qE_bool])
  rw[set_D e3']
  refine⟨by rw[←keys_length,l2,List.length_map,lim_eq];exact lB [] [_] (.n 0) (.c 16777216) [.B (.n 0) (.c 10)] [1,1] rfl hlt10,?_⟩
  have f1:(H''.set S (.dict (dset u (.bool true) kvs))) F=some (.list (lv ps)):=by rw[Hp.set_ne _ nFS];exact e1'
  have f2:(H''.set S (.dict (dset u (.bool true) kvs))) U=some (.list (lv qs)):=by rw[Hp.set_ne _ nUS];exact e2'
  have f3:(H''.set S (.dict (dset u (.bool true) kvs))) S=some (.dict (dset u (.bool true) kvs)):=Hp.set_self _ _ _
  have hE3:Ext H (H''.set S (.dict (dset u (.bool true) kvs))):=.setNew _ (hE.trans hE2) hS
  generalize H''.set S (.dict (dset u (.bool true) kvs))=H₃ at f1 f2 f3 hE3 ⊢
  have lk2:keys (dset u (.bool true) kvs)=(ps++[(u,(0:Int))]).map (·.1):=by rw[dset_new hin];simpa [keys] using l2
  dsimp only[restW]
  (simp only[sf_asg,sS,sZ,qE_call,qEs_cons,qEs_nil,qE_bin,qE_int,qE_var,gS,gZ,v_some,b_add,true_and])
  refine cell_at_spec h4 (by decide) (by decide) fun c2=>?_
  refine mixed_spec h1 fun d d0 d1=>?_
  have st9:∀c o:Int,0≤c→c≤29→0≤o→o≤29→low+u*(c+o)≤600→restW ⟨callN defs anc (n+2),anc⟩ false ((f_law_till_and_purse.body.drop 6).forBody.drop 10) K Q (fun c ξ H₁=>X c H₁)
    [some (.ro xs),some (.int most),some (.int m),some (.ref F),some (.ref U),some (.ref S),some (.int low),some (.int (ps.length:Int)),some (.int u),some (.int d),some (.int c),some (.int o)] H₃:=fun c o c0 c1 o0 o1 hs=>by
   dsimp only[restW]
   simp only[f_law_till_and_purse,Sts.drop,Sts.forBody]
   (simp only[sf_asg,sS,sZ,qE_bin,qE_var,gS,gZ,v_some,b_add,b_mul])
   refine⟨.inl ⟨by exact lb [_] [] (.c (-18446744073709551616)) (.v 0) [.l (.c 1) (.v 0)] [1,1] rfl hu1,by exact lb [_] [] (.v 0) (.c 18446744073709551616) [.l (.v 0) (.c 1000)] [1,1] rfl hu2⟩,?_⟩
   dsimp only[restW]
   (simp only[sf_ex,qE_mt,qEs_cons,qEs_nil,qE_tup,List.length_cons,List.length_nil,Nat.reduceAdd,qE_var,gS,gZ,v_some])
   rw[r_L f1]
   refine⟨⟨by decide,by decide⟩,by decide,?_⟩
   rw[m_append f1]
   refine⟨by rw[lv_length,lim_eq];exact lB [] [_] (.n 0) (.c 16777216) [.B (.n 0) (.c 10)] [1,1] rfl hlt10,?_⟩
   have k1:(H₃.set F (.list (lv ps++[.tup [.int u,.int c]]))) F=some (.list (lv (ps++[(u,c)]))):=by rw[Hp.set_self,lv_append];rfl
   have k2:(H₃.set F (.list (lv ps++[.tup [.int u,.int c]]))) U=some (.list (lv qs)):=by rw[Hp.set_ne _ (Ne.symm nFU)];exact f2
   have k3:(H₃.set F (.list (lv ps++[.tup [.int u,.int c]]))) S=some (.dict (dset u (.bool true) kvs)):=by rw[Hp.set_ne _ (Ne.symm nFS)];exact f3
   have hE4:Ext H (H₃.set F (.list (lv ps++[.tup [.int u,.int c]]))):=.setNew _ hE3 hF
   generalize H₃.set F (.list (lv ps++[.tup [.int u,.int c]]))=H₄ at k1 k2 k3 hE4 ⊢
   have lk3:keys (dset u (.bool true) kvs)=(ps++[(u,c)]).map (·.1):=by rw[lk2];simp
   dsimp only[restW]
   (simp only[sf_ife,app_cons,app_nil,qE_cmp,asB_bool,qE_int,qE_bin,qE_var,gS,gZ,v_some,b_fdiv,b_mod,c_gt,decide_eq_true_eq])
   refine⟨⟨by decide,by decide⟩,by decide,ite_all (fun ξ=>?_) fun ξ=>?_⟩
   ·dsimp only[restW]
    (simp only[sf_ex,qE_mt,qEs_cons,qEs_nil,qE_tup,List.length_cons,List.length_nil,Nat.reduceAdd,qE_var,gS,gZ,v_some])
    rw[r_L k2]
    refine⟨⟨by decide,by decide⟩,by decide,?_⟩
    rw[m_append k2]
    refine⟨by rw[lv_length,lim_eq];exact lB [] [_,_] (.n 0) (.c 16777216) [.B (.n 1) (.c 10),.L (.n 0) (.n 1)] [1,1,1] rfl hlt10 lq,?_⟩
    dsimp only[restW]
    (simp only[s_nil])
    exact hK _ _ ⟨ps++[(u,c)],qs++[(u,o)],_,_,_,_,_,_,_,by rw[hr];simp,rfl,.setNew _ hE4 hU,by rw[Hp.set_ne _ nFU];exact k1,by rw[Hp.set_self,lv_append];rfl,by rw[Hp.set_ne _ (Ne.symm nUS)];exact k3,by simp [l1],lk3,T.add2 hup hu1 hu2 c0 c1 o0 o1 hs⟩
   ·dsimp only[restW]
    (simp only[s_nil])
    exact hK _ _ ⟨ps++[(u,c)],qs,_,_,_,_,_,_,_,by rw[hr];simp,rfl,hE4,k1,k2,k3,by simp [l1],lk3,T.add hup hu1 hu2 c0 c1 o0 hs⟩
  have st8:∀c o:Int,0≤c→c≤29→0≤o→o≤29→restW ⟨callN defs anc (n+2),anc⟩ false ((f_law_till_and_purse.body.drop 6).forBody.drop 9) K Q (fun c ξ H₁=>X c H₁)
    [some (.ro xs),some (.int most),some (.int m),some (.ref F),some (.ref U),some (.ref S),some (.int low),some (.int (ps.length:Int)),some (.int u),some (.int d),some (.int c),some (.int o)] H₃:=fun c o c0 c1 o0 o1=>by
   dsimp only[restW]
   simp only[f_law_till_and_purse,Sts.drop,Sts.forBody]
   (simp only[sf_ife,app_cons,app_nil,qE_cmp,asB_bool,qE_int,qE_bin,qE_var,gS,gZ,v_some,b_add,b_mul,c_gt,decide_eq_true_eq])
   refine⟨.inl ⟨by exact lb [_] [] (.c (-18446744073709551616)) (.v 0) [.l (.c 1) (.v 0)] [1,1] rfl hu1,by exact lb [_] [] (.v 0) (.c 18446744073709551616) [.l (.v 0) (.c 1000)] [1,1] rfl hu2⟩,ite_all (fun ξ=>?_) fun h=>?_⟩
   ·dsimp only[restW]
    (simp -implicitDefEqProofs only[sf_asg,sS,sZ,qE_int])
    dsimp only[restW]
    (simp only[sf_asg,sS,sZ,qE_int])
    exact st9 0 0 (by decide) (by decide) (by decide) (by decide) (by have:=T.most;omega)
   ·exact st9 c o c0 c1 o0 o1 (by exact (Int.not_lt.mp h))
  have st7:∀c o:Int,0≤c→c≤29→0≤o→o≤29→restW ⟨callN defs anc (n+2),anc⟩ false ((f_law_till_and_purse.body.drop 6).forBody.drop 8) K Q (fun c ξ H₁=>X c H₁)
    [some (.ro xs),some (.int most),some (.int m),some (.ref F),some (.ref U),some (.ref S),some (.int low),some (.int (ps.length:Int)),some (.int u),some (.int d),some (.int c),some (.int o)] H₃:=fun c o c0 c1 o0 o1=>by
   dsimp only[restW]
   simp only[f_law_till_and_purse,Sts.drop,Sts.forBody]
   (simp only[sf_ife,app_cons,app_nil,qE_cmp,asB_bool,qE_int,qE_var,gS,gZ,v_some,c_gt,decide_eq_true_eq])
   refine ite_all (fun ξ=>?_) fun h=>?_
   ·dsimp only[restW]
    (simp only[sf_asg,sS,sZ,qE_bin,qE_int,qE_var,gS,gZ,v_some,b_mod])
    refine⟨by decide,?_⟩
    dsimp only[restW]
    (simp only[sf_asg,sS,sZ,qE_bin,qE_int,qE_var,gS,gZ,v_some,b_mod])
    exact⟨by decide,st8 _ _ (by exact la [_] [] (.c 0) (.v 0) [.l (.c 0) (.v 0)] [1,1] rfl (em0 2 rfl)) (by exact la [_] [] (.v 0) (.c 29) [.b (.v 0) (.c 2)] [1,1] rfl (em1 2 rfl)) (by exact la [_] [] (.c 0) (.v 0) [.l (.c 0) (.v 0)] [1,1] rfl (em0 2 rfl)) (by exact la [_] [] (.v 0) (.c 29) [.b (.v 0) (.c 2)] [1,1] rfl (em1 2 rfl))⟩
   ·exact st8 c o c0 c1 o0 o1
  have st6:∀c:Int,0≤c→c≤29→restW ⟨callN defs anc (n+2),anc⟩ false ((f_law_till_and_purse.body.drop 6).forBody.drop 6) K Q (fun c ξ H₁=>X c H₁)
    [some (.ro xs),some (.int most),some (.int m),some (.ref F),some (.ref U),some (.ref S),some (.int low),some (.int (ps.length:Int)),some (.int u),some (.int d),some (.int c),x11] H₃:=fun c c0 c1=>by
   dsimp only[restW]
   simp only[f_law_till_and_purse,Sts.drop,Sts.forBody]
   (simp only[sf_asg,sS,sZ,qE_bin,qE_int,qE_var,gS,gZ,v_some,b_fdiv,b_mod])
   refine⟨⟨by decide,by decide⟩,by decide,?_⟩
   dsimp only[restW]
   (simp only[sf_ife,app_cons,app_nil,qE_cmp,asB_bool,qE_int,qE_bin,qE_var,gS,gZ,v_some,b_fdiv,b_mod,c_eqI,decide_eq_true_eq])
   refine⟨⟨by decide,by decide⟩,by decide,ite_all (fun ξ=>?_) fun h=>?_⟩
   ·dsimp only[restW]
    (simp only[sf_asg,sS,sZ,qE_bin,qE_int,qE_var,gS,gZ,v_some,b_fdiv,b_mod])
    exact⟨⟨by decide,by decide⟩,by decide,st7 c _ c0 c1 (by exact la [_] [] (.c 0) (.v 0) [.l (.c 0) (.v 0)] [1,1] rfl (em0 30 rfl)) (by exact la [_] [] (.v 0) (.c 29) [.b (.v 0) (.c 30)] [1,1] rfl (em1 30 rfl))⟩
   ·exact st7 c _ c0 c1 (by exact la [_] [] (.c 0) (.v 0) [.l (.c 0) (.v 0)] [1,1] rfl (em0 4 rfl)) (by exact la [_] [] (.v 0) (.c 29) [.b (.v 0) (.c 4)] [1,1] rfl (em1 4 rfl))
  dsimp only[restW]
  (simp only[sf_asg,sS,sZ,qE_bin,qE_int,qE_var,gS,gZ,v_some,b_fdiv,b_mod])
  refine⟨⟨by decide,by decide⟩,by decide,?_⟩
  dsimp only[restW]
  (simp only[sf_ife,app_cons,app_nil,qE_cmp,asB_bool,qE_int,qE_bin,qE_var,gS,gZ,v_some,b_mod,c_eqI,decide_eq_true_eq])
  refine⟨by decide,ite_all (fun ξ=>?_) fun h=>?_⟩
  ·dsimp only[restW]
   (simp only[sf_asg,sS,sZ,qE_bin,qE_int,qE_var,gS,gZ,v_some,b_fdiv,b_mod])
   exact⟨⟨by decide,by decide⟩,by decide,st6 _ (by exact la [_] [] (.c 0) (.v 0) [.l (.c 0) (.v 0)] [1,1] rfl (em0 30 rfl)) (by exact la [_] [] (.v 0) (.c 29) [.b (.v 0) (.c 30)] [1,1] rfl (em1 30 rfl))⟩
  ·exact st6 _ (by exact la [_] [] (.c 0) (.v 0) [.l (.c 0) (.v 0)] [1,1] rfl (em0 4 rfl)) (by exact la [_] [] (.v 0) (.c 29) [.b (.v 0) (.c 4)] [1,1] rfl (em1 4 rfl))
end
theorem free_inj {f:Nat→Int} (hf:∀i j,f i=f j→i=j) (L:List Int):∃n,n≤L.length∧f n∉L:=by
 refine Classical.byContradiction fun h=>?_
 have all:∀n,n≤L.length→f n∈L:=fun n hn=>Classical.byContradiction fun q=>h ⟨n,hn,q⟩
 have nd:((List.range (L.length+1)).map f).Nodup:=by
  rw[List.nodup_iff_pairwise_ne,List.pairwise_map]
  exact (List.nodup_iff_pairwise_ne.mp List.nodup_range).imp fun h e=>h (hf _ _ e)
 have:=nodup_le nd (ks:=L) fun x hx=>by
  obtain⟨k,hk,rfl⟩:=List.mem_map.mp hx
  exact all k (by have:=List.mem_range.mp hk;exact lA [] [_,_] (.n 0) (.n 1) [.B (.n 0) (.a (.n 1) (.c 1))] [1,1] rfl this)
 rw[List.length_map,List.length_range] at this
 exact lf [] [_] [.L (.a (.n 0) (.c 1)) (.n 0)] [1] rfl this
theorem inL_ints {H:Hp}{x:Int} (l:List Int):inL H (.int x) (l.map V.int)=some (decide (x∈l)):=by
 induction l with
 | nil=>rfl
 | cons y l ih =>
  show oor (veq eqFuel H (.int y) (.int x)) (inL H (.int x) (l.map V.int))=_
  rw[ih]
  show some (decide (y=x) || decide (x∈l))=_
  congr 1
  by_cases e:y=x
  ·simp [e]
  ·have e':¬x=y:=fun q=>e q.symm
   simp [e,e']
theorem c_inI {H:Hp}{p:Addr}{x:Int}{l:List Int}{B:Bool→Hp→Prop} (h:H p=some (.list (l.map V.int))):wcmp .isIn (.int x) (.ref p) B H=B (decide (x∈l)) H:=by rw[c_inL h,inL_ints];exact exB rfl fun c=>B c H
theorem c_notInI {H:Hp}{p:Addr}{x:Int}{l:List Int}{B:Bool→Hp→Prop} (h:H p=some (.list (l.map V.int))):wcmp .notIn (.int x) (.ref p) B H=B (!decide (x∈l)) H:=by rw[c_notInL h,inL_ints];exact exB rfl fun c=>B (!c) H
section
variable {defs:String→Option Fn}{anc:String→List String}{n:Nat}{Q:V→Hp→Prop}{X:String→Hp→Prop}{H:Hp}
theorem comp_keys {ρ:Loc}{p:Addr}{ps:PL}{i:Nat} (hp:H p=some (.list (lv ps))) (hl:ps.length≤1000) (hi:i<ρ.length) (hq:∀a,H a=none→Q (.ref a) (H.set a (.list ((ps.map (·.1)).map V.int)))) :
  srcW (.ref p) (fun its w H₁=>compGo (.one i) w ρ (fun ρ' K H₂=>varW ρ'[i]? fun v=>widx v (.int 0) K H₂) (fun ξ K H₂=>K true H₂) its [] (fun vs H₂=>newL vs Q H₂) H₁) H:=by
 refine src_of hp ?_
 rw[lvIt]
 refine compGo_all _ (fun e=>V.int e.1) (okH_one hp) (by rw[lim_eq];exact lA [] [_] (.n 0) (.c 16777216) [.L (.n 0) (.c 1000)] [1,1] rfl hl) ?_ ⟨by rw[List.length_map,lim_eq];exact lA [] [_] (.n 0) (.c 16777216) [.L (.n 0) (.c 1000)] [1,1] rfl hl,fun a ha=>?_⟩
 ·intro e he
  refine⟨_,rfl,fun K hK=>?_⟩
  rw[List.getElem?_set_self hi]
  (simp only[v_some,i_pv0])
  exact hK
 ·have:=hq a ha
  rw[List.map_map] at this
  exact this
theorem tp_spec (h1:defs "_law_mixed" = some f_law_mixed) (h4:defs "_law_cell_at" = some f_law_cell_at) (h5:defs "_law_till_and_purse" = some f_law_till_and_purse)
  (hval:∀ {Q:V→Hp→Prop}{X:String→Hp→Prop}{H:Hp}{c k:Int},1≤k→k≤11→(∀v H',1≤v→v≤1000→Ext H H'→Q (.int v) H')→callN defs anc (n+2) "_law_value" [.int c,.int k] Q X H)
  {xs:List Int}{most:Int} (hm0:1≤most) (hm6:most≤6) (hq:∀ps qs t u a H',TP ps qs most→Ext H H'→H' t=some (.list (lv ps))→H' u=some (.list (lv qs))→H' a=some (.list [.ref t,.ref u])→Q (.ref a) H') :
  callN defs anc (n+3) "_law_till_and_purse" [.ro xs,.int most] Q X H:=by
 refine call_of h5 rfl ?_
 have fin:∀m:Int,1≤m→m≤10→(most≤3→m≤most)→restW ⟨callN defs anc (n+2),anc⟩ false (f_law_till_and_purse.body.drop 2) (fun ξ H₁=>Q .none H₁) Q (fun c ξ H₁=>X c H₁) [some (.ro xs),some (.int most),some (.int m),none,none,none,none,none,none,none,none,none] H:=fun m m1 m10 mm=>by
  dsimp only[restW]
  simp -implicitDefEqProofs only[f_law_till_and_purse,Sts.drop]
  (simp only[sf_asg,sS,sZ,qE_list,qEs_nil])
  refine⟨by decide,fun F hF=>?_⟩
  dsimp only[restW]
  (simp only[sf_asg,sS,sZ,qE_list,qEs_nil])
  refine⟨by decide,fun U hU=>?_⟩
  dsimp only[restW]
  (simp only[sf_asg,sS,sZ,qE_dict0])
  intro S hS
  dsimp only[restW]
  (simp only[sf_asg,sS,sZ,qE_int])
  have hEF:=Ext.new (.list []) hF
  have hEU:=hEF.trans (Ext.new (.list []) hU)
  have nFU:F≠U:=ne_new (Hp.set_self H F (.list [])) hU
  have nFS:F≠S:=ne_new (Ext.new (.list []) hU _ _ (Hp.set_self H F (.list []))) hS
  have nUS:U≠S:=ne_new (Hp.set_self _ U (.list [])) hS
  have hU0:=hEF.no hU
  have hS0:=hEU.no hS
  dsimp only[restW]
  refine for_cons ⟨rfl,?_⟩
  (simp only[sr_r1,qE_var,gS,gZ,v_some,r1_i])
  refine⟨⟨by exact lb [_] [] (.c (-4611686018427387904)) (.v 0) [.l (.c 1) (.v 0)] [1,1] rfl m1,by exact lb [_] [] (.v 0) (.c 4611686018427387904) [.l (.v 0) (.c 10)] [1,1] rfl m10⟩,?_⟩
  refine forGo_inv (I:=TPI H xs most m F U S) ?_ ?_ ?_ _ [] _ _ ⟨[],[],[],0,none,none,none,none,none,rfl,rfl,hEU.trans (.new _ hS),?_,?_,Hp.set_self _ _ _,rfl,rfl,⟨.nil,nofun,nofun,nofun,.refl _,by decide,by decide⟩⟩
  ·intro _ _ _ _ _ p hp;cases hp
  ·rintro done ρ H' ⟨ps,qs,kvs,low,x7,x8,x9,x10,x11,hr,rfl,hE,e1,e2,e3,l1,l2,T⟩
   have hl:=congrArg List.length hr
   rw[rangeL_length,List.append_nil] at hl
   have hl10:ps.length≤10:=by exact lA [_] [_,_,_] (.n 0) (.c 10) [.l (.v 0) (.c 10),.E (.n 0) (.n 1),.E (.n 2) (.n 1),.e (.t (.n 2)) (.v 0)] [1,1,1,-1,1] rfl m10 l1 hl (tnE (a:=m) (la [_] [] (.c 0) (.v 0) [.l (.c 1) (.v 0)] [1,1] rfl m1))
   have lq:=T.sub.length_le
   rw[List.length_map,List.length_map] at lq
   dsimp only[restW]
   (simp only[s_ret,qE_list,qEs_cons,qEs_nil,qE_bc,qE_var,gS,gZ,v_some,true_and])
   rw[f_sortL e1]
   refine⟨by rw[lv_length];exact lB [] [_] (.n 0) (.c 64) [.L (.n 0) (.c 10)] [1,1] rfl hl10,.inr ⟨ps,rfl,T.nodup,fun as g1 g2=>⟨by rw[List.length_map,g1.length_eq,lim_eq];exact lA [] [_] (.n 0) (.c 16777216) [.L (.n 0) (.c 10)] [1,1] rfl hl10,fun t ht=>?_⟩⟩⟩
   dsimp only
   rw[f_sortL (Ext.new _ ht _ _ e2)]
   refine⟨by rw[lv_length];exact lB [] [_,_] (.n 0) (.c 64) [.L (.n 1) (.c 10),.L (.n 0) (.n 1)] [1,1,1] rfl hl10 lq,.inr ⟨qs,rfl,T.nodup.sublist T.sub,fun bs k1 k2=>⟨by rw[List.length_map,k1.length_eq,lim_eq];exact lA [] [_,_] (.n 0) (.c 16777216) [.L (.n 1) (.c 10),.L (.n 0) (.n 1)] [1,1,1] rfl hl10 lq,fun u hu=>⟨Nat.le_of_ble_eq_true rfl,fun a ha=>?_⟩⟩⟩⟩
   have E1:=Ext.new (.list (as.map pairV)) ht
   have E2:=Ext.new (.list (bs.map pairV)) hu
   have E3:=Ext.new (.list [V.ref t,V.ref u]) ha
   exact hq as bs t u a _ (T.done g1 k1 g2 k2 (by exact lA [_] [_,_,_] (.c 1) (.n 0) [.l (.c 1) (.v 0),.E (.n 0) (.n 1),.E (.n 2) (.n 1),.l (.v 0) (.t (.n 2))] [1,1,-1,1,1] rfl m1 l1 hl (tn0 (a:=m))) hl10 (fun h=>by have:=mm h;exact la [_,_] [_,_,_] (.t (.n 0)) (.v 0) [.E (.n 0) (.n 1),.E (.n 2) (.n 1),.l (.v 1) (.v 0),.e (.t (.n 2)) (.v 1)] [1,1,-1,1,1] rfl l1 hl this (tnE (a:=m) (la [_] [] (.c 0) (.v 0) [.l (.c 1) (.v 0)] [1,1] rfl m1)))) (((hE.trans E1).trans E2).trans E3) ((E2.trans E3) _ _ (Hp.set_self _ _ _)) (E3 _ _ (Hp.set_self _ _ _)) (Hp.set_self _ _ _)
  ·intro done it rest ρ H' K I hK
   exact tp_loop h1 h4 hval m1 m10 hF hU0 hS0 nFU nFS nUS I hK
  ·rw[Hp.set_ne _ nFS,Hp.set_ne _ nFU];exact Hp.set_self _ _ _
  ·rw[Hp.set_ne _ nUS];exact Hp.set_self _ _ _
 simp -implicitDefEqProofs only[f_law_till_and_purse]
 (simp only[List.map_cons,List.map_nil,List.length_cons,List.length_nil,Nat.reduceAdd,Nat.reduceSub,List.replicate,List.cons_append,List.nil_append,sf_asg,sS,sZ,qE_bin,qE_var,gS,gZ,v_some,qE_call,qEs_cons,qEs_nil,qE_int,true_and])
 refine cell_at_spec h4 (by decide) (by decide) fun c=>?_
 (simp only[b_mod,b_add])
 have e1:=Int.emod_nonneg c (show most≠0 by exact lf [_] [] [.l (.c 1) (.v 0),.e (.v 0) (.c 0)] [1,1] rfl hm0)
 have e2:=Int.emod_lt_of_pos c (show 0<most by exact lb [_] [] (.c 0) (.v 0) [.l (.c 1) (.v 0)] [1,1] rfl hm0)
 refine⟨by exact lb [_] [] (.c 0) (.v 0) [.l (.c 1) (.v 0)] [1,1] rfl hm0,?_⟩
 have base:=fin (1+c % most) (by exact la [_] [] (.c 1) (.a (.c 1) (.v 0)) [.l (.c 0) (.v 0)] [1,1] rfl e1) (by exact la [_,_] [] (.a (.c 1) (.v 0)) (.c 10) [.l (.v 1) (.c 6),.b (.v 0) (.v 1)] [1,1,1] rfl hm6 e2) (fun h=>by exact la [_,_] [] (.a (.c 1) (.v 0)) (.v 1) [.b (.v 0) (.v 1)] [1,1] rfl e2)
 dsimp only[restW]
 (simp only[sf_ife,app_cons,app_nil,qE_bop,qB_more,qB_one,qE_cmp,asB_bool,qE_int,qE_bin,qE_var,gS,gZ,v_some,qE_call,qEs_cons,qEs_nil,true_and,c_gt,decide_eq_true_eq])
 by_cases h3:3<most
 ·refine iteP h3 ?_
  refine cell_at_spec h4 (by decide) (by decide) fun c'=>?_
  (simp only[b_fdiv,b_mod,c_eqI,decide_eq_true_eq])
  refine⟨⟨by exact lb [_] [] (.c 0) (.v 0) [.l (.c 1) (.v 0)] [1,1] rfl hm0,by exact lb [_] [] (.v 0) (.c 1073741824) [.l (.v 0) (.c 6)] [1,1] rfl hm6⟩,by decide,ite_all (fun ξ=>?_) fun ξ=>base⟩
  dsimp only[restW]
  (simp only[sf_asg,sS,sZ,qE_bin,qE_int,qE_var,gS,gZ,v_some,qE_call,qEs_cons,qEs_nil,true_and])
  refine cell_at_spec h4 (by decide) (by decide) fun c2=>?_
  (simp only[b_fdiv,b_mod,b_add])
  exact⟨⟨by exact lb [_] [] (.c 0) (.v 0) [.l (.c 1) (.v 0)] [1,1] rfl hm0,by exact lb [_] [] (.v 0) (.c 1073741824) [.l (.v 0) (.c 6)] [1,1] rfl hm6⟩,⟨by decide,by decide⟩,by decide,fin _ (by exact la [_] [] (.c 1) (.a (.c 7) (.v 0)) [.l (.c 0) (.v 0)] [1,1] rfl (em0 4 rfl)) (by exact la [_] [] (.a (.c 7) (.v 0)) (.c 10) [.b (.v 0) (.c 4)] [1,1] rfl (em1 4 rfl)) (fun h=>absurd h3 (by exact lf [_] [] [.l (.v 0) (.c 3),.b (.c 3) (.v 0)] [1,1] rfl h))⟩
 ·exact iteN h3 (iteN h3 base)
end
theorem worthL_app (a b:PL):worthL (a++b)=worthL a+worthL b:=by rw[worthL,List.map_append,List.sum_append];rfl
theorem TP.pp {ps qs:PL}{most:Int} (T:TP ps qs most):PP ps:=⟨by have:=T.len;exact lA [] [_] (.n 0) (.c 60) [.L (.n 0) (.c 10)] [1,1] rfl this,T.nodup,fun q h=>⟨(T.val q h).1,by have:=(T.val q h).2;exact la [_] [] (.v 0) (.c 2000) [.l (.v 0) (.c 1000)] [1,1] rfl this⟩,fun q h=>⟨(T.cnt q h).1,by have:=(T.cnt q h).2;exact la [_] [] (.v 0) (.c 1000000000) [.l (.v 0) (.c 29)] [1,1] rfl this⟩⟩
theorem TP.ppq {ps qs:PL}{most:Int} (T:TP ps qs most):PP qs:=⟨by have:=T.len;have:=T.lenq;omega,T.nodupq,fun q h=>by
  obtain⟨y,hy,e⟩:=List.mem_map.mp (T.kinds q h)
  have:=T.val y hy
  rw[←e];exact⟨this.1,la [_] [] (.v 0) (.c 2000) [.l (.v 0) (.c 1000)] [1,1] rfl this.2⟩,fun q h=>⟨(T.cntq q h).1,by have:=(T.cntq q h).2;exact la [_] [] (.v 0) (.c 1000000000) [.l (.v 0) (.c 29)] [1,1] rfl this⟩⟩
theorem PP.perm {a b:PL} (P:PP b) (h:a.Perm b):PP a:=⟨by rw[h.length_eq];exact P.len,((h.map _).nodup_iff).mpr P.nodup,fun q hq=>P.val q (h.mem_iff.mp hq),fun q hq=>P.cnt q (h.mem_iff.mp hq)⟩
theorem PP.snoc {ps:PL}{u c:Int} (P:PP ps) (hl:ps.length≤50) (hu:u∉ps.map (·.1)) (u0:1≤u) (u1:u≤2000) (c0:0≤c) (c1:c≤1000000000):PP (ps++[(u,c)]):=⟨by rw[List.length_append];simp;exact lA [] [_] (.n 0) (.c 59) [.L (.n 0) (.c 50)] [1,1] rfl hl,by rw[List.map_append];exact nodup_snoc P.nodup hu,
 fun q hq=>(List.mem_append.mp hq).elim (P.val q) fun h=>by rw[List.mem_singleton] at h;subst h;exact⟨u0,u1⟩,fun q hq=>(List.mem_append.mp hq).elim (P.cnt q) fun h=>by rw[List.mem_singleton] at h;subst h;exact⟨c0,c1⟩⟩
section
variable {defs:String→Option Fn}{anc:String→List String}{n:Nat}{Q:V→Hp→Prop}{X:String→Hp→Prop}{H:Hp}
end
section
variable {defs:String→Option Fn}{n:Nat}{Q:V→Hp→Prop}{X:String→Hp→Prop}{H:Hp}
end
section
variable {Q:V→Hp→Prop}{X:String→Hp→Prop}{H:Hp}
end
end Mine
end

section
namespace Mine
noncomputable def f_number_of:Fn:=⟨5,7,["ahead", "least", "place", "value", "most", "number", "at"],
 (.cons (.asg 5 (.var 4))
 (.cons (.whl (.bool true) (.cons (.asg 6 (.bin .sub (.var 2) (.bin .mul (.var 5) (.var 3))))
  (.cons (.ife (.bop true (.cons (.cmp2 .le .lt (.int 0) (.var 6) (.bc .len (.cons (.var 0) .nil))) (.cons (.cmp .isNot (.idx (.var 0) (.var 6)) .none) (.cons (.cmp .eq (.bin .add (.idx (.var 0) (.var 6)) (.bc .abs (.cons (.var 5) .nil))) (.var 1)) .nil)))) (.cons (.ret (.var 5))
   .nil) .nil)
  (.cons (.asg 5 (.bin .sub (.var 5) (.int 1)))
  .nil))))
 .nil))⟩
noncomputable def f_way_of:Fn:=⟨3,10,["till", "purse", "place", "rows", "counts", "found", "at", "k", "value", "number"],
 (.cons (.asg 3 (.call "rows_of" (.cons (.var 0) (.cons (.var 1) .nil))))
 (.cons (.ife (.bop false (.cons (.cmp .ge (.var 2) (.bc .len (.cons (.idx (.var 3) (.neg (.int 1))) .nil))) (.cons (.cmp .is (.idx (.idx (.var 3) (.neg (.int 1))) (.var 2)) .none) .nil))) (.cons (.ret .none)
  .nil) .nil)
 (.cons (.asg 4 (.call "counts_of" (.cons (.var 1) .nil)))
 (.cons (.asg 5 (.list .nil))
 (.cons (.asg 6 (.var 2))
 (.cons (.for (.one 7) (.range3 (.bin .sub (.bc .len (.cons (.var 0) .nil)) (.int 1)) (.neg (.int 1)) (.neg (.int 1))) (.cons (.asg 8 (.idx (.idx (.var 0) (.var 7)) (.int 0)))
  (.cons (.asg 9 (.call "number_of" (.cons (.idx (.var 3) (.var 7)) (.cons (.idx (.idx (.var 3) (.bin .add (.var 7) (.int 1))) (.var 6)) (.cons (.var 6) (.cons (.var 8) (.cons (.mt .get (.var 4) (.cons (.var 8) (.cons (.int 0) .nil))) .nil)))))))
  (.cons (.ex (.mt .append (.var 5) (.cons (.tup (.cons (.var 8) (.cons (.var 9) .nil))) .nil)))
  (.cons (.asg 6 (.bin .sub (.var 6) (.bin .mul (.var 9) (.var 8))))
  .nil)))))
 (.cons (.ret (.var 5))
 .nil)))))))⟩
noncomputable def f_deal:Fn:=⟨3,6,["till", "purse", "price", "way", "pays", "backs", "value", "number"],
 (.cons (.ex (.call "need_sum" (.cons (.var 2) .nil)))
 (.cons (.ex (.call "need_purse" (.cons (.var 0) (.cons (.var 1) .nil))))
 (.cons (.asg 3 (.call "way_of" (.cons (.var 0) (.cons (.var 1) (.cons (.bin .add (.var 2) (.call "worth" (.cons (.var 0) .nil))) .nil)))))
 (.cons (.ife (.cmp .is (.var 3) .none) (.cons (.raise "NoChange" "there is no way")
  .nil) .nil)
 (.cons (.asg 4 (.compIf (.tup (.cons (.var 6) (.cons (.var 7) .nil))) (.two 6 7) (.ex (.var 3)) (.cmp .gt (.var 7) (.int 0))))
 (.cons (.asg 5 (.compIf (.tup (.cons (.var 6) (.cons (.neg (.var 7)) .nil))) (.two 6 7) (.ex (.var 3)) (.cmp .lt (.var 7) (.int 0))))
 (.cons (.ret (.tup (.cons (.rev (.var 4)) (.cons (.rev (.var 5)) .nil))))
 .nil)))))))⟩
noncomputable def f_law_part:Fn:=⟨2,5,["_law_found", "_law_most", "_law_last", "_law_total_here", "_law_pair"],
 (.cons (.ife (.nt (.isi (.var 0) [.list])) (.cons (.ret (.neg (.int 1)))
  .nil) .nil)
 (.cons (.asg 2 (.int 0))
 (.cons (.asg 3 (.int 0))
 (.cons (.for (.one 4) (.ex (.var 0)) (.cons (.ife (.bop false (.cons (.nt (.isi (.var 4) [.tuple])) (.cons (.cmp .ne (.bc .len (.cons (.var 4) .nil)) (.int 2)) (.cons (.nt (.call "_law_whole" (.cons (.idx (.var 4) (.int 0)) .nil))) (.cons (.nt (.call "_law_whole" (.cons (.idx (.var 4) (.int 1)) .nil))) .nil))))) (.cons (.ret (.neg (.int 1)))
   .nil) .nil)
  (.cons (.ife (.bop false (.cons (.cmp .le (.idx (.var 4) (.int 0)) (.var 2)) (.cons (.cmp .lt (.idx (.var 4) (.int 1)) (.int 1)) (.cons (.cmp .gt (.idx (.var 4) (.int 1)) (.call "_law_own" (.cons (.var 1) (.cons (.idx (.var 4) (.int 0)) .nil)))) .nil)))) (.cons (.ret (.neg (.int 1)))
   .nil) .nil)
  (.cons (.asg 2 (.idx (.var 4) (.int 0)))
  (.cons (.asg 3 (.bin .add (.var 3) (.bin .mul (.idx (.var 4) (.int 0)) (.idx (.var 4) (.int 1)))))
  .nil)))))
 (.cons (.ret (.var 3))
 .nil)))))⟩
noncomputable def f_law_pieces:Fn:=⟨1,1,["_law_pairs", "_law_pair"],
 (.cons (.ret (.bc .sum (.cons (.comp (.idx (.var 1) (.int 1)) (.one 1) (.ex (.var 0))) .nil)))
 .nil)⟩
noncomputable def f_law_deal:Fn:=⟨3,3,["_law_till", "_law_purse", "_law_price_here"],
 (.cons (.tr (.cons (.ret (.list (.cons (.str "") (.cons (.call "deal" (.cons (.var 0) (.cons (.var 1) (.cons (.var 2) .nil)))) .nil))))
  .nil) (.cons "NoKind" none (.cons (.ret (.list (.cons (.str "kind") (.cons (.tup .nil) .nil))))
  .nil) (.cons "NoSum" none (.cons (.ret (.list (.cons (.str "sum") (.cons (.tup .nil) .nil))))
  .nil) (.cons "NoChange" none (.cons (.ret (.list (.cons (.str "change") (.cons (.tup .nil) .nil))))
  .nil) .nil))))
 .nil)⟩
noncomputable def f_law_any_11:Fn:=⟨3,5,["_law_till", "_law_purse", "_law_price_here", "e", "_law_kinds"],
 (.cons (.tr (.cons (.ex (.call "deal" (.cons (.var 0) (.cons (.var 1) (.cons (.var 2) .nil)))))
  .nil) (.cons "TillError" (some 3) (.cons (.asg 4 (.list (.cons (.isi (.var 3) [.own "NoChange"]) (.cons (.isi (.var 3) [.own "NoKind"]) (.cons (.isi (.var 3) [.own "NoSum"]) .nil)))))
  (.cons (.ife (.isi (.var 3) [.own "NoCount",.own "NoDeed",.own "NoTill",.own "StillHeld",.own "TooFew",.own "TooLittle",.own "Twice"]) (.cons (.ret (.bool false))
   .nil) .nil)
  (.cons (.ret (.bop true (.cons (.isi (.var 3) [.valueError]) (.cons (.cmp .eq (.mt .count (.var 4) (.cons (.bool true) .nil)) (.int 1)) .nil))))
  .nil))) .nil))
 (.cons (.ret (.bool false))
 .nil))⟩
noncomputable def f_law_great:Fn:=⟨3,7,["_law_till", "_law_purse", "_law_cell", "_law_rest", "_law_one", "_law_values", "_law_many", "_law_pair"],
 (.cons (.asg 3 (.bin .sub (.bin .sub (.bin .add (.int 1500) (.bin .mod (.var 2) (.int 2))) (.call "_law_total" (.cons (.var 0) .nil))) (.call "_law_total" (.cons (.var 1) .nil))))
 (.cons (.asg 4 (.bin .fdiv (.var 3) (.int 2)))
 (.cons (.asg 5 (.comp (.idx (.var 7) (.int 0)) (.one 7) (.ex (.var 0))))
 (.cons (.whl (.bop false (.cons (.cmp .isIn (.var 4) (.var 5)) (.cons (.cmp .isIn (.bin .sub (.var 3) (.var 4)) (.var 5)) (.cons (.cmp .eq (.bin .add (.var 4) (.var 4)) (.var 3)) .nil)))) (.cons (.asg 4 (.bin .sub (.var 4) (.int 1)))
  .nil))
 (.cons (.asg 6 (.idx (.list (.cons (.int 1) (.cons (.int 1) (.cons (.bin .add (.int 1) (.bin .mod (.bin .fdiv (.var 2) (.int 6)) (.bin .pow (.int 10) (.int 6)))) .nil)))) (.bin .mod (.bin .fdiv (.var 2) (.int 2)) (.int 3))))
 (.cons (.ife (.cmp .eq (.bin .mod (.bin .fdiv (.var 2) (.int 4)) (.int 2)) (.int 1)) (.cons (.ret (.list (.cons (.bc .sorted (.cons (.bin .add (.var 0) (.list (.cons (.tup (.cons (.var 4) (.cons (.var 6) .nil))) (.cons (.tup (.cons (.bin .sub (.var 3) (.var 4)) (.cons (.int 0) .nil))) .nil)))) .nil)) (.cons (.bc .sorted (.cons (.bin .add (.var 1) (.list (.cons (.tup (.cons (.bin .sub (.var 3) (.var 4)) (.cons (.int 1) .nil))) .nil))) .nil)) .nil))))
  .nil) .nil)
 (.cons (.ret (.list (.cons (.bc .sorted (.cons (.bin .add (.var 0) (.list (.cons (.tup (.cons (.var 4) (.cons (.var 6) .nil))) (.cons (.tup (.cons (.bin .sub (.var 3) (.var 4)) (.cons (.int 1) .nil))) .nil)))) .nil)) (.cons (.var 1) .nil))))
 .nil)))))))⟩
noncomputable def f_law_price:Fn:=⟨3,5,["_law_till", "_law_purse", "_law_cell", "_law_price_here", "_law_k"],
 (.cons (.asg 3 (.int 0))
 (.cons (.for (.one 4) (.range1 (.bc .len (.cons (.var 1) .nil))) (.cons (.asg 3 (.bin .add (.var 3) (.bin .mul (.idx (.idx (.var 1) (.var 4)) (.int 0)) (.bin .mod (.call "_law_mixed" (.cons (.var 2) (.cons (.var 4) .nil))) (.bin .add (.idx (.idx (.var 1) (.var 4)) (.int 1)) (.int 1))))))
  .nil))
 (.cons (.for (.one 4) (.range1 (.bc .len (.cons (.var 0) .nil))) (.cons (.ife (.bop true (.cons (.cmp .ge (.var 3) (.idx (.idx (.var 0) (.var 4)) (.int 0))) (.cons (.cmp .gt (.idx (.idx (.var 0) (.var 4)) (.int 1)) (.int 0)) (.cons (.cmp .eq (.bin .mod (.call "_law_mixed" (.cons (.var 2) (.cons (.bin .add (.int 20) (.var 4)) .nil))) (.int 3)) (.int 1)) .nil)))) (.cons (.asg 3 (.bin .sub (.var 3) (.idx (.idx (.var 0) (.var 4)) (.int 0))))
   .nil) .nil)
  .nil))
 (.cons (.ret (.bc .min2 (.cons (.int 1000) (.cons (.var 3) .nil))))
 .nil))))⟩
noncomputable def f_law_pays_back:Fn:=⟨3,5,["_law_till", "_law_found", "_law_price_here", "_law_values", "_law_pair"],
 (.cons (.asg 3 (.list .nil))
 (.cons (.for (.one 4) (.ex (.idx (.var 1) (.int 0))) (.cons (.asg 3 (.bin .add (.var 3) (.bin .mul (.list (.cons (.idx (.var 4) (.int 0)) .nil)) (.idx (.var 4) (.int 1)))))
  .nil))
 (.cons (.ife (.cmp .gt (.bc .len (.cons (.var 3) .nil)) (.int 60)) (.cons (.ret (.bool true))
  .nil) .nil)
 (.cons (.ret (.cmp .eq (.call "_law_pieces" (.cons (.idx (.call "paid" (.cons (.var 0) (.cons (.var 2) (.cons (.var 3) .nil)))) (.int 1)) .nil)) (.call "_law_pieces" (.cons (.idx (.var 1) (.int 1)) .nil))))
 .nil))))⟩
noncomputable def f_law_makes:Fn:=⟨3,3,["_law_row_here", "_law_at", "_law_few"],
 (.cons (.ret (.bop true (.cons (.cmp .le (.int 0) (.var 1)) (.cons (.cmp .lt (.var 1) (.bc .len (.cons (.var 0) .nil))) (.cons (.cmp .eq (.idx (.var 0) (.var 1)) (.var 2)) .nil)))))
 .nil)⟩
noncomputable def f_law_exact_11:Fn:=⟨4,10,["_law_rows", "_law_till", "_law_purse", "_law_place", "_law_paying", "_law_giving", "_law_at", "_law_k", "_law_value_here", "_law_many"],
 (.cons (.asg 4 (.list .nil))
 (.cons (.asg 5 (.list .nil))
 (.cons (.asg 6 (.var 3))
 (.cons (.for (.one 7) (.range3 (.bc .len (.cons (.var 1) .nil)) (.int 0) (.neg (.int 1))) (.cons (.asg 8 (.idx (.idx (.var 1) (.bin .sub (.var 7) (.int 1))) (.int 0)))
  (.cons (.asg 9 (.call "_law_own" (.cons (.var 2) (.cons (.var 8) .nil))))
  (.cons (.whl (.nt (.call "_law_makes" (.cons (.idx (.var 0) (.bin .sub (.var 7) (.int 1))) (.cons (.bin .sub (.var 6) (.bin .mul (.var 9) (.var 8))) (.cons (.bin .sub (.idx (.idx (.var 0) (.var 7)) (.var 6)) (.bc .abs (.cons (.var 9) .nil))) .nil))))) (.cons (.asg 9 (.bin .sub (.var 9) (.int 1)))
   .nil))
  (.cons (.ife (.cmp .gt (.var 9) (.int 0)) (.cons (.ex (.mt .append (.var 4) (.cons (.tup (.cons (.var 8) (.cons (.var 9) .nil))) .nil)))
   .nil) .nil)
  (.cons (.ife (.cmp .lt (.var 9) (.int 0)) (.cons (.ex (.mt .append (.var 5) (.cons (.tup (.cons (.var 8) (.cons (.bin .sub (.int 0) (.var 9)) .nil))) .nil)))
   .nil) .nil)
  (.cons (.asg 6 (.bin .sub (.var 6) (.bin .mul (.var 9) (.var 8))))
  .nil)))))))
 (.cons (.ex (.mt .reverse (.var 4) .nil))
 (.cons (.ex (.mt .reverse (.var 5) .nil))
 (.cons (.ret (.list (.cons (.var 4) (.cons (.var 5) .nil))))
 .nil)))))))⟩
noncomputable def f_law_good:Fn:=⟨5,8,["_law_till", "_law_purse", "_law_price_here", "_law_found", "_law_few", "_law_one", "_law_other", "_law_pair"],
 (.cons (.ife (.bop false (.cons (.nt (.isi (.var 3) [.tuple])) (.cons (.cmp .ne (.bc .len (.cons (.var 3) .nil)) (.int 2)) .nil))) (.cons (.ret (.bool false))
  .nil) .nil)
 (.cons (.asg 5 (.call "_law_part" (.cons (.idx (.var 3) (.int 0)) (.cons (.var 1) .nil))))
 (.cons (.asg 6 (.call "_law_part" (.cons (.idx (.var 3) (.int 1)) (.cons (.var 0) .nil))))
 (.cons (.ife (.bop false (.cons (.cmp .lt (.var 5) (.int 0)) (.cons (.cmp .lt (.var 6) (.int 0)) (.cons (.cmp .ne (.bin .sub (.var 5) (.var 6)) (.var 2)) .nil)))) (.cons (.ret (.bool false))
  .nil) .nil)
 (.cons (.for (.one 7) (.ex (.idx (.var 3) (.int 0))) (.cons (.ife (.cmp .gt (.call "_law_own" (.cons (.idx (.var 3) (.int 1)) (.cons (.idx (.var 7) (.int 0)) .nil))) (.int 0)) (.cons (.ret (.bool false))
   .nil) .nil)
  .nil))
 (.cons (.ife (.cmp .ne (.bin .add (.call "_law_pieces" (.cons (.idx (.var 3) (.int 0)) .nil)) (.call "_law_pieces" (.cons (.idx (.var 3) (.int 1)) .nil))) (.var 4)) (.cons (.ret (.bool false))
  .nil) .nil)
 (.cons (.ret (.call "_law_pays_back" (.cons (.var 0) (.cons (.var 3) (.cons (.var 2) .nil)))))
 .nil)))))))⟩
noncomputable def f_law_walks:Fn:=⟨5,10,["_law_till", "_law_purse", "_law_price_here", "_law_handed", "_law_found", "_law_rows", "_law_at", "_law_few", "_law_kept", "_law_again"],
 (.cons (.asg 5 (.call "scales" (.cons (.bc .list (.cons (.var 0) .nil)) (.cons (.bc .list (.cons (.var 1) .nil)) .nil))))
 (.cons (.ife (.nt (.call "_law_scaled" (.cons (.var 5) (.cons (.var 0) (.cons (.var 1) .nil))))) (.cons (.ret (.bool false))
  .nil) .nil)
 (.cons (.asg 6 (.bin .add (.call "_law_total" (.cons (.var 0) .nil)) (.var 2)))
 (.cons (.ife (.bop false (.cons (.cmp .ge (.var 6) (.bc .len (.cons (.idx (.var 5) (.int 0)) .nil))) (.cons (.cmp .is (.idx (.idx (.var 5) (.bc .len (.cons (.var 0) .nil))) (.var 6)) .none) .nil))) (.cons (.ret (.cmp .eq (.idx (.var 4) (.int 0)) (.str "change")))
  .nil) .nil)
 (.cons (.asg 7 (.idx (.idx (.var 5) (.bc .len (.cons (.var 0) .nil))) (.var 6)))
 (.cons (.ife (.bop false (.cons (.cmp .ne (.idx (.var 4) (.int 0)) (.str "")) (.cons (.nt (.call "_law_good" (.cons (.var 0) (.cons (.var 1) (.cons (.var 2) (.cons (.idx (.var 4) (.int 1)) (.cons (.var 7) .nil))))))) .nil))) (.cons (.ret (.bool false))
  .nil) .nil)
 (.cons (.asg 8 (.list (.cons (.bc .list (.cons (.idx (.idx (.var 4) (.int 1)) (.int 0)) .nil)) (.cons (.bc .list (.cons (.idx (.idx (.var 4) (.int 1)) (.int 1)) .nil)) .nil))))
 (.cons (.ife (.cmp .ne (.var 8) (.call "_law_exact" (.cons (.var 5) (.cons (.var 0) (.cons (.var 1) (.cons (.var 6) .nil)))))) (.cons (.ret (.bool false))
  .nil) .nil)
 (.cons (.ex (.call "_law_deal" (.cons (.idx (.var 3) (.int 0)) (.cons (.idx (.var 3) (.int 1)) (.cons (.bin .fdiv (.var 2) (.int 2)) .nil)))))
 (.cons (.ife (.cmp .ne (.list (.cons (.idx (.idx (.var 4) (.int 1)) (.int 0)) (.cons (.idx (.idx (.var 4) (.int 1)) (.int 1)) .nil))) (.var 8)) (.cons (.ret (.bool false))
  .nil) .nil)
 (.cons (.ex (.mt .append (.idx (.idx (.var 4) (.int 1)) (.int 0)) (.cons (.tup (.cons (.int 7) (.cons (.int 7) .nil))) .nil)))
 (.cons (.asg 9 (.call "deal" (.cons (.idx (.var 3) (.int 0)) (.cons (.idx (.var 3) (.int 1)) (.cons (.var 2) .nil)))))
 (.cons (.ret (.cmp .eq (.list (.cons (.idx (.var 9) (.int 0)) (.cons (.idx (.var 9) (.int 1)) .nil))) (.var 8)))
 .nil)))))))))))))⟩
noncomputable def f_law_11:Fn:=⟨1,10,["_law_script", "_law_drawn", "_law_till", "_law_purse", "_law_cell", "_law_price_here", "_law_far", "_law_strange", "_law_handed", "_law_found", "_law_pair"],
 (.cons (.asg 1 (.call "_law_till_and_purse" (.cons (.var 0) (.cons (.int 6) .nil))))
 (.cons (.asg 2 (.idx (.var 1) (.int 0)))
 (.cons (.asg 3 (.idx (.var 1) (.int 1)))
 (.cons (.asg 4 (.call "_law_cell_at" (.cons (.var 0) (.cons (.int 3) .nil))))
 (.cons (.ife (.bop true (.cons (.cmp .eq (.bin .mod (.call "_law_cell_at" (.cons (.var 0) (.cons (.int 5) .nil))) (.int 12)) (.int 1)) (.cons (.cmp .lt (.bc .len (.cons (.var 2) .nil)) (.int 5)) .nil))) (.cons (.asg 1 (.call "_law_great" (.cons (.var 2) (.cons (.var 3) (.cons (.bin .fdiv (.call "_law_cell_at" (.cons (.var 0) (.cons (.int 5) .nil))) (.int 12)) .nil)))))
  (.cons (.asg 2 (.idx (.var 1) (.int 0)))
  (.cons (.asg 3 (.idx (.var 1) (.int 1)))
  .nil))) .nil)
 (.cons (.asg 5 (.call "_law_price" (.cons (.var 2) (.cons (.var 3) (.cons (.call "_law_cell_at" (.cons (.var 0) (.cons (.int 4) .nil))) .nil)))))
 (.cons (.ife (.cmp .eq (.bin .mod (.var 4) (.int 4)) (.int 1)) (.cons (.asg 5 (.bin .mod (.idx (.list (.cons (.bin .mod (.bin .fdiv (.var 4) (.int 12)) (.int 101)) (.cons (.bin .mod (.bin .fdiv (.var 4) (.int 12)) (.int 1001)) (.cons (.bin .add (.var 5) (.int 1)) .nil)))) (.bin .mod (.bin .fdiv (.var 4) (.int 4)) (.int 3))) (.int 1001)))
  .nil) .nil)
 (.cons (.ife (.bop false (.cons (.cmp .eq (.bin .mod (.var 4) (.int 16)) (.int 3)) (.cons (.cmp .eq (.bin .mod (.var 4) (.int 32)) (.int 7)) .nil))) (.cons (.asg 6 (.bin .mod (.bin .fdiv (.var 4) (.int 64)) (.bin .pow (.int 10) (.int 9))))
  (.cons (.asg 5 (.idx (.list (.cons (.neg (.int 1)) (.cons (.int 1001) (.cons (.bin .sub (.neg (.int 2)) (.var 6)) (.cons (.bin .add (.int 1002) (.var 6)) .nil))))) (.bin .mod (.bin .fdiv (.var 4) (.int 16)) (.int 4))))
  .nil)) .nil)
 (.cons (.asg 7 (.bop true (.cons (.cmp .eq (.bin .mod (.var 4) (.int 16)) (.int 7)) (.cons (.cmp .notIn (.int 1000) (.comp (.idx (.var 10) (.int 0)) (.one 10) (.ex (.var 2)))) .nil))))
 (.cons (.ife (.var 7) (.cons (.asg 3 (.bin .add (.var 3) (.list (.cons (.tup (.cons (.int 1000) (.cons (.bin .mod (.bin .fdiv (.var 4) (.int 16)) (.int 3)) .nil))) .nil))))
  .nil) .nil)
 (.cons (.asg 8 (.list (.cons (.bc .list (.cons (.var 2) .nil)) (.cons (.bc .list (.cons (.var 3) .nil)) .nil))))
 (.cons (.asg 9 (.call "_law_deal" (.cons (.idx (.var 8) (.int 0)) (.cons (.idx (.var 8) (.int 1)) (.cons (.var 5) .nil)))))
 (.cons (.ife (.bop false (.cons (.cmp .ne (.var 8) (.list (.cons (.var 2) (.cons (.var 3) .nil)))) (.cons (.cmp .ne (.call "_law_any" (.cons (.idx (.var 8) (.int 0)) (.cons (.idx (.var 8) (.int 1)) (.cons (.var 5) .nil)))) (.cmp .ne (.idx (.var 9) (.int 0)) (.str ""))) .nil))) (.cons (.ret (.bool false))
  .nil) .nil)
 (.cons (.ife (.bop false (.cons (.cmp .lt (.var 5) (.int 0)) (.cons (.cmp .gt (.var 5) (.int 1000)) .nil))) (.cons (.ret (.cmp .eq (.idx (.var 9) (.int 0)) (.str "sum")))
  .nil) .nil)
 (.cons (.ife (.var 7) (.cons (.ret (.cmp .eq (.idx (.var 9) (.int 0)) (.str "kind")))
  .nil) .nil)
 (.cons (.ife (.cmp .gt (.bin .add (.call "_law_total" (.cons (.var 2) .nil)) (.call "_law_total" (.cons (.var 3) .nil))) (.int 1500)) (.cons (.ret (.cmp .eq (.idx (.var 9) (.int 0)) (.str "sum")))
  .nil) .nil)
 (.cons (.ret (.call "_law_walks" (.cons (.var 2) (.cons (.var 3) (.cons (.var 5) (.cons (.var 8) (.cons (.var 9) .nil)))))))
 .nil)))))))))))))))))⟩
noncomputable def tab11:List (String×Fn):=[("pairs_of",f_pairs_of),("counts_of",f_counts_of),("worth",f_worth),("need_sum",f_need_sum),("fill",f_fill),("row_with",f_row_with),("table",f_table),("most_of",f_most_of),("fewest",f_fewest),("need_purse",f_need_purse),("lesser",f_lesser),("both_ways",f_both_ways),("rows_of",f_rows_of),("scales",f_scales),("number_of",f_number_of),("way_of",f_way_of),("deal",f_deal),("put_in",f_put_in),("taken_out",f_taken_out),("paid",f_paid),("_law_cell_at",f_law_cell_at),("_law_whole",f_law_whole),("_law_mixed",f_law_mixed),("_law_value",f_law_value_10),("_law_till_and_purse",f_law_till_and_purse),("_law_own",f_law_own),("_law_total",f_law_total),("_law_lightest",f_law_lightest),("_law_row",f_law_row),("_law_scaled",f_law_scaled),("_law_part",f_law_part),("_law_pieces",f_law_pieces),("_law_deal",f_law_deal),("_law_any",f_law_any_11),("_law_great",f_law_great),("_law_price",f_law_price),("_law_pays_back",f_law_pays_back),("_law_makes",f_law_makes),("_law_exact",f_law_exact_11),("_law_good",f_law_good),("_law_walks",f_law_walks),("law",f_law_11)]
noncomputable def defs11 (f:String):Option Fn:=tab11.lookup f
noncomputable def gint11:List (String×Int):=[("MOST_COUNT",1000000000),("MOST_SUM",1000),("MOST_WORTH",1500),("MOST_PIECES",60)]
end Mine
end

section
namespace Mine
end Mine
end

section
namespace Mine
open PySem (Str Addr)
theorem zip_snocZ {q:Int×Int}{m:Int}:∀ {ps:PL}{w:List Int}{k:Nat},ps[k]?=some q→w.length=k→ps.zip (w++[m])=ps.zip w++[(q,m)]
 | [],_,_,h,_=>by cases h
 | p :: ps,[],k,h,e=>by
  cases e
  cases h
  simp
 | p :: ps,x :: w,k,h,e=>by
  cases e
  exact congrArg ((p,x) :: ·) (zip_snocZ (ps:=ps) (w:=w) h rfl)
noncomputable def woZ (ps:PL) (w:List Int):Int:=((ps.zip w).map fun e=>e.1.1*e.2).sum
noncomputable def fewZ (w:List Int):Int:=(w.map ab).sum
theorem woZ_snoc {ps:PL}{w:List Int}{k:Nat}{m:Int}{q:Int×Int} (h:ps[k]?=some q) (e:w.length=k):woZ ps (w++[m])=woZ ps w+m*q.1:=by
 rw[woZ,zip_snocZ h e,List.map_append,List.sum_append,woZ,Int.mul_comm m]
 exact congrArg (_ + ·) (Int.add_zero _)
theorem fewZ_snoc (w:List Int) (m:Int):fewZ (w++[m])=fewZ w+ab m:=by
 rw[fewZ,List.map_append,List.sum_append,fewZ]
 exact congrArg (_ + ·) (Int.add_zero _)
noncomputable def ownZ (qs:PL) (v:Int):Int:=(lk v qs).getD 0
inductive WaySZ (ps qs:PL) (k:Nat) (R:List Int→Prop) (w:List Int):Prop
 | mk (q:Int×Int) (w':List Int) (m:Int) (hq:ps[k]?=some q) (r:R w') (hl:-q.2≤m) (hm:m≤ownZ qs q.1) (e:w=w'++[m])
noncomputable def WayZ (ps qs:PL) (k:Nat):List Int→Prop:=Nat.rec (motive:=fun ξ=>List Int→Prop) (fun w=>w=[]) (fun k R=>WaySZ ps qs k R) k
theorem WayZ.len {ps qs:PL}{k:Nat}:∀ {w:List Int},WayZ ps qs k w→w.length=k:=by
 induction k with
 | zero=>intro w h;cases h;rfl
 | succ k ih =>
  intro w ⟨q,w',m,hq,r,hl,hm,e⟩
  rw[e,List.length_append,ih r];rfl
noncomputable def hasZ (qs:PL) (ps:PL):Int:=(ps.map fun p=>p.1*ownZ qs p.1).sum
theorem hasZ_cons {v c:Int}{qs:PL} (hv:0≤v*c) (h0:ownZ qs v=0):∀ {ps:PL},(ps.map (·.1)).Nodup→hasZ ((v,c) :: qs) ps≤hasZ qs ps+v*c
 | [],_=>by show (0:Int)≤0+v*c;exact la [_] [] (.c 0) (.a (.c 0) (.v 0)) [.l (.c 0) (.v 0)] [1,1] rfl hv
 | p :: ps,hn=>by
  rw[List.map_cons,List.nodup_cons] at hn
  have ih:=hasZ_cons hv h0 (ps:=ps) hn.2
  show p.1*ownZ ((v,c) :: qs) p.1+hasZ ((v,c) :: qs) ps≤p.1*ownZ qs p.1+hasZ qs ps+v*c
  by_cases e:v=p.1
  ·have e1:ownZ ((v,c) :: qs) p.1=c:=by rw[ownZ,lk,if_pos e];rfl
   have e2:hasZ ((v,c) :: qs) ps=hasZ qs ps:=by
    unfold hasZ
    refine congrArg List.sum (List.map_congr_left fun y hy=>?_)
    have:¬v=y.1:=fun z=>hn.1 (List.mem_map.mpr ⟨y,hy,by rw[←z,e]⟩)
    rw[ownZ,lk,if_neg this];rfl
   rw[e1,e2,←e,h0]
   exact la [_,_,_] [] (.a (.v 0) (.v 1)) (.a (.a (.p (.v 2) 0) (.v 1)) (.v 0)) [] [1] rfl
  ·have e1:ownZ ((v,c) :: qs) p.1=ownZ qs p.1:=by rw[ownZ,lk,if_neg e];rfl
   rw[e1];exact la [_,_,_,_] [] (.a (.v 0) (.v 1)) (.a (.a (.v 0) (.v 2)) (.v 3)) [.l (.v 1) (.a (.v 2) (.v 3))] [1,1] rfl ih
theorem hasZ_le {ps:PL} (hn:(ps.map (·.1)).Nodup):∀ {qs:PL},(qs.map (·.1)).Nodup→(∀q∈qs,0≤q.1∧0≤q.2)→hasZ qs ps≤worthL qs
 | [],_,_=>by
  have:hasZ [] ps=0:=by
   clear hn
   induction ps with
   | nil=>rfl
   | cons p ps ih=>show p.1*0+hasZ [] ps=0;rw[ih,Int.mul_zero];rfl
  rw[this];exact Int.le_refl _
 | (v,c) :: qs,hn',hc=>by
  rw[List.map_cons,List.nodup_cons] at hn'
  have ih:=hasZ_le hn hn'.2 fun q hq=>hc q (.tail _ hq)
  obtain⟨v0,c0⟩:=hc (v,c) (.head _)
  have:=hasZ_cons (v:=v) (c:=c) (qs:=qs) (Int.mul_nonneg v0 c0) (by rw[ownZ,lk_none.mpr hn'.1];rfl) hn
  show hasZ ((v,c) :: qs) ps≤v*c+worthL qs
  exact la [_,_,_,_] [] (.v 0) (.a (.v 1) (.v 2)) [.l (.v 3) (.v 2),.l (.v 0) (.a (.v 3) (.v 1))] [1,1,1] rfl ih this
section
variable {ps qs:PL}{lo hi:Nat}{tr:List (Addr×Row)}
theorem WayZ.range (P : PP ps) (P' : PP qs) {k : Nat} : ∀ {w : List Int}, WayZ ps qs k w → -(worthL (ps.take k)) ≤ woZ ps w ∧ woZ ps w ≤ hasZ qs (ps.take k) := by
  induction k with
  | zero => intro w h; cases h; have e : woZ ps [] = 0 := by rw [woZ, List.zip_nil_right]; rfl
            rw [e, List.take_zero]; exact ⟨Int.le_refl _, Int.le_refl _⟩
  | succ k ih =>
    intro w ⟨q, w', m, hq, r, hl, hm, e⟩
    replace r : WayZ ps qs k w' := r
    subst e
    obtain ⟨i1, i2⟩ := ih r
    have v0 := (P.val q (List.mem_of_getElem? hq)).1
    have et : ps.take (k + 1) = ps.take k ++ [q] := by rw [List.take_add_one, hq]; rfl
    rw [woZ_snoc hq r.len, et, worthL_add]
    have e2 : hasZ qs (ps.take k ++ [q]) = hasZ qs (ps.take k) + q.1 * ownZ qs q.1 := by
      rw [hasZ, List.map_append, List.sum_append]; exact congrArg (_ + ·) (Int.add_zero _)
    rw [e2]
    have h1 := Int.mul_le_mul_of_nonneg_right hl (show 0 ≤ q.1 by exact la [_] [] (.c 0) (.v 0) [.l (.c 1) (.v 0)] [1, 1] rfl v0)
    have h2 := Int.mul_le_mul_of_nonneg_right hm (show 0 ≤ q.1 by exact la [_] [] (.c 0) (.v 0) [.l (.c 1) (.v 0)] [1, 1] rfl v0)
    rw [Int.neg_mul] at h1
    rw [Int.mul_comm q.1, Int.mul_comm q.1]
    exact ⟨la [_, _, _, _] [] (.g (.a (.v 0) (.v 1))) (.a (.v 2) (.v 3)) [.l (.g (.v 0)) (.v 2), .l (.g (.v 1)) (.v 3)] [1, 1, 1] rfl i1 h1, la [_, _, _, _] [] (.a (.v 0) (.v 1)) (.a (.v 2) (.v 3)) [.l (.v 0) (.v 2), .l (.v 1) (.v 3)] [1, 1, 1] rfl i2 h2⟩
theorem worthL_take (P:PP ps) (k:Nat):worthL (ps.take k)≤worthL ps:=by
 have:=worthL_nonneg (ps:=ps.drop k) fun q h=>⟨by have:=(P.val q (List.mem_of_mem_drop h)).1;exact la [_] [] (.c 0) (.v 0) [.l (.c 1) (.v 0)] [1,1] rfl this,(P.cnt q (List.mem_of_mem_drop h)).1⟩
 have e:worthL ps=worthL (ps.take k)+worthL (ps.drop k):=by rw[←worthL_app,List.take_append_drop]
 exact la [_,_,_] [] (.v 0) (.v 1) [.l (.c 0) (.v 2),.e (.v 1) (.a (.v 0) (.v 2))] [1,1,-1] rfl this e
theorem WayZ.place (P:PP ps) (P':PP qs) {k:Nat}{w:List Int} (h:WayZ ps qs k w):0≤worthL ps+woZ ps w∧worthL ps+woZ ps w≤worthL ps+worthL qs:=by
 obtain⟨h1,h2⟩:=h.range P P'
 have:=worthL_take P k
 have hn:((ps.take k).map (·.1)).Nodup:=P.nodup.sublist ((List.take_sublist k ps).map _)
 have:=hasZ_le hn P'.nodup fun q hq=>⟨by have:=(P'.val q hq).1;exact la [_] [] (.c 0) (.v 0) [.l (.c 1) (.v 0)] [1,1] rfl this,(P'.cnt q hq).1⟩
 omega
theorem RTab.low (T:RTab ps qs lo hi tr) (P:PP ps) (P':PP qs) (e1:worthL ps=lo) (e2:worthL qs=hi) {k:Nat}:∀ {w:List Int},WayZ ps qs k w→∃x,cellZ (rowAt (tr.map (·.2)) k) (lo+woZ ps w)=some x∧x≤fewZ w:=by
 induction k with
 | zero =>
  intro w h
  cases h
  obtain⟨a,e⟩:=T.zero
  have ew:woZ ps []=0:=by rw[woZ,List.zip_nil_right];rfl
  refine⟨0,?_,Int.le_refl _⟩
  rw[ew,Int.add_zero,rowAt,List.getElem?_map,e]
  refine cellZ_nat (x:=some 0) ?_
  show (List.replicate lo none++some 0 :: List.replicate hi none)[lo]?=some (some 0)
  rw[List.getElem?_append_right (by simp),List.length_replicate,Nat.sub_self];rfl
 | succ k ih =>
  intro w hw
  have hpl:=hw.place P P'
  obtain⟨q,w',m,hq,r,hl,hm,e⟩:=hw
  replace r:WayZ ps qs k w':=r
  subst e
  rw[woZ_snoc hq r.len] at hpl ⊢
  obtain⟨x,hx,hle⟩:=ih r
  obtain⟨a,b,g1,g2,RZ⟩:=T.step k q hq
  have ea:rowAt (tr.map (·.2)) k=a.2:=by rw[rowAt,List.getElem?_map,g1];rfl
  have eb:rowAt (tr.map (·.2)) (k+1)=b.2:=by rw[rowAt,List.getElem?_map,g2];rfl
  rw[ea] at hx
  rw[eb,fewZ_snoc]
  obtain⟨p,ep⟩:∃p:Nat,(lo:Int)+(woZ ps w'+m*q.1)=p:=⟨((lo:Int)+(woZ ps w'+m*q.1)).toNat,by exact lq [_,_] [_,_] (.a (.t (.n 0)) (.a (.v 0) (.v 1))) (.t (.n 1)) [.e (.t (.n 1)) (.a (.t (.n 0)) (.a (.v 0) (.v 1))),.l (.a (.t (.n 0)) (.a (.v 0) (.v 1))) (.t (.n 1))] [1,1,0] [1,-1,0] rfl (tnE (a:=(↑lo:Int)+(woZ ps w'+m*q.fst)) (la [_,_,_] [_] (.c 0) (.a (.t (.n 0)) (.a (.v 0) (.v 1))) [.e (.v 2) (.t (.n 0)),.l (.c 0) (.a (.v 2) (.a (.v 0) (.v 1)))] [1,1,1] rfl e1 hpl.1)) (tn0 (a:=(↑lo:Int)+(woZ ps w'+m*q.fst)))⟩
  obtain⟨z,hz,LZ⟩:=RZ.at_ p (by rw[T.rows a (List.mem_of_getElem? g1)];exact lB [_,_,_,_] [_,_,_] (.n 0) (.a (.a (.n 1) (.n 2)) (.c 1)) [.e (.v 0) (.t (.n 2)),.l (.a (.v 1) (.a (.v 2) (.v 3))) (.a (.v 1) (.v 0)),.e (.a (.t (.n 1)) (.a (.v 2) (.v 3))) (.t (.n 0))] [1,1,1,-1] rfl e2 hpl.2 ep)
  rw[ep]
  have hs:(p:Int)-m*q.1=lo+woZ ps w':=by exact lq [_,_] [_,_] (.s (.t (.n 0)) (.v 0)) (.a (.t (.n 1)) (.v 1)) [.e (.a (.t (.n 1)) (.a (.v 1) (.v 0))) (.t (.n 0))] [1,1] [1,-1] rfl ep
  cases z with
  | none=>have:=LZ m hl hm;rw[hs,hx] at this;cases this
  | some y =>
   have:=LZ.2 m x hl hm (by rw[hs];exact hx)
   exact⟨y,cellZ_nat hz,by exact la [_,_,_,_] [] (.v 0) (.a (.v 1) (.v 2)) [.l (.v 3) (.v 1),.l (.v 0) (.a (.v 3) (.v 2))] [1,1,1] rfl hle this⟩
structure MostZ (r:Row) (v lo hi p x m:Int):Prop where
 hl:lo≤m
 hm:m≤hi
 at_:cellZ r (p-m*v)=some (x-ab m)
 top:∀m',m<m'→m'≤hi→cellZ r (p-m'*v)≠some (x-ab m')
inductive PickSZ (rs:List Row) (ps qs:PL) (k:Nat) (R:Int→Int→List Int→Prop) (p x:Int) (w:List Int):Prop
 | mk (m:Int) (q:Int×Int) (w':List Int) (hq:ps[k]?=some q) (hx:cellZ (rowAt rs (k+1)) p=some x) (hm:MostZ (rowAt rs k) q.1 (-q.2) (ownZ qs q.1) p x m) (r:R (p-m*q.1) (x-ab m) w') (e:w=w'++[m])
noncomputable def PickZ (rs:List Row) (ps qs:PL) (lo:Int) (k:Nat):Int→Int→List Int→Prop:=Nat.rec (motive:=fun ξ=>Int→Int→List Int→Prop) (fun p x w=>p=lo∧x=0∧w=[]) (fun k R=>PickSZ rs ps qs k R) k
noncomputable def betZL:List Int→List Int→Bool
 | x :: xs,y :: ys=>if x=y then betZL xs ys else decide (y<x)
 | _,_=>false
noncomputable def betZ (a b:List Int):Bool:=if fewZ a=fewZ b then betZL a.reverse b.reverse else decide (fewZ a<fewZ b)
inductive BestWZ (ps qs:PL) (k:Nat) (p x:Int) (w:List Int):Prop
 | mk (h1:WayZ ps qs k w) (h2:woZ ps w=p) (h3:fewZ w=x) (h5:∀v,WayZ ps qs k v→woZ ps v=p→fewZ v=x→v=w∨(betZL w.reverse v.reverse=true∧betZL v.reverse w.reverse=false))
theorem PickZ.best (T:RTab ps qs lo hi tr) (P:PP ps) (P':PP qs) (e1:worthL ps=lo) (e2:worthL qs=hi) {k:Nat}:∀ {p x:Int}{w:List Int},PickZ (tr.map (·.2)) ps qs lo k p x w→BestWZ ps qs k (p-lo) x w:=by
 induction k with
 | zero =>
  intro p x w h
  obtain⟨rfl,rfl,rfl⟩:=h
  have ew:woZ ps []=0:=by rw[woZ,List.zip_nil_right];rfl
  exact⟨rfl,by rw[ew];exact lq [] [_] (.c 0) (.s (.t (.n 0)) (.t (.n 0))) [] [1] [1] rfl,rfl,fun v hv ξ ξ=>.inl hv⟩
 | succ k ih =>
  intro p x w ⟨m,q,w',hq,hx,hm,r,e⟩
  obtain⟨h1,h2,h3,h5⟩:=ih r
  subst e
  refine⟨⟨q,w',m,hq,h1,hm.hl,hm.hm,rfl⟩,by rw[woZ_snoc hq h1.len,h2];exact lq [_,_] [_] (.a (.s (.s (.v 0) (.v 1)) (.t (.n 0))) (.v 1)) (.s (.v 0) (.t (.n 0))) [] [1] [1] rfl,by rw[fewZ_snoc,h3];exact lq [_,_] [] (.a (.s (.v 0) (.v 1)) (.v 1)) (.v 0) [] [1] [1] rfl,fun v hv f1 f2=>?_⟩
  obtain⟨q',v',m',hq',r',hl',hm',rfl⟩:=hv
  cases hq.symm.trans hq'
  replace r':WayZ ps qs k v':=r'
  rw[woZ_snoc hq r'.len] at f1
  rw[fewZ_snoc] at f2
  obtain⟨y,hy,hle⟩:=T.low P P' e1 e2 r'
  obtain⟨a,b,g1,g2,RZ⟩:=T.step k q hq
  have ea:rowAt (tr.map (·.2)) k=a.2:=by rw[rowAt,List.getElem?_map,g1];rfl
  have eb:rowAt (tr.map (·.2)) (k+1)=b.2:=by rw[rowAt,List.getElem?_map,g2];rfl
  obtain⟨hp0,hpx⟩:=cellZ_some hx
  rw[eb] at hpx
  have hlt:p.toNat<a.2.length:=by rw[←RZ.len];exact lt_of_get hpx
  obtain⟨z,hz,LZ⟩:=RZ.at_ p.toNat hlt
  rw[hpx] at hz
  cases hz
  rw[Int.toNat_of_nonneg hp0] at LZ
  have hs:p-m'*q.1=lo+woZ ps v':=by exact lq [_,_,_] [_] (.s (.v 0) (.v 1)) (.a (.t (.n 0)) (.v 2)) [.e (.a (.v 2) (.v 1)) (.s (.v 0) (.t (.n 0)))] [1,1] [1,-1] rfl f1
  rw[ea] at hy hm
  have k1:=LZ.2 m' y hl' hm' (by rw[hs];exact hy)
  have ey:y=x-ab m':=by exact lq [_,_,_,_] [] (.v 0) (.s (.v 1) (.v 2)) [.l (.v 1) (.a (.v 0) (.v 2)),.e (.a (.v 3) (.v 2)) (.v 1),.l (.v 0) (.v 3)] [1,1,0,0] [1,0,1,1] rfl k1 f2 hle
  have hle':m'≤m:=by
   rcases Int.lt_or_le m m' with c | c
   ·exact absurd (by rw[hs,hy,ey]) (hm.top m' c hm')
   ·exact c
  simp only[List.reverse_append,List.reverse_cons,List.reverse_nil,List.nil_append,List.singleton_append,betZL]
  rcases Int.lt_or_le m' m with c | c
  ·refine .inr ⟨?_,?_⟩
   ·rw[if_neg (by exact lf [_,_] [] [.b (.v 0) (.v 1),.e (.v 1) (.v 0)] [1,1] rfl c)];exact decide_eq_true c
   ·rw[if_neg (by exact lf [_,_] [] [.b (.v 0) (.v 1),.e (.v 0) (.v 1)] [1,-1] rfl c)];exact decide_eq_false (by exact lf [_,_] [] [.l (.v 0) (.v 1),.b (.v 1) (.v 0)] [1,1] rfl hle')
  ·have em:m'=m:=Int.le_antisymm hle' c
   subst em
   rw[if_pos rfl,if_pos rfl]
   rcases h5 v' r' (by exact lq [_,_,_] [_] (.v 0) (.s (.s (.v 1) (.v 2)) (.t (.n 0))) [.e (.a (.v 0) (.v 2)) (.s (.v 1) (.t (.n 0)))] [1,-1] [1,1] rfl f1) (by exact lq [_,_,_] [] (.v 0) (.s (.v 1) (.v 2)) [.e (.a (.v 0) (.v 2)) (.v 1)] [1,-1] [1,1] rfl f2) with g | g
   ·exact .inl (by rw[g])
   ·exact .inr g
end
structure TopZ (ps qs:PL) (d:Int) (w:List Int):Prop where
 way:WayZ ps qs ps.length w
 wor:woZ ps w=d
 top:∀v,WayZ ps qs ps.length v→woZ ps v=d→v=w∨(betZ w v=true∧betZ v w=false)
theorem PickZ.topZ {ps qs:PL}{lo hi:Nat}{tr:List (Addr×Row)} (T:RTab ps qs lo hi tr) (P:PP ps) (P':PP qs) (e1:worthL ps=lo) (e2:worthL qs=hi) {p x:Int}{w:List Int} (h:PickZ (tr.map (·.2)) ps qs lo ps.length p x w) (hx:cellZ (rowAt (tr.map (·.2)) ps.length) p=some x):TopZ ps qs (p-lo) w:=by
 obtain⟨h1,h2,h3,h5⟩:=h.best T P P' e1 e2
 refine⟨h1,h2,fun v hv e=>?_⟩
 obtain⟨y,hy,hl⟩:=T.low P P' e1 e2 hv
 rw[e,show (lo:Int)+(p-lo)=p by exact lq [_] [_] (.a (.t (.n 0)) (.s (.v 0) (.t (.n 0)))) (.v 0) [] [1] [1] rfl,hx] at hy
 cases hy
 by_cases c:fewZ v=x
 ·have es:fewZ w=fewZ v:=by exact lq [_,_,_] [] (.v 0) (.v 1) [.e (.v 0) (.v 2),.e (.v 1) (.v 2)] [1,-1,1] [1,1,-1] rfl h3 c
  rw[betZ,betZ,if_pos es,if_pos es.symm]
  exact h5 v hv e c
 ·rw[betZ,betZ,if_neg (by omega),if_neg (by omega)]
  exact .inr ⟨decide_eq_true (by omega),decide_eq_false (by exact lf [_,_,_] [] [.e (.v 0) (.v 1),.l (.v 1) (.v 2),.b (.v 2) (.v 0)] [1,1,1] rfl h3 hl)⟩
noncomputable def zl (ps:PL) (w:List Int):PL:=(ps.zip w).map fun e=>(e.1.1,e.2)
noncomputable def payZ (ps:PL) (w:List Int):PL:=(zl ps w).filter fun e=>decide (0<e.2)
noncomputable def backZ (ps:PL) (w:List Int):PL:=((zl ps w).filter fun e=>decide (e.2<0)).map fun e=>(e.1,-e.2)
structure BackB (rs:List Row) (ps qs:PL) (lo:Int) (P X:Int) (k:Nat) (p x:Int) (acc:List Int):Prop where
 le:k≤ps.length
 len:acc.length=ps.length-k
 cell:cellZ (rowAt rs k) p=some x
 all:∀w,PickZ rs ps qs lo k p x w→PickZ rs ps qs lo ps.length P X (w++acc)
theorem BackB.step {rs:List Row}{ps qs:PL}{lo P X:Int}{k:Nat}{p x m:Int}{acc:List Int}{q:Int×Int} (B:BackB rs ps qs lo P X (k+1) p x acc) (hq:ps[k]?=some q) (hm:MostZ (rowAt rs k) q.1 (-q.2) (ownZ qs q.1) p x m):BackB rs ps qs lo P X k (p-m*q.1) (x-ab m) (m :: acc) where
 le:=Nat.le_of_succ_le B.le
 len:=by have:=B.len;have:=B.le;rw[List.length_cons];omega
 cell:=hm.at_
 all:=fun w r=>by
  have:=B.all _ ⟨m,q,w,hq,B.cell,hm,r,rfl⟩
  rw[List.append_assoc] at this
  exact this
theorem RTab.start {ps qs:PL}{lo hi:Nat}{tr:List (Addr×Row)} (T:RTab ps qs lo hi tr) {p x:Int} (h:cellZ (rowAt (tr.map (·.2)) 0) p=some x):p=lo∧x=0:=by
 obtain⟨a,hz⟩:=T.zero
 have e:rowAt (tr.map (·.2)) 0=List.replicate lo none++some 0 :: List.replicate hi none:=by rw[rowAt,List.getElem?_map,hz];rfl
 rw[e] at h
 obtain⟨h0,h⟩:=cellZ_some h
 rcases Nat.lt_trichotomy p.toNat lo with c | c | c
 ·rw[List.getElem?_append_left (by simpa using c),List.getElem?_replicate,if_pos c] at h;cases h
 ·rw[List.getElem?_append_right (by simp;exact lA [] [_,_] (.n 0) (.n 1) [.E (.n 1) (.n 0)] [1,-1] rfl c),List.length_replicate,c,Nat.sub_self] at h
  cases h
  exact⟨by exact lq [_] [_,_] (.v 0) (.t (.n 0)) [.E (.n 1) (.n 0),.e (.t (.n 1)) (.v 0),.l (.v 0) (.t (.n 1))] [1,-1,1,0] [1,1,-1,0] rfl c (tnE (a:=p) (h0)) (tn0 (a:=p)),rfl⟩
 ·rw[List.getElem?_append_right (by simp;exact lA [] [_,_] (.n 0) (.n 1) [.B (.n 0) (.n 1)] [1,1] rfl c),List.length_replicate] at h
  obtain⟨j,ej⟩:∃j,p.toNat-lo=j+1:=⟨p.toNat-lo-1,by exact lQ [] [_,_] (.n 0) (.a (.n 1) (.c 1)) [.E (.a (.n 1) (.c 1)) (.n 0),.L (.n 0) (.a (.n 1) (.c 1))] [1,1,0] [1,-1,0] rfl (nsE (a:=p.toNat-lo) (b:=1) (lA [] [_,_,_] (.c 1) (.n 0) [.B (.n 1) (.n 2),.L (.n 2) (.a (.n 0) (.n 1))] [1,1,1] rfl c (ns1 (a:=p.toNat) (b:=lo)))) (ns1 (a:=p.toNat-lo) (b:=1))⟩
  rw[ej,gS,List.getElem?_replicate] at h
  split at h <;> cases h
theorem zl_drop {ps:PL}{k:Nat}{q:Int×Int} (hq:ps[k]?=some q) (m:Int) (acc:List Int):zl (ps.drop k) (m :: acc)=(q.1,m) :: zl (ps.drop (k+1)) acc:=by
 have hk:=lt_of_get hq
 rw[List.drop_eq_getElem_cons hk]
 rw[List.getElem?_eq_getElem hk] at hq
 cases hq
 rfl
section
variable {defs:String→Option Fn}{anc:String→List String}{n:Nat}{Q:V→Hp→Prop}{X:String→Hp→Prop}{H:Hp}
inductive NumI (H:Hp) (A:Addr) (r:Row) (v lo hi p x:Int) (k:Nat) (ρ:Loc) (H':Hp):Prop
 | mk (m:Int) (x6:Option V) (eH:H'=H) (e:ρ=[some (.ref A),some (.int x),some (.int p),some (.int v),some (.int hi),some (.int m),x6]) (hk:(k:Int)=m-lo) (hm:m≤hi) (top:∀m',m<m'→m'≤hi→cellZ r (p-m'*v)≠some (x-ab m'))
theorem number_spec (h:defs "number_of" = some f_number_of) {A:Addr}{r:Row}{v lo hi p x:Int} (hA:H A=some (.list (Mine.lo r))) (hL:r.length≤2001) (hv0:1≤v) (hv:v≤2000) (L:LeastZ r v lo hi p (some x)) (hq:∀m,MostZ r v lo hi p x m→Q (.int m) H) :
  callN defs anc (n+1) "number_of" [.ref A,.int x,.int p,.int v,.int hi] Q X H:=by
 obtain⟨⟨m0,a0,l1,l2,l3,l4⟩,_⟩:=L
 have l3':cellZ r (p-m0*v)=some (x-ab m0):=by rw[l3,l4];congr 1;exact lq [_,_] [] (.v 0) (.s (.a (.v 0) (.v 1)) (.v 1)) [] [1] [1] rfl
 refine call_of h rfl ?_
 simp only[f_number_of]
 (simp only[List.map_cons,List.map_nil,List.length_cons,List.length_nil,Nat.reduceAdd,Nat.reduceSub,List.replicate,List.cons_append,List.nil_append,sf_asg,sS,sZ,qE_var,gS,gZ,v_some])
 dsimp only[restW]
 refine whl_cons (I:=NumI H A r v lo hi p x) ?_ (n:=(hi-lo).toNat) ⟨hi,none,rfl,rfl,by exact lq [_,_] [_] (.t (.n 0)) (.s (.v 0) (.v 1)) [.l (.s (.v 0) (.v 1)) (.t (.n 0)),.e (.t (.n 0)) (.s (.v 0) (.v 1))] [1,0,-1] [1,0,1] rfl (tn0 (a:=hi-lo)) (tnE (a:=hi-lo) (la [_,_,_] [] (.c 0) (.s (.v 0) (.v 1)) [.l (.v 1) (.v 2),.l (.v 2) (.v 0)] [1,1,1] rfl l1 l2)),Int.le_refl _,fun m' h1 h2=>by omega⟩
 rintro k ρ H' K ⟨m,x6,rfl,rfl,hk,hm,top⟩ hK
 have hge:m0≤m:=by
  rcases Int.lt_or_le m m0 with c | c
  ·exact absurd l3' (top m0 c l2)
  ·exact c
 have sv:Sm m∨Sm v:=.inr ⟨by exact lb [_] [] (.c (-18446744073709551616)) (.v 0) [.l (.c 1) (.v 0)] [1,1] rfl hv0,by exact lb [_] [] (.v 0) (.c 18446744073709551616) [.l (.v 0) (.c 2000)] [1,1] rfl hv⟩
 (simp only[qE_bool,asB_bool])
 refine iteP trivial ?_
 dsimp only[bodyW]
 (simp only[sf_asg,sS,sZ,qE_bin,qE_var,gS,gZ,v_some,b_mul,b_sub])
 refine⟨sv,?_⟩
 have next:cellZ r (p-m*v)≠some (x-ab m)→restW ⟨callN defs anc n,anc⟩ false (.cons (.asg 5 (.bin .sub (.var 5) (.int 1))) .nil) K Q (fun c ξ H₁=>X c H₁) [some (.ref A),some (.int x),some (.int p),some (.int v),some (.int hi),some (.int m),some (.int (p-m*v))] H':=fun hne=>by
  have hlt:m0<m:=by
   rcases Int.lt_or_le m0 m with c | c
   ·exact c
   ·rw[Int.le_antisymm hge c] at l3';exact absurd l3' hne
  dsimp only[restW]
  (simp only[sf_asg,sS,sZ,qE_bin,qE_int,qE_var,gS,gZ,v_some,b_sub])
  dsimp only[restW]
  (simp only[s_nil])
  refine hK (k-1) _ _ (by exact lB [] [_,_] (.n 0) (.n 1) [.E (.a (.n 0) (.c 1)) (.n 1)] [1,1] rfl (nsE (a:=k) (b:=1) (lA [_,_,_] [_] (.c 1) (.n 0) [.l (.v 0) (.v 1),.e (.t (.n 0)) (.s (.v 2) (.v 0)),.b (.v 1) (.v 2)] [1,1,-1,1] rfl l1 hk hlt))) ⟨m-1,_,rfl,rfl,by exact lq [_,_] [_,_] (.t (.n 0)) (.s (.s (.v 0) (.c 1)) (.v 1)) [.e (.t (.n 1)) (.s (.v 0) (.v 1)),.L (.n 1) (.a (.n 0) (.c 1)),.E (.a (.n 0) (.c 1)) (.n 1)] [1,-1,0,-1] [1,1,0,1] rfl hk (ns1 (a:=k) (b:=1)) (nsE (a:=k) (b:=1) (lA [_,_,_] [_] (.c 1) (.n 0) [.l (.v 0) (.v 1),.e (.t (.n 0)) (.s (.v 2) (.v 0)),.b (.v 1) (.v 2)] [1,1,-1,1] rfl l1 hk hlt)),by exact la [_,_] [] (.s (.v 0) (.c 1)) (.v 1) [.l (.v 0) (.v 1)] [1,1] rfl hm,fun m' h1 h2=>?_⟩
  by_cases e:m'=m
  ·rw[e];exact hne
  ·exact top m' (by omega) h2
 dsimp only[restW]
 (simp only[sf_ife,app_cons,app_nil,qE_bop,qB_more,qB_one,qE_cmp,asB_bool,qE_var,gS,gZ,v_some,qE_bin,qE_bc,qEs_cons,qEs_nil,f_abs,true_and,qE_idx,qE_none,qE_cmp2,qE_int,c_le,decide_eq_true_eq])
 rw[f_lenL hA,lo_length]
 (simp only[c_lt,decide_eq_true_eq])
 by_cases b0:0≤p-m*v
 ·refine iteP b0 ?_
  by_cases b1:p-m*v<r.length
  ·refine iteP b1 ?_
   obtain⟨j,ej⟩:∃j:Nat,p-m*v=j:=⟨(p-m*v).toNat,by exact lq [_,_] [_] (.s (.v 0) (.v 1)) (.t (.n 0)) [.e (.t (.n 0)) (.s (.v 0) (.v 1)),.l (.s (.v 0) (.v 1)) (.t (.n 0))] [1,1,0] [1,-1,0] rfl (tnE (a:=p-m*v) (b0)) (tn0 (a:=p-m*v))⟩
   obtain⟨z,hz⟩:=get_of_lt (l:=r) (k:=j) (by exact lB [_,_] [_,_] (.n 0) (.n 1) [.b (.s (.v 0) (.v 1)) (.t (.n 1)),.e (.s (.v 0) (.v 1)) (.t (.n 0))] [1,1,-1] rfl b1 ej)
   have hcz:cellZ r (p-m*v)=z:=by rw[ej];exact cellZ_nat hz
   rw[hcz] at next
   rw[ej] at next ⊢
   refine i_loB hA hz hL ?_
   cases z with
   | none =>
    simp only[ov]
    (simp only[c_isnNN])
    exact iteF (next nofun)
   | some a =>
    simp only[ov]
    (simp only[c_isnIN])
    refine iteP trivial (i_loB hA hz hL ?_)
    simp only[ov]
    (simp only[b_add,c_eqI,decide_eq_true_eq])
    have eab:(if m<0 then -m else m)=ab m:=rfl
    rw[eab]
    refine ite_all (fun e=>?_) fun e=>?_
    ·dsimp only[restW]
     (simp only[s_ret,qE_var,gS,gZ,v_some])
     exact hq m ⟨by exact la [_,_] [_] (.v 0) (.v 1) [.e (.t (.n 0)) (.s (.v 1) (.v 0))] [1,1] rfl hk,hm,by rw[hcz];congr 1;exact lq [_,_,_] [] (.v 0) (.s (.v 1) (.v 2)) [.e (.a (.v 0) (.v 2)) (.v 1)] [1,-1] [1,1] rfl e,top⟩
    ·exact next fun z=>e (by cases z;exact lq [_,_] [] (.a (.s (.v 0) (.v 1)) (.v 1)) (.v 0) [] [1] [1] rfl)
  ·refine iteN b1 (iteN b1 ?_)
   refine next ?_
   rw[cellZ,if_pos b0,List.getElem?_eq_none (by exact lA [_,_] [_,_] (.n 0) (.n 1) [.l (.t (.n 0)) (.s (.v 0) (.v 1)),.l (.s (.v 0) (.v 1)) (.t (.n 1))] [1,1,1] rfl (Int.not_lt.mp b1) (tn0 (a:=p-m*v)))];exact nofun
 ·refine iteN b0 ?_
  refine iteN Bool.false_ne_true (iteN Bool.false_ne_true ?_)
  refine next ?_
  rw[cellZ,if_neg b0];exact nofun
structure Def12 (defs:String→Option Fn):Prop extends Def10R defs where
 n1:defs "number_of" = some f_number_of
 n2:defs "way_of" = some f_way_of
 n3:defs "need_sum" = some f_need_sum
 n4:defs "deal" = some f_deal
end
theorem zl_filter {l fl:PL}{c:Int×Int→Bool} (h:fl=l.reverse):(fl.filter c).reverse=l.filter c:=by rw[h,List.filter_reverse,List.reverse_reverse]
section
variable {defs:String→Option Fn}{anc:String→List String}{n:Nat}{Q:V→Hp→Prop}{X:String→Hp→Prop}{H:Hp}
inductive WayI (H:Hp) (p q R C F:Addr) (place:Int) (ps qs:PL) (lo:Int) (rs:List Row) (X:Int) (done rest:List It) (ρ:Loc) (H':Hp):Prop
 | mk (at' x:Int) (acc:List Int) (fl:PL) (x7 x8 x9:Option V) (hr:rangeL ((ps.length:Int)-1) (-1) ps.length=done++rest) (e:ρ=[some (.ref p),some (.ref q),some (.int place),some (.ref R),some (.ref C),some (.ref F),some (.int at'),x7,x8,x9])
  (hE:Ext H H') (eF:H' F=some (.list (lv fl))) (ef:fl=(zl (ps.drop (ps.length-done.length)) acc).reverse) (B:BackB rs ps qs lo place X (ps.length-done.length) at' x acc)
theorem way_spec (D:Def12 defs) {p q:Addr}{ps qs:PL}{place:Int} (P:PP ps) (P':PP qs) (hp:H p=some (.list (lv ps))) (hpq:H q=some (.list (lv qs))) (hw:worthL ps+worthL qs≤1500) (hp0:0≤place)
  (hN:∀tr H',RTab ps qs (worthL ps).toNat (worthL qs).toNat tr→Ext H H'→cellZ (rowAt (tr.map (·.2)) ps.length) place=none→Q .none H')
  (hq:∀tr x w a H',RTab ps qs (worthL ps).toNat (worthL qs).toNat tr→Ext H H'→cellZ (rowAt (tr.map (·.2)) ps.length) place=some x→PickZ (tr.map (·.2)) ps qs (worthL ps) ps.length place x w→w.length=ps.length→H' a=some (.list (lv (zl ps w).reverse))→Q (.ref a) H') :
  callN defs anc (n+5) "way_of" [.ref p,.ref q,.int place] Q X H:=by
 have hl:=P.len
 have hl':=P'.len
 have w1:=P.worth0
 have w2:=P'.worth0
 refine call_of D.n2 rfl ?_
 simp only[f_way_of]
 (simp only[List.map_cons,List.map_nil,List.length_cons,List.length_nil,Nat.reduceAdd,Nat.reduceSub,List.replicate,List.cons_append,List.nil_append,sf_asg,sS,sZ,qE_call,qEs_cons,qEs_nil,qE_var,gS,gZ,v_some,true_and])
 refine rows_is D.toDef10R P P' hp hpq hw fun tr R H₁ T A=>?_
 have hlen:=T.len
 have hrl:tr.length≤1001:=by exact lA [] [_,_] (.n 0) (.c 1001) [.L (.n 1) (.c 60),.E (.n 0) (.a (.n 1) (.c 1))] [1,1,1] rfl hl hlen
 have rl:∀x∈tr,x.2.length≤2001:=fun x hx=>by rw[T.rows x hx];exact lA [_,_] [_,_] (.a (.a (.n 0) (.n 1)) (.c 1)) (.c 2001) [.l (.a (.v 0) (.v 1)) (.c 1500),.e (.t (.n 0)) (.v 0),.e (.t (.n 1)) (.v 1)] [1,1,1,1] rfl hw (tnE (a:=worthL ps) (w1)) (tnE (a:=worthL qs) (w2))
 have hlast:ps.length<tr.length:=by exact lB [] [_,_] (.n 0) (.n 1) [.E (.n 1) (.a (.n 0) (.c 1))] [1,-1] rfl hlen
 have gl:=List.getElem?_eq_getElem hlast
 have ml:=List.getElem_mem hlast
 have er:rowAt (tr.map (·.2)) ps.length=tr[ps.length].2:=by rw[rowAt,List.getElem?_map,gl];rfl
 have last:∀(H':Hp) (Q':V→Hp→Prop),Ext H₁ H'→Q' (.ref tr[ps.length].1) H'→widx (.ref R) (.int (-1)) Q' H':=fun H' Q' e w=>i_last (e _ _ A.at_) (by rw[hlen];exact gl) w
 have none_out:cellZ tr[ps.length].2 place=none→restW ⟨callN defs anc (n+4),anc⟩ false (.cons (.ret .none) (f_way_of.body.drop 2)) (fun ξ H₁=>Q .none H₁) Q (fun c ξ H₁=>X c H₁) [some (.ref p),some (.ref q),some (.int place),some (.ref R),none,none,none,none,none,none] H₁:=fun hn=>by
  dsimp only[restW]
  (simp only[s_ret,qE_none])
  exact hN tr H₁ T A.ext (by rw[er];exact hn)
 dsimp only[restW]
 (simp only[sf_ife,app_cons,app_nil,qE_bop,qB_more,qB_one,qE_cmp,asB_bool,qE_none,qE_idx,qE_var,gS,gZ,v_some,qE_neg,qE_int,k_int,qE_bc,qEs_cons,qEs_nil,true_and])
 refine last _ _ (.refl _) ?_
 rw[f_lenL (A.inh _ ml),lo_length]
 (simp only[c_ge,decide_eq_true_eq])
 refine or_if (fun hge=>none_out ?_) fun hge=>?_
 ·rw[cellZ,if_pos hp0,List.getElem?_eq_none (by exact lA [_] [_,_] (.n 0) (.n 1) [.l (.t (.n 0)) (.v 0),.l (.v 0) (.t (.n 1))] [1,1,1] rfl hge (tn0 (a:=place)))];rfl
 refine last _ _ (.refl _) ?_
 obtain⟨j,ej⟩:∃j:Nat,place=j:=⟨place.toNat,by exact lq [_] [_] (.v 0) (.t (.n 0)) [.e (.t (.n 0)) (.v 0),.l (.v 0) (.t (.n 0))] [1,1,0] [1,-1,0] rfl (tnE (a:=place) (hp0)) (tn0 (a:=place))⟩
 obtain⟨z,hz⟩:=get_of_lt (l:=tr[ps.length].2) (k:=j) (by exact lB [_] [_,_] (.n 0) (.n 1) [.b (.v 0) (.t (.n 1)),.e (.v 0) (.t (.n 0))] [1,1,-1] rfl (Int.not_le.mp hge) ej)
 have hcz:cellZ tr[ps.length].2 place=z:=by rw[ej];exact cellZ_nat hz
 rw[ej]
 refine i_loB (A.inh _ ml) hz (rl _ ml) ?_
 rw[←ej]
 cases z with
 | none =>
  simp only[ov]
  (simp only[c_isNN])
  exact iteP trivial (none_out hcz)
 | some x =>
  simp only[ov]
  (simp only[c_isIN])
  refine iteF ?_
  dsimp only[restW]
  (simp only[sf_asg,sS,sZ,qE_call,qEs_cons,qEs_nil,qE_var,gS,gZ,v_some,true_and])
  refine counts_is D.h6 (A.ext _ _ hpq) (by exact lA [] [_] (.n 0) (.c 1000) [.L (.n 0) (.c 60)] [1,1] rfl hl') P'.nodup fun C hC=>?_
  have E2:=Ext.new (.dict (qs.map kvI)) hC
  have gC:=Hp.set_self H₁ C (.dict (qs.map kvI))
  generalize H₁.set C (.dict (qs.map kvI))=H₂ at E2 gC ⊢
  dsimp only[restW]
  (simp only[sf_asg,sS,sZ,qE_list,qEs_nil])
  refine⟨by decide,fun F hF=>?_⟩
  have E3:=E2.trans (Ext.new (.list []) hF)
  have gC3:=Ext.new (.list []) hF _ _ gC
  have gF:=Hp.set_self H₂ F (.list [])
  have hF1:=E2.no hF
  have nCF:C≠F:=ne_new gC hF
  generalize H₂.set F (.list [])=H₃ at E3 gC3 gF ⊢
  dsimp only[restW]
  (simp only[sf_asg,sS,sZ,qE_var,gS,gZ,v_some])
  dsimp only[restW]
  refine for_cons ⟨rfl,?_⟩
  (simp only[sr_r3,qE_neg,qE_int,k_int,qE_bin,qE_bc,qEs_cons,qEs_nil,qE_var,gZ,v_some,true_and])
  rw[f_lenL (E3 _ _ (A.ext _ _ hp)),lv_length]
  (simp only[b_sub,r3_i])
  refine⟨⟨by exact lb [] [_] (.c (-4611686018427387904)) (.s (.t (.n 0)) (.c 1)) [] [1] rfl,by exact lb [] [_] (.s (.t (.n 0)) (.c 1)) (.c 4611686018427387904) [.L (.n 0) (.c 60)] [1,1] rfl hl⟩,⟨by decide,by decide⟩,⟨by decide,by decide⟩,by decide,?_⟩
  rw[turns_down]
  refine forGo_inv (I:=fun done rest ρ H'=>WayI H₁ p q R C F place ps qs (worthL ps) (tr.map (·.2)) x done rest ρ H'∧H' C=some (.dict (qs.map kvI))) ?_ ?_ ?_ _ [] _ _ ⟨⟨place,x,[],[],none,none,none,rfl,rfl,E3,gF,?_,⟨Nat.sub_le ..,by simp,by simp only[List.length_nil,Nat.sub_zero];rw[er];exact hcz,fun w r=>by simpa using r⟩⟩,gC3⟩
  ·intro _ _ _ _ _ p hp;cases hp
  ·rintro done ρ H' ⟨⟨at',x',acc,fl,x7,x8,x9,hr,rfl,hE,eF,ef,B⟩,hC'⟩
   dsimp only[restW]
   (simp only[s_ret,qE_var,gS,gZ,v_some])
   have hd:=congrArg List.length hr
   rw[rangeL_length,List.append_nil] at hd
   rw[←hd,Nat.sub_self] at B ef
   rw[List.drop_zero] at ef
   obtain⟨h1,h2⟩:=T.start B.cell
   have:=B.all [] ⟨by rw[h1];exact lq [_] [_] (.t (.n 0)) (.v 0) [.l (.v 0) (.t (.n 0)),.e (.t (.n 0)) (.v 0)] [1,0,-1] [1,0,1] rfl (tn0 (a:=worthL ps)) (tnE (a:=worthL ps) (w1)),h2,rfl⟩
   refine hq tr x acc F H' T (A.ext.trans hE) (by rw[er];exact hcz) this (by have:=B.len;exact lQ [] [_,_,_] (.n 0) (.n 1) [.E (.n 0) (.n 2),.L (.n 1) (.a (.n 2) (.c 0)),.L (.n 2) (.n 1)] [1,-1,1,0] [1,1,0,1] rfl this (ns1 (a:=List.length ps) (b:=0)) (ns0 (a:=List.length ps) (b:=0))) ?_
   rw[eF,ef]
  ·rintro done it rest ρ H' K ⟨⟨at',x',acc,fl,x7,x8,x9,hr,rfl,hE,eF,ef,B⟩,hC'⟩ hK
   obtain⟨rfl,hlt⟩:=rangeL_at hr
   refine⟨_,rfl,?_⟩
   obtain⟨k,ek⟩:∃k,ps.length-done.length=k+1:=⟨ps.length-done.length-1,by exact lQ [] [_,_] (.n 0) (.a (.n 1) (.c 1)) [.E (.a (.n 1) (.c 1)) (.n 0),.L (.n 0) (.a (.n 1) (.c 1))] [1,1,0] [1,-1,0] rfl (nsE (a:=List.length ps-done.length) (b:=1) (lA [] [_,_,_] (.c 1) (.n 0) [.B (.n 1) (.n 2),.L (.n 2) (.a (.n 0) (.n 1))] [1,1,1] rfl hlt (ns1 (a:=List.length ps) (b:=done.length)))) (ns1 (a:=List.length ps-done.length) (b:=1))⟩
   rw[ek] at B ef
   have ei:(ps.length:Int)-1+(done.length:Int) * -1=(k:Int):=by exact lq [] [_,_,_,_] (.a (.s (.t (.n 0)) (.c 1)) (.p (.t (.n 1)) (-1))) (.t (.n 2)) [.E (.n 3) (.a (.n 2) (.c 1)),.E (.a (.n 3) (.n 1)) (.n 0),.L (.n 0) (.a (.n 3) (.n 1))] [1,-1,1,0] [1,1,-1,0] rfl ek (nsE (a:=List.length ps) (b:=done.length) (lA [] [_,_] (.n 0) (.n 1) [.B (.n 0) (.n 1)] [1,1] rfl hlt)) (ns1 (a:=List.length ps) (b:=done.length))
   rw[ei]
   obtain⟨y,hy⟩:=get_of_lt (l:=ps) (k:=k) (by exact lB [] [_,_,_] (.n 0) (.n 1) [.E (.n 2) (.a (.n 0) (.c 1)),.L (.n 2) (.n 1)] [1,-1,1] rfl ek (ns0 (a:=List.length ps) (b:=done.length)))
   obtain⟨ra,rb,g1,g2,RZ⟩:=T.step k y hy
   have ma:=List.mem_of_getElem? g1
   have mb:=List.mem_of_getElem? g2
   obtain⟨v0,v1⟩:=P.val y (List.mem_of_getElem? hy)
   have ea:rowAt (tr.map (·.2)) k=ra.2:=by rw[rowAt,List.getElem?_map,g1];rfl
   have eb:rowAt (tr.map (·.2)) (k+1)=rb.2:=by rw[rowAt,List.getElem?_map,g2];rfl
   have Bc:=B.cell
   rw[eb] at Bc
   obtain⟨at0,atx⟩:=cellZ_some Bc
   obtain⟨z,hz1,LZ⟩:=RZ.at_ at'.toNat (by rw[←RZ.len];exact lt_of_get atx)
   rw[atx] at hz1
   cases hz1
   rw[Int.toNat_of_nonneg at0] at LZ
   have hpE:=hE _ _ (A.ext _ _ hp)
   have hRE:=hE _ _ A.at_
   have ek1:(k:Int)+1=((k+1:Nat):Int):=by exact lq [] [_] (.a (.t (.n 0)) (.c 1)) (.t (.a (.n 0) (.c 1))) [] [1] [1] rfl
   dsimp only[bodyW]
   (simp only[sS,sZ,sf_asg,qE_idx,qE_int,qE_var,gS,gZ,v_some])
   refine i_lvN hpE hy (by exact lA [] [_] (.n 0) (.c 1001) [.L (.n 0) (.c 60)] [1,1] rfl hl) ?_
   (simp only[i_pv0])
   dsimp only[restW]
   (simp only[sf_asg,sS,sZ,qE_call,qEs_cons,qEs_nil,qE_mt,qE_int,qE_var,gS,gZ,v_some,qE_idx,qE_bin,b_add,true_and])
   refine i_refs hRE g1 hrl ?_
   rw[ek1]
   refine i_refs hRE g2 hrl ?_
   obtain⟨a,ea'⟩:∃a:Nat,at'=a:=⟨at'.toNat,by exact lq [_] [_] (.v 0) (.t (.n 0)) [.e (.t (.n 0)) (.v 0),.l (.v 0) (.t (.n 0))] [1,1,0] [1,-1,0] rfl (tnE (a:=at') (at0)) (tn0 (a:=at'))⟩
   rw[ea',Int.toNat_natCast] at atx
   rw[ea']
   refine i_loB (hE _ _ (A.inh _ mb)) atx (rl _ mb) ?_
   simp only[ov]
   rw[←ea',r_D hC']
   refine⟨.inl rfl,?_⟩
   rw[m_get hC',dget_lk,show ((lk y.1 qs).map V.int).getD (V.int 0)=V.int (ownZ qs y.1) by rw[ownZ];cases lk y.1 qs <;> rfl]
   refine number_spec D.n1 (hE _ _ (A.inh _ ma)) (rl _ ma) v0 v1 LZ fun m hm=>?_
   dsimp only[restW]
   (simp only[sf_ex,qE_mt,qEs_cons,qEs_nil,qE_tup,List.length_cons,List.length_nil,Nat.reduceAdd,qE_var,gS,gZ,v_some])
   rw[r_L eF]
   refine⟨⟨by decide,by decide⟩,by decide,?_⟩
   rw[m_append eF]
   have hfl:fl.length≤60:=by
    rw[ef,List.length_reverse,zl,List.length_map,List.length_zip]
    exact Nat.le_trans (Nat.min_le_left _ _) (by rw[List.length_drop];exact lA [] [_,_] (.n 0) (.c 60) [.L (.n 1) (.c 60),.L (.n 0) (.n 1)] [1,1,1] rfl hl (ns0 (a:=List.length ps) (b:=k+1)))
   refine⟨by rw[lv_length,lim_eq];exact lB [] [_] (.n 0) (.c 16777216) [.L (.n 0) (.c 60)] [1,1] rfl hfl,?_⟩
   dsimp only[restW]
   (simp only[sf_asg,sS,sZ,qE_bin,qE_var,gS,gZ,v_some,b_mul,b_sub])
   refine⟨.inr ⟨by exact lb [_] [] (.c (-18446744073709551616)) (.v 0) [.l (.c 1) (.v 0)] [1,1] rfl v0,by exact lb [_] [] (.v 0) (.c 18446744073709551616) [.l (.v 0) (.c 2000)] [1,1] rfl v1⟩,?_⟩
   dsimp only[restW]
   (simp only[s_nil])
   have el:∀it:It,ps.length-(done++[it]).length=k:=fun it=>by rw[List.length_append,List.length_singleton];exact lQ [] [_,_,_,_] (.n 0) (.n 1) [.e (.a (.s (.t (.n 2)) (.c 1)) (.p (.t (.n 3)) (-1))) (.t (.n 1)),.L (.n 2) (.a (.n 0) (.a (.n 3) (.c 1))),.E (.a (.n 0) (.a (.n 3) (.c 1))) (.n 2)] [1,-1,0,-1] [1,1,0,1] rfl ei (ns1 (a:=List.length ps) (b:=done.length+1)) (nsE (a:=List.length ps) (b:=done.length+1) (lA [] [_,_] (.a (.n 0) (.c 1)) (.n 1) [.B (.n 0) (.n 1)] [1,1] rfl hlt))
   refine hK _ _ ⟨⟨at'-m*y.1,x'-ab m,m :: acc,fl++[(y.1,m)],_,_,_,by rw[hr];simp,rfl,.setNew _ hE hF1,by rw[Hp.set_self,lv_append];rfl,?_,?_⟩,by rw[Hp.set_ne _ nCF];exact hC'⟩
   ·rw[el,zl_drop hy,List.reverse_cons,←ef]
   ·rw[el]
    exact B.step hy (by rw[ea];exact hm)
  ·simp [zl]
theorem deal_spec (D:Def12 defs) {p q:Addr}{ps qs:PL}{price:Int} (P:PP ps) (P':PP qs) (hp:H p=some (.list (lv ps))) (hpq:H q=some (.list (lv qs)))
  (hS0:¬InR price→X "NoSum" H) (hK:InR price→¬Kinds ps qs→∀H',Ext H H'→X "NoKind" H') (hS:InR price→Kinds ps qs→1500<worthL ps+worthL qs→∀H',Ext H H'→X "NoSum" H')
  (hN:InR price→Kinds ps qs→worthL ps+worthL qs≤1500→∀tr H',RTab ps qs (worthL ps).toNat (worthL qs).toNat tr→Ext H H'→cellZ (rowAt (tr.map (·.2)) ps.length) (price+worthL ps)=none→X "NoChange" H')
  (hq:InR price→Kinds ps qs→worthL ps+worthL qs≤1500→∀tr x w a b H',RTab ps qs (worthL ps).toNat (worthL qs).toNat tr→Ext H H'→cellZ (rowAt (tr.map (·.2)) ps.length) (price+worthL ps)=some x→PickZ (tr.map (·.2)) ps qs (worthL ps) ps.length (price+worthL ps) x w→w.length=ps.length →
   H a=none→H b=none→a≠b→H' a=some (.list (lv (payZ ps w)))→H' b=some (.list (lv (backZ ps w)))→Q (.tup [.ref a,.ref b]) H') :
  callN defs anc (n+6) "deal" [.ref p,.ref q,.int price] Q X H:=by
 have hl:=P.len
 have w1:=P.worth0
 refine call_of D.n4 rfl ?_
 simp only[f_deal]
 (simp only[List.map_cons,List.map_nil,List.length_cons,List.length_nil,Nat.reduceAdd,Nat.reduceSub,List.replicate,List.cons_append,List.nil_append,sf_ex,qE_call,qEs_cons,qEs_nil,qE_var,gS,gZ,v_some,true_and])
 refine need_sum_spec D.n3 (fun hm=>?_) hS0
 dsimp only[restW]
 (simp only[sf_ex,qE_call,qEs_cons,qEs_nil,qE_var,gS,gZ,v_some,true_and])
 refine need_purse_is D.toDef10R P P' hp hpq (fun k H' hE=>hK hm k H' hE) (fun k w H' hE=>hS hm k w H' hE) fun k w H₁ hE1=>?_
 dsimp only[restW]
 (simp only[sf_asg,sS,sZ,qE_call,qEs_cons,qEs_nil,qE_bin,qE_var,gZ,v_some,true_and,gS])
 refine worth_is D.h5 P (hE1 _ _ hp) fun H₂ hE2=>?_
 (simp only[b_add])
 have E12:=hE1.trans hE2
 refine way_spec D P P' (E12 _ _ hp) (E12 _ _ hpq) w (by have:=hm.1;exact la [_,_] [] (.c 0) (.a (.v 0) (.v 1)) [.l (.c 0) (.v 1),.l (.c 0) (.v 0)] [1,1,1] rfl w1 hm.1) (fun tr H₃ T hE3 hn=>?_) fun tr x ww a H₃ T hE3 hx hpk hwl ha=>?_
 ·dsimp only[restW]
  (simp only[sf_ife,app_cons,app_nil,qE_cmp,asB_bool,qE_none,qE_var,gS,gZ,v_some,c_isNN])
  refine iteP trivial ?_
  dsimp only[restW]
  (simp only[s_raise,true_and])
  exact hN hm k w tr H₃ T (E12.trans hE3) hn
 ·have E3:=E12.trans hE3
  generalize hfl:(zl ps ww).reverse=fl at ha
  have hll:fl.length≤60:=by rw[←hfl,List.length_reverse,zl,List.length_map,List.length_zip];exact Nat.le_trans (Nat.min_le_left _ _) hl
  dsimp only[restW]
  (simp only[sf_ife,app_cons,app_nil,qE_cmp,asB_bool,qE_none,qE_var,gS,gZ,v_some,c_isRN])
  refine iteF ?_
  dsimp only[restW]
  (simp only[sf_asg,sS,sZ,qE_compIf,qE_tup,qEs_cons,List.length_cons,qEs_nil,List.length_nil,Nat.reduceAdd,qE_var,qE_cmp,asB_bool,qE_int,sr_ex,gS,gZ,v_some,true_and])
  refine src_of ha ?_
  rw[lvIt]
  refine compGo_if _ (fun e=>decide (0<e.2)) pv (okH_one ha) fl [] (by rw[List.length_nil,Nat.zero_add,lim_eq];exact lA [] [_] (.n 0) (.c 16777216) [.L (.n 0) (.c 60)] [1,1] rfl hll) ?_ ?_
  ·intro e he
   refine⟨_,rfl,fun K hK=>?_,fun ξ K hK=>?_⟩
   ·(simp only[sS,sZ,gS,gZ,v_some,c_gt])
    exact hK
   ·(simp only[sS,sZ,gS,gZ,v_some])
    exact⟨by decide,hK⟩
  rw[List.nil_append]
  refine⟨by rw[List.length_map,lim_eq];exact Nat.le_trans (List.length_filter_le ..) (by exact lA [] [_] (.n 0) (.c 16777216) [.L (.n 0) (.c 60)] [1,1] rfl hll),fun b hb=>?_⟩
  have Eb:=Ext.new (.list (lv (fl.filter fun e=>decide (0<e.2)))) hb
  have gb:=Hp.set_self H₃ b (.list (lv (fl.filter fun e=>decide (0<e.2))))
  change restW _ _ _ _ _ _ _ (H₃.set b (.list (lv (fl.filter fun e=>decide (0<e.2)))))
  generalize H₃.set b (.list (lv (fl.filter fun e=>decide (0<e.2))))=H₄ at Eb gb ⊢
  dsimp only[restW]
  (simp only[sf_asg,sS,sZ,qE_compIf,qE_tup,qEs_cons,List.length_cons,qEs_nil,List.length_nil,Nat.reduceAdd,qE_neg,qE_var,qE_cmp,asB_bool,qE_int,sr_ex,gS,gZ,v_some,true_and])
  refine src_of (Eb _ _ ha) ?_
  rw[lvIt]
  refine compGo_if _ (fun e=>decide (e.2<0)) (fun e=>pv (e.1,-e.2)) (okH_one (Eb _ _ ha)) fl [] (by rw[List.length_nil,Nat.zero_add,lim_eq];exact lA [] [_] (.n 0) (.c 16777216) [.L (.n 0) (.c 60)] [1,1] rfl hll) ?_ ?_
  ·intro e he
   refine⟨_,rfl,fun K hK=>?_,fun ξ K hK=>?_⟩
   ·(simp only[sS,sZ,gS,gZ,v_some,c_lt])
    exact hK
   ·(simp only[sS,sZ,gS,gZ,v_some,k_int])
    exact⟨by decide,hK⟩
  rw[List.nil_append]
  refine⟨by rw[List.length_map,lim_eq];exact Nat.le_trans (List.length_filter_le ..) (by exact lA [] [_] (.n 0) (.c 16777216) [.L (.n 0) (.c 60)] [1,1] rfl hll),fun d hd=>?_⟩
  have e1:(fl.filter fun e=>decide (e.2<0)).map (fun e=>pv (e.1,-e.2))=lv ((fl.filter fun e=>decide (e.2<0)).map fun e=>(e.1,-e.2)):=by rw[lv,List.map_map];rfl
  rw[e1]
  have Ed:=Ext.new (.list (lv ((fl.filter fun e=>decide (e.2<0)).map fun e=>(e.1,-e.2)))) hd
  have gd:=Hp.set_self H₄ d (.list (lv ((fl.filter fun e=>decide (e.2<0)).map fun e=>(e.1,-e.2))))
  generalize H₄.set d (.list (lv ((fl.filter fun e=>decide (e.2<0)).map fun e=>(e.1,-e.2))))=H₅ at Ed gd ⊢
  have l1:(fl.filter fun e=>decide (0<e.2)).length≤60:=Nat.le_trans (List.length_filter_le ..) hll
  have l2:((fl.filter fun e=>decide (e.2<0)).map fun e=>(e.1,-e.2)).length≤60:=by rw[List.length_map];exact Nat.le_trans (List.length_filter_le ..) hll
  dsimp only[restW]
  (simp only[s_ret,qE_tup,qEs_cons,List.length_cons,qEs_nil,List.length_nil,Nat.reduceAdd,qE_rev,qE_var,gS,gZ,v_some,k_ref])
  refine⟨_,Ed _ _ gb,by rw[List.length_reverse,lv_length,lim_eq];exact lA [] [_] (.n 0) (.c 16777216) [.L (.n 0) (.c 60)] [1,1] rfl l1,fun r1 h1=>?_⟩
  refine⟨_,Ext.new _ h1 _ _ gd,by rw[List.length_reverse,lv_length,lim_eq];exact lA [] [_] (.n 0) (.c 16777216) [.L (.n 0) (.c 60)] [1,1] rfl l2,fun r2 h2=>⟨Nat.le_of_ble_eq_true rfl,?_⟩⟩
  have E5:=(E3.trans Eb).trans Ed
  have n12:r1≠r2:=ne_new (Hp.set_self _ r1 _) h2
  refine hq hm k w tr x ww r1 r2 _ T ((E5.trans (.new _ h1)).trans (.new _ h2)) hx hpk hwl (E5.no h1) ((E5.trans (.new _ h1)).no h2) n12 ?_ ?_
  ·rw[Hp.set_ne _ n12,Hp.set_self,lv_reverse,payZ,zl_filter hfl.symm]
  ·rw[Hp.set_self,lv_reverse,backZ,←List.map_reverse,zl_filter hfl.symm]
end
abbrev WZ:=List (Addr×List Int)
noncomputable def wz (w:List Int):List V:=w.map V.int
noncomputable def zrefs (ws:WZ):List V:=ws.map fun x=>V.ref x.1
noncomputable def InZ (H:Hp) (ws:WZ):Prop:=∀x∈ws,H x.1=some (.list (wz x.2))
structure AccZ (H H':Hp) (M:Addr) (acc:WZ) (S:List Int→Prop) (L:Nat):Prop where
 ext:Ext H H'
 at_:H' M=some (.list (zrefs acc))
 inw:∀x∈acc,x.1≠M∧H' x.1=some (.list (wz x.2))
 mem:∀w,w∈acc.map (·.2) ↔ S w
 len:acc.length=L
noncomputable def SnocZ (as:WZ) (a b:Int) (w:List Int):Prop:=∃y∈as,∃m,a≤m∧m≤b∧w=y.2++[m]
noncomputable def SnocJZ (as:WZ) (a b:Int) (y:List Int) (j:Nat) (w:List Int):Prop:=SnocZ as a b w∨∃m,a≤m∧m<a+j∧w=y++[m]
theorem AccZ.one {H H':Hp}{M:Addr}{acc:WZ}{as:WZ}{lo hi:Int}{j L:Nat}{y:List Int} (A:AccZ H H' M acc (SnocJZ as lo hi y j) L) (hM:H M=none) {a b:Addr} (ha:H' a=none) {o:Ob} (hb:(H'.set a o) b=none) :
  AccZ H (((H'.set a o).set b (.list (wz (y++[lo+j])))).set M (.list (zrefs acc++[.ref b]))) M (acc++[(b,y++[lo+j])]) (SnocJZ as lo hi y (j+1)) (L+1) where
 ext:=.setNew _ ((A.ext.trans (.new _ ha)).trans (.new _ hb)) hM
 at_:=by rw[Hp.set_self,zrefs,zrefs,List.map_append];rfl
 inw:=fun x hx=>by
  have e:=(Ext.new o ha).trans (Ext.new (.list (wz (y++[lo+j]))) hb)
  have nb:b≠M:=fun q=>by subst q;rw[Ext.new o ha _ _ A.at_] at hb;cases hb
  rcases List.mem_append.mp hx with h | h
  ·obtain⟨h1,h2⟩:=A.inw x h
   exact⟨h1,by rw[Hp.set_ne _ h1];exact e _ _ h2⟩
  ·rw[List.mem_singleton] at h;subst h
   exact⟨nb,by rw[Hp.set_ne _ nb];exact Hp.set_self _ _ _⟩
 mem:=fun w=>by
  rw[List.map_append,List.mem_append,A.mem w]
  constructor
  ·rintro (h | h)
   ·rcases h with h | ⟨m,h0,h1,h2⟩
    ·exact .inl h
    ·exact .inr ⟨m,h0,by exact lb [_,_] [_] (.v 0) (.a (.v 1) (.t (.a (.n 0) (.c 1)))) [.b (.v 0) (.a (.v 1) (.t (.n 0)))] [1,1] rfl h1,h2⟩
   ·rw[List.map_cons,List.map_nil,List.mem_singleton] at h
    exact .inr ⟨lo+j,by exact la [_] [_] (.v 0) (.a (.v 0) (.t (.n 0))) [] [1] rfl,by exact lb [_] [_] (.a (.v 0) (.t (.n 0))) (.a (.v 0) (.t (.a (.n 0) (.c 1)))) [] [1] rfl,h⟩
  ·rintro (h | ⟨m,h0,h1,h2⟩)
   ·exact .inl (.inl h)
   ·by_cases q:m<lo+j
    ·exact .inl (.inr ⟨m,h0,q,h2⟩)
    ·have:m=lo+j:=by exact lq [_,_] [_] (.v 0) (.a (.v 1) (.t (.n 0))) [.l (.a (.v 1) (.t (.n 0))) (.v 0),.b (.v 0) (.a (.v 1) (.t (.a (.n 0) (.c 1))))] [1,1,0] [1,0,1] rfl (Int.not_lt.mp q) h1
     subst this
     exact .inr (by rw[h2];exact .head _)
 len:=by rw[List.length_append,A.len];rfl
theorem AccZ.next {H H':Hp}{M:Addr}{acc:WZ}{as:WZ}{lo hi:Int}{N L:Nat}{y:Addr×List Int} (e:lo+N=hi+1) (A:AccZ H H' M acc (SnocJZ as lo hi y.2 N) L):AccZ H H' M acc (SnocZ (as++[y]) lo hi) L :=
 ⟨A.ext,A.at_,A.inw,fun w=>by
  rw[A.mem w]
  constructor
  ·rintro (⟨z,h1,h2⟩ | ⟨m,h0,h1,h2⟩)
   ·exact⟨z,List.mem_append_left _ h1,h2⟩
   ·exact⟨y,List.mem_append_right _ (.head _),m,h0,by exact la [_,_,_] [_] (.v 0) (.v 1) [.e (.a (.v 2) (.t (.n 0))) (.a (.v 1) (.c 1)),.b (.v 0) (.a (.v 2) (.t (.n 0)))] [1,1,1] rfl e h1,h2⟩
  ·rintro⟨z,h1,m,h0,h2,h3⟩
   rcases List.mem_append.mp h1 with h | h
   ·exact .inl ⟨z,h,m,h0,h2,h3⟩
   ·rw[List.mem_singleton] at h;subst h
    exact .inr ⟨m,h0,by exact lb [_,_,_] [_] (.v 0) (.a (.v 1) (.t (.n 0))) [.e (.a (.v 1) (.t (.n 0))) (.a (.v 2) (.c 1)),.l (.v 0) (.v 2)] [1,-1,1] rfl e h2,h3⟩,A.len⟩
theorem AccZ.start {H H':Hp}{M:Addr}{acc:WZ}{as:WZ}{lo hi:Int}{L:Nat}{y:List Int} (A:AccZ H H' M acc (SnocZ as lo hi) L):AccZ H H' M acc (SnocJZ as lo hi y 0) L :=
 ⟨A.ext,A.at_,A.inw,fun w=>by rw[A.mem w];exact⟨.inl,fun h=>h.elim id fun⟨m,h0,h1,_⟩=>by omega⟩,A.len⟩
structure WaysZ (H:Hp) (W:Addr) (ws:WZ) (ps qs:PL) (k b:Nat):Prop where
 at_:H W=some (.list (zrefs ws))
 inw:InZ H ws
 mem:∀w,w∈ws.map (·.2) ↔ WayZ ps qs k w
 len:ws.length≤b ^ k
theorem WaysZ.ext {H H':Hp}{W:Addr}{ws:WZ}{ps qs:PL}{k b:Nat} (A:WaysZ H W ws ps qs k b) (e:Ext H H'):WaysZ H' W ws ps qs k b:=⟨e _ _ A.at_,fun x hx=>e _ _ (A.inw x hx),A.mem,A.len⟩
section
variable {defs:String→Option Fn}{anc:String→List String}{n:Nat}{Q:V→Hp→Prop}{X:String→Hp→Prop}{H:Hp}
end
section
variable {defs:String→Option Fn}{anc:String→List String}{n:Nat}{Q:V→Hp→Prop}{X:String→Hp→Prop}{H:Hp}
end
theorem TopZ.one {ps qs:PL}{d:Int}{w v:List Int} (a:TopZ ps qs d w) (b:TopZ ps qs d v):v=w:=by
 rcases a.top v b.way b.wor with h | h
 ·exact h
 ·rcases b.top w a.way a.wor with k | k
  ·exact k.symm
  ·rw[h.2] at k;cases k.1
noncomputable def BestNowZ (ps qs:PL) (M:Int) (as:WZ):Option (Addr×List Int)→Prop
 | none=>∀x∈as,woZ ps x.2≠M
 | some y=>y∈as∧woZ ps y.2=M∧∀w,TopZ ps qs M w→w∈as.map (·.2)→y.2=w
theorem mem_snocZ {as:WZ}{b:Addr×List Int}{w:List Int} (h:w∈(as++[b]).map (·.2)):w∈as.map (·.2)∨w=b.2:=by
 rw[List.map_append] at h
 exact (List.mem_append.mp h).imp id List.mem_singleton.mp
theorem BestNowZ.skip {ps qs:PL}{M:Int}{as:WZ}{o:Option (Addr×List Int)}{b:Addr×List Int} (B:BestNowZ ps qs M as o) (h:woZ ps b.2≠M):BestNowZ ps qs M (as++[b]) o:=by
 cases o with
 | none=>intro x hx;rcases List.mem_append.mp hx with q | q;exact B x q;rw[List.mem_singleton.mp q];exact h
 | some y=>exact⟨List.mem_append_left _ B.1,B.2.1,fun w T hw=>(mem_snocZ hw).elim (B.2.2 w T) fun q=>absurd (q▸T.wor) h⟩
theorem BestNowZ.first {ps qs:PL}{M:Int}{as:WZ}{b:Addr×List Int} (B:BestNowZ ps qs M as none) (h:woZ ps b.2=M):BestNowZ ps qs M (as++[b]) (some b) :=
 ⟨List.mem_append_right _ (.head _),h,fun w T hw=>(mem_snocZ hw).elim (fun q=>by obtain⟨x,hx,rfl⟩:=List.mem_map.mp q;exact absurd T.wor (B x hx)) fun q=>q.symm⟩
theorem BestNowZ.take {ps qs:PL}{M:Int}{as:WZ}{b y:Addr×List Int} (B:BestNowZ ps qs M as (some y)) (hb:WayZ ps qs ps.length b.2) (h:woZ ps b.2=M) (e:betZ b.2 y.2=true):BestNowZ ps qs M (as++[b]) (some b) :=
 ⟨List.mem_append_right _ (.head _),h,fun w T hw=>(mem_snocZ hw).elim (fun q=>by
  rcases T.top b.2 hb h with z | z
  ·exact z
  ·rw[←B.2.2 w T q,e] at z;cases z.2) fun q=>q.symm⟩
section
variable {defs:String→Option Fn}{n:Nat}{Q:V→Hp→Prop}{X:String→Hp→Prop}{H:Hp}
end
noncomputable def pos (m:Int):Int:=if 0<m then m else 0
noncomputable def neg' (m:Int):Int:=if m<0 then -m else 0
noncomputable def posW (ps:PL) (w:List Int):Int:=((ps.zip w).map fun e=>e.1.1*pos e.2).sum
noncomputable def negW (ps:PL) (w:List Int):Int:=((ps.zip w).map fun e=>e.1.1*neg' e.2).sum
noncomputable def posN (w:List Int):Int:=(w.map pos).sum
noncomputable def negN (w:List Int):Int:=(w.map neg').sum
theorem ab_pn (m:Int):ab m=pos m+neg' m:=by unfold ab pos neg';split <;> split <;> omega
theorem m_pn (m:Int):m=pos m-neg' m:=by unfold pos neg';split <;> split <;> omega
theorem pos0 (m:Int):0≤pos m:=by unfold pos;split <;> omega
theorem neg0 (m:Int):0≤neg' m:=by unfold neg';split <;> omega
theorem posW_snoc {ps:PL}{w:List Int}{k:Nat}{m:Int}{q:Int×Int} (h:ps[k]?=some q) (e:w.length=k):posW ps (w++[m])=posW ps w+q.1*pos m:=by
 rw[posW,zip_snocZ h e,List.map_append,List.sum_append,posW];exact congrArg (_ + ·) (Int.add_zero _)
theorem negW_snoc {ps:PL}{w:List Int}{k:Nat}{m:Int}{q:Int×Int} (h:ps[k]?=some q) (e:w.length=k):negW ps (w++[m])=negW ps w+q.1*neg' m:=by
 rw[negW,zip_snocZ h e,List.map_append,List.sum_append,negW];exact congrArg (_ + ·) (Int.add_zero _)
theorem posN_snoc (w:List Int) (m:Int):posN (w++[m])=posN w+pos m:=by rw[posN,List.map_append,List.sum_append,posN];exact congrArg (_ + ·) (Int.add_zero _)
theorem negN_snoc (w:List Int) (m:Int):negN (w++[m])=negN w+neg' m:=by rw[negN,List.map_append,List.sum_append,negN];exact congrArg (_ + ·) (Int.add_zero _)
theorem fewZ_pn (w:List Int):fewZ w=posN w+negN w:=by
 induction w with
 | nil=>rfl
 | cons m w ih =>
  show ab m+fewZ w=pos m+posN w+(neg' m+negN w)
  rw[ih,ab_pn];exact lq [_,_,_,_] [] (.a (.a (.v 0) (.v 1)) (.a (.v 2) (.v 3))) (.a (.a (.v 0) (.v 2)) (.a (.v 1) (.v 3))) [] [1] [1] rfl
theorem woZ_pn (ps:PL):∀(w:List Int),woZ ps w=posW ps w-negW ps w:=by
 induction ps with
 | nil=>intro w;rw[woZ,posW,negW,List.zip_nil_left];rfl
 | cons p ps ih =>
  intro w
  cases w with
  | nil=>rw[woZ,posW,negW,List.zip_nil_right];rfl
  | cons m w =>
   show p.1*m+woZ ps w=p.1*pos m+posW ps w-(p.1*neg' m+negW ps w)
   rw[ih w]
   have:p.1*m=p.1*pos m-p.1*neg' m:=by rw[←Int.mul_sub,←m_pn]
   exact lq [_,_,_,_,_] [] (.a (.v 0) (.s (.v 1) (.v 2))) (.s (.a (.v 3) (.v 1)) (.a (.v 4) (.v 2))) [.e (.v 0) (.s (.v 3) (.v 4))] [1,-1] [1,1] rfl this
section
variable {ps qs:PL}{vs:List Int}
theorem net_way (P:PP ps) (P':PP qs) {k:Nat}:∀ {w:List Int}{w':List Nat},WayZ ps qs k w→WayK (fullP ps vs) k w'→(∀(i:Nat) (q:Int×Int) (m:Int),ps[i]?=some q→w[i]?=some m→(vs.count q.1:Int)=pos m) →
  ∃z,WayZ ps qs k z∧woZ ps z=posW ps w-(wo (fullP ps vs) w':Int)∧fewZ z≤posN w+(w'.sum:Int):=by
 induction k with
 | zero =>
  intro w w' h h' _
  cases h
  cases h'
  have e1:woZ ps []=0:=by rw[woZ,List.zip_nil_right];rfl
  have e2:posW ps []=0:=by rw[posW,List.zip_nil_right];rfl
  have e3:wo (fullP ps vs) []=0:=by rw[wo,List.zip_nil_right];rfl
  exact⟨[],rfl,by rw[e1,e2,e3];rfl,by decide⟩
 | succ k ih =>
  intro w w' ⟨q,w0,m,hq,r,hl,hm,e⟩ ⟨q',v0,m',hq',r',hm',e'⟩ hc
  subst e e'
  replace r:WayZ ps qs k w0:=r
  replace r':WayK (fullP ps vs) k v0:=r'
  have hqf:(fullP ps vs)[k]?=some (q.1,q.2+(vs.count q.1:Int)):=by rw[fullP,List.getElem?_map,hq];rfl
  cases hq'.symm.trans hqf
  have hck:(vs.count q.1:Int)=pos m:=hc k q m hq (by rw[List.getElem?_append_right (by rw[r.len];exact Nat.le_refl _),r.len,Nat.sub_self];rfl)
  obtain⟨z,z1,z2,z3⟩:=ih r r' fun i y x h1 h2=>hc i y x h1 (by rw[List.getElem?_append_left (lt_of_get h2)];exact h2)
  obtain⟨v0',v1⟩:=P.val q (List.mem_of_getElem? hq)
  obtain⟨c0,c1⟩:=P.cnt q (List.mem_of_getElem? hq)
  obtain⟨o0,_⟩:=lk_range (v:=q.1) P'.cnt
  have hm'':(m':Int)≤q.2+pos m:=by
   have:m'≤(q.2+(vs.count q.1:Int)).toNat:=hm'
   exact la [_,_] [_,_,_] (.t (.n 0)) (.a (.v 0) (.v 1)) [.e (.t (.n 1)) (.v 1),.L (.n 0) (.n 2),.e (.t (.n 2)) (.a (.v 0) (.t (.n 1)))] [1,1,1,1] rfl hck this (tnE (a:=q.snd+(↑(List.count q.fst vs):Int)) (la [_] [_] (.c 0) (.a (.v 0) (.t (.n 0))) [.l (.c 0) (.v 0)] [1,1] rfl c0))
  have hpo:pos m≤ownZ qs q.1:=by
   unfold pos
   by_cases c:0<m
   ·rw[if_pos c];exact hm
   ·rw[if_neg c];exact o0
  refine⟨z++[pos m-(m':Int)],⟨q,z,_,hq,z1,by exact la [_,_] [_] (.g (.v 0)) (.s (.v 1) (.t (.n 0))) [.l (.t (.n 0)) (.a (.v 0) (.v 1))] [1,1] rfl hm'',by exact la [_,_] [_] (.s (.v 0) (.t (.n 0))) (.v 1) [.l (.v 0) (.v 1)] [1,1] rfl hpo,rfl⟩,?_,?_⟩
  ·rw[woZ_snoc hq z1.len,posW_snoc hq r.len,wo_snoc hqf r'.len,z2,Int.natCast_add,Int.natCast_mul]
   have ev:((q.1.toNat:Nat):Int)=q.1:=by exact lq [_] [_] (.t (.n 0)) (.v 0) [.l (.v 0) (.t (.n 0)),.e (.t (.n 0)) (.v 0)] [1,0,-1] [1,0,1] rfl (tn0 (a:=q.fst)) (tnE (a:=q.fst) (la [_] [] (.c 0) (.v 0) [.l (.c 1) (.v 0)] [1,1] rfl v0'))
   show posW ps w0-(wo (fullP ps vs) v0:Int)+(pos m-(m':Int))*q.1=_-((wo (fullP ps vs) v0:Int)+(m':Int)*((q.1.toNat:Nat):Int))
   rw[ev,Int.sub_mul,Int.mul_comm (pos m)]
   exact lq [_,_,_] [_] (.a (.s (.v 0) (.t (.n 0))) (.s (.v 1) (.v 2))) (.s (.a (.v 0) (.v 1)) (.a (.t (.n 0)) (.v 2))) [] [1] [1] rfl
  ·rw[fewZ_snoc,posN_snoc,List.sum_append,List.sum_cons,List.sum_nil]
   have:=pos0 m
   have h1:ab (pos m-(m':Int))≤pos m+(m':Int):=by unfold ab;split <;> (first | exact la [_] [_] (.g (.s (.v 0) (.t (.n 0)))) (.a (.v 0) (.t (.n 0))) [.l (.c 0) (.v 0)] [1,2] rfl this | exact la [_] [_] (.s (.v 0) (.t (.n 0))) (.a (.v 0) (.t (.n 0))) [] [1] rfl)
   exact la [_,_,_,_] [_,_] (.a (.v 0) (.v 1)) (.a (.a (.v 2) (.v 3)) (.t (.a (.n 0) (.a (.n 1) (.c 0))))) [.l (.v 0) (.a (.v 2) (.t (.n 0))),.l (.v 1) (.a (.v 3) (.t (.n 1)))] [1,1,1] rfl z3 h1
theorem back_way (P:PP ps) {k:Nat}:∀ {w:List Int},WayZ ps qs k w→∃w':List Nat,WayK (fullP ps vs) k w'∧(wo (fullP ps vs) w':Int)=negW ps w∧(w'.sum:Int)=negN w:=by
 induction k with
 | zero =>
  intro w h
  cases h
  have e2:negW ps []=0:=by rw[negW,List.zip_nil_right];rfl
  have e3:wo (fullP ps vs) []=0:=by rw[wo,List.zip_nil_right];rfl
  exact⟨[],rfl,by rw[e2,e3];rfl,rfl⟩
 | succ k ih =>
  intro w ⟨q,w0,m,hq,r,hl,hm,e⟩
  subst e
  replace r:WayZ ps qs k w0:=r
  obtain⟨v,k1,k2,k3⟩:=ih r
  have hqf:(fullP ps vs)[k]?=some (q.1,q.2+(vs.count q.1:Int)):=by rw[fullP,List.getElem?_map,hq];rfl
  obtain⟨v0,v1⟩:=P.val q (List.mem_of_getElem? hq)
  obtain⟨c0,c1⟩:=P.cnt q (List.mem_of_getElem? hq)
  have n0:=neg0 m
  have hle:neg' m≤q.2:=by unfold neg';split <;> (first | exact la [_,_] [] (.g (.v 0)) (.v 1) [.l (.g (.v 1)) (.v 0)] [1,1] rfl hl | exact c0)
  refine⟨v++[(neg' m).toNat],⟨_,v,_,hqf,k1,?_,rfl⟩,?_,?_⟩
  ·show (neg' m).toNat≤(q.2+(vs.count q.1:Int)).toNat
   exact lA [_,_] [_,_,_] (.n 0) (.n 1) [.l (.v 0) (.v 1),.e (.t (.n 1)) (.a (.v 1) (.t (.n 2))),.e (.t (.n 0)) (.v 0)] [1,1,-1,1] rfl hle (tnE (a:=q.snd+(↑(List.count q.fst vs):Int)) (la [_] [_] (.c 0) (.a (.v 0) (.t (.n 0))) [.l (.c 0) (.v 0)] [1,1] rfl c0)) (tnE (a:=neg' m) (n0))
  ·rw[wo_snoc hqf k1.len,negW_snoc hq r.len,Int.natCast_add,Int.natCast_mul,k2]
   have ev:((q.1.toNat:Nat):Int)=q.1:=by exact lq [_] [_] (.t (.n 0)) (.v 0) [.l (.v 0) (.t (.n 0)),.e (.t (.n 0)) (.v 0)] [1,0,-1] [1,0,1] rfl (tn0 (a:=q.fst)) (tnE (a:=q.fst) (la [_] [] (.c 0) (.v 0) [.l (.c 1) (.v 0)] [1,1] rfl v0))
   have en:(((neg' m).toNat:Nat):Int)=neg' m:=by exact lq [_] [_] (.t (.n 0)) (.v 0) [.l (.v 0) (.t (.n 0)),.e (.t (.n 0)) (.v 0)] [1,0,-1] [1,0,1] rfl (tn0 (a:=neg' m)) (tnE (a:=neg' m) (n0))
   show negW ps w0+(((neg' m).toNat:Nat):Int)*((q.1.toNat:Nat):Int)=_
   rw[ev,en,Int.mul_comm]
  ·rw[List.sum_append,List.sum_cons,List.sum_nil,negN_snoc]
   have en:(((neg' m).toNat:Nat):Int)=neg' m:=by exact lq [_] [_] (.t (.n 0)) (.v 0) [.l (.v 0) (.t (.n 0)),.e (.t (.n 0)) (.v 0)] [1,0,-1] [1,0,1] rfl (tn0 (a:=neg' m)) (tnE (a:=neg' m) (n0))
   exact lq [_,_] [_,_] (.t (.a (.n 0) (.a (.n 1) (.c 0)))) (.a (.v 0) (.v 1)) [.e (.t (.n 0)) (.v 0),.e (.t (.n 1)) (.v 1)] [1,-1,-1] [1,1,1] rfl k3 en
end
theorem change_many {ps qs:PL}{lo hi:Nat}{tr:List (Addr×Row)}{vs:List Int}{w:List Int}{price x:Int} (T:RTab ps qs lo hi tr) (P:PP ps) (P':PP qs) (e1:worthL ps=lo) (e2:worthL qs=hi) (hw:WayZ ps qs ps.length w) (hx:cellZ (rowAt (tr.map (·.2)) ps.length) (price+lo)=some x) (hwo:woZ ps w=price) (hfw:fewZ w=x)
  (hc:∀(i:Nat) (q:Int×Int) (m:Int),ps[i]?=some q→w[i]?=some m→(vs.count q.1:Int)=pos m) {M:Nat} (hM:negW ps w=M) :
  (¬FewIs M (fullP ps vs) none)∧∀y l,ChangeIs M (fullP ps vs) y l→y=negN w:=by
 have hlf:(fullP ps vs).length=ps.length:=fullP_length ps vs
 obtain⟨v,k1,k2,k3⟩:=back_way (vs:=vs) P hw
 have kM:wo (fullP ps vs) v=M:=by exact lQ [_] [_,_] (.n 0) (.n 1) [.e (.v 0) (.t (.n 1)),.e (.t (.n 0)) (.v 0)] [1,-1,-1] [1,1,1] rfl hM k2
 refine⟨fun F=>?_,fun y l C=>?_⟩
 ·exact F.no_way (by rw[hlf];exact k1) kM
 ·obtain⟨w',b1,b2,b4,b5⟩:=C.best
  rw[hlf] at b1
  obtain⟨t2,T2,h2,hp2⟩:=C
  obtain⟨z,hz,hzl⟩:=T2.low (k:=(fullP ps vs).length) (w:=v) (by rw[hlf];exact k1) (by exact lA [_] [_,_] (.n 0) (.n 1) [.e (.v 0) (.t (.n 1)),.e (.t (.n 0)) (.v 0)] [1,1,1] rfl hM k2)
  rw[kM,h2] at hz
  cases hz
  obtain⟨w2,⟨c1,c2,c3,c4,c5⟩⟩:=hp2.best T2 (Nat.le_refl M)
  rw[hlf] at c1
  obtain⟨u,u1,u2,u3⟩:=net_way (vs:=vs) P P' hw c1 hc
  obtain⟨s,hs,hsl⟩:=T.low P P' e1 e2 u1
  have eu:(lo:Int)+woZ ps u=price+lo:=by rw[u2,c2];have:=woZ_pn ps w;exact lq [_,_,_,_] [_,_] (.a (.t (.n 0)) (.s (.v 0) (.t (.n 1)))) (.a (.v 1) (.t (.n 0))) [.e (.v 2) (.v 1),.e (.v 3) (.t (.n 1)),.e (.v 2) (.s (.v 0) (.v 3))] [1,-1,-1,1] [1,1,1,-1] rfl hwo hM this
  rw[eu,hx] at hs
  cases hs
  have:=fewZ_pn w
  exact lq [_,_,_,_,_,_] [_,_] (.v 0) (.v 1) [.e (.v 2) (.v 3),.e (.t (.n 0)) (.v 0),.l (.v 4) (.a (.v 5) (.t (.n 0))),.l (.v 3) (.v 4),.e (.v 2) (.a (.v 5) (.v 1)),.e (.t (.n 1)) (.v 1),.l (.v 0) (.t (.n 1))] [1,1,1,1,1,-1,0,0] [1,0,0,0,0,0,1,1] rfl hfw c3 u3 hsl this k3 hzl
structure PartOk (l ms:PL):Prop where
 srt:l.Pairwise fun a b=>a.1<b.1
 val:∀e∈l,1≤e.1∧e.1≤2000
 cnt:∀e∈l,1≤e.2∧e.2≤ownZ ms e.1
section
variable {defs:String→Option Fn}{anc:String→List String}{n:Nat}{Q:V→Hp→Prop}{X:String→Hp→Prop}{H:Hp}
theorem pieces_spec (h:defs "_law_pieces" = some f_law_pieces) {p:Addr}{l:PL} (hp:H p=some (.list (lv l))) (hl:l.length≤1000) (hq:∀H',Ext H H'→Q (.int (manyL l)) H') :
  callN defs anc (n+1) "_law_pieces" [.ref p] Q X H:=by
 refine call_of h rfl ?_
 simp only[f_law_pieces]
 (simp only[List.map_cons,List.map_nil,List.length_cons,List.length_nil,Nat.reduceAdd,Nat.reduceSub,List.replicate,List.cons_append,List.nil_append,s_ret,qE_bc,qEs_cons,qEs_nil,qE_comp,qE_idx,qE_int,qE_var,sr_ex,gZ,v_some,true_and])
 refine src_of hp ?_
 rw[lvIt]
 refine compGo_all _ (fun e=>V.int e.2) (okH_one hp) (by rw[lim_eq];exact lA [] [_] (.n 0) (.c 16777216) [.L (.n 0) (.c 1000)] [1,1] rfl hl) ?_ ⟨by rw[List.length_map,lim_eq];exact lA [] [_] (.n 0) (.c 16777216) [.L (.n 0) (.c 1000)] [1,1] rfl hl,fun a ha=>?_⟩
 ·intro e he
  refine⟨_,rfl,fun K hK=>?_⟩
  (simp only[sS,sZ,gS,gZ,v_some,i_pv1])
  exact hK
 ·dsimp only
  rw[f_sum (Hp.set_self _ _ _) (intsOf_map (fun e=>e.2) l)]
  exact hq _ (.new _ ha)
theorem c_eqOI {B:Bool→Hp→Prop}{z:Option Int}{f:Int}:wcmp .eq (ov z) (.int f) B H=B (decide (z=some f)) H:=by
 have:=c_eqOf (B:=B) (H:=H) (veq_ov (H:=H) (m:=7) z (some f))
 exact this
theorem makes_spec (h:defs "_law_makes" = some f_law_makes) {A:Addr}{r:Row}{i f:Int} (hA:H A=some (.list (lo r))) (hL:r.length≤2001) (hq:Q (.bool (decide (cellZ r i=some f))) H) :
  callN defs anc (n+1) "_law_makes" [.ref A,.int i,.int f] Q X H:=by
 refine call_of h rfl ?_
 simp only[f_law_makes]
 (simp only[List.map_cons,List.map_nil,List.length_cons,List.length_nil,Nat.reduceAdd,Nat.sub_self,List.replicate,List.cons_append,List.nil_append,s_ret,qE_bop,qB_more,qB_one,qE_cmp,qE_var,gS,gZ,v_some,qE_idx,asB_bool,qE_bc,qEs_cons,qEs_nil,true_and,qE_int,c_le,decide_eq_true_eq])
 rw[f_lenL hA,lo_length]
 (simp only[c_lt,decide_eq_true_eq])
 by_cases b0:0≤i
 ·refine iteP b0 ?_
  by_cases b1:i<r.length
  ·refine iteP b1 ?_
   obtain⟨k,rfl⟩:∃k:Nat,i=k:=⟨i.toNat,by exact lq [_] [_] (.v 0) (.t (.n 0)) [.e (.t (.n 0)) (.v 0),.l (.v 0) (.t (.n 0))] [1,1,0] [1,-1,0] rfl (tnE (a:=i) (b0)) (tn0 (a:=i))⟩
   obtain⟨z,hz⟩:=get_of_lt (l:=r) (k:=k) (by exact lB [] [_,_] (.n 0) (.n 1) [.b (.t (.n 0)) (.t (.n 1))] [1,1] rfl b1)
   refine i_loB hA hz hL ?_
   rw[cellZ_nat hz] at hq
   rw[c_eqOI]
   exact hq
  ·refine iteN b1 ?_
   rw[cellZ,if_pos b0,List.getElem?_eq_none (by exact lA [_] [_,_] (.n 0) (.n 1) [.l (.t (.n 0)) (.v 0),.l (.v 0) (.t (.n 1))] [1,1,1] rfl (Int.not_lt.mp b1) (tn0 (a:=i)))] at hq
   rw[decide_eq_false b1]
   rw[decide_eq_false (show ¬(none:Option (Option Int)).getD none=some f by exact nofun)] at hq
   exact hq
 ·refine iteN b0 ?_
  rw[cellZ,if_neg b0] at hq
  rw[decide_eq_false b0]
  rw[decide_eq_false (show ¬(none:Option Int)=some f by exact nofun)] at hq
  exact hq
theorem part_spec (h1:defs "_law_whole" = some f_law_whole) (h2:defs "_law_own" = some f_law_own) (h:defs "_law_part" = some f_law_part) {p q:Addr}{l ms:PL} (hp:H p=some (.list (lv l))) (hm:H q=some (.list (lv ms))) (P:PartOk l ms) (hq:Q (.int (worthL l)) H) :
  callN defs anc (n+2) "_law_part" [.ref p,.ref q] Q X H:=by
 refine call_of h rfl ?_
 simp only[f_law_part]
 (simp only[List.map_cons,List.map_nil,List.length_cons,List.length_nil,Nat.reduceAdd,Nat.reduceSub,List.replicate,List.cons_append,List.nil_append,sf_ife,app_cons,app_nil,qE_nt,asB_bool,qE_isi,qE_var,gZ,v_some])
 refine⟨true,isi_list hp,?_⟩
 refine iteN (by decide) ?_
 dsimp only[restW]
 (simp only[sf_asg,sS,sZ,qE_int])
 dsimp only[restW]
 (simp only[sf_asg,sS,sZ,qE_int])
 dsimp only[restW]
 refine for_cons ⟨rfl,?_⟩
 (simp only[sr_ex,qE_var,gZ,v_some])
 refine src_of hp ?_
 rw[lvIt]
 refine forGo_map (I:=fun as ρ H'=>H'=H∧∃last x4,ρ=[some (.ref p),some (.ref q),some (.int last),some (.int (worthL as)),x4]∧∀b bs,l=as++b :: bs→last<b.1) ?_ ?_ ?_ ⟨rfl,0,none,rfl,fun b bs e=>by have:=(P.val b (by rw[e];simp)).1;exact lb [_] [] (.c 0) (.v 0) [.l (.c 1) (.v 0)] [1,1] rfl this⟩
 ·rintro as ρ H' ⟨rfl,last,x4,rfl,k⟩;exact okH_one hp
 ·rintro ρ H' ⟨rfl,last,x4,rfl,k⟩
  dsimp only[restW]
  (simp only[s_ret,qE_var,gS,gZ,v_some])
  exact hq
 ·rintro as b bs ρ H' K e ⟨rfl,last,x4,rfl,k⟩ hK
  refine⟨_,rfl,?_⟩
  have hb:b∈l:=by rw[e];simp
  obtain⟨v0,v1⟩:=P.val b hb
  obtain⟨c0,c1⟩:=P.cnt b hb
  have kb:=k b bs e
  dsimp only[bodyW]
  (simp only[sS,sZ,sf_ife,app_cons,app_nil,qE_bop,qB_more,qB_one,qE_nt,asB_bool,qE_call,qEs_cons,qEs_nil,qE_idx,qE_int,qE_var,gS,gZ,v_some,i_pv1,true_and,i_pv0,qE_cmp,qE_bc,qE_isi])
  refine⟨true,isi_tup,?_⟩
  refine iteP (by decide) ?_
  rw[f_lenPv]
  (simp only[c_neI])
  refine iteP (by decide) ?_
  refine whole_spec h1 ?_
  (simp only[asB_bool])
  refine iteP (by decide) ?_
  refine whole_spec h1 ?_
  (simp only[asB_bool])
  refine iteNf ?_
  dsimp only[restW]
  (simp only[sf_ife,app_cons,app_nil,qE_bop,qB_more,qB_one,qE_cmp,asB_bool,qE_call,qEs_cons,qEs_nil,qE_idx,qE_int,qE_var,gS,gZ,v_some,i_pv0,true_and,i_pv1,c_lt,decide_eq_true_eq,c_le])
  refine or_if (fun z=>absurd z (by exact lf [_,_] [] [.b (.v 0) (.v 1),.l (.v 1) (.v 0)] [1,1] rfl kb)) fun ξ=>or_if (fun z=>absurd z (by exact lf [_] [] [.l (.c 1) (.v 0),.b (.v 0) (.c 1)] [1,1] rfl c0)) fun ξ=>?_
  refine own_spec h2 hm ?_
  (simp only[c_gt,decide_eq_true_eq])
  refine iteN (show ¬ownZ ms b.1<b.2 by exact lf [_,_] [] [.l (.v 0) (.v 1),.b (.v 1) (.v 0)] [1,1] rfl c1) ?_
  dsimp only[restW]
  (simp only[sf_asg,sS,sZ,qE_idx,qE_int,qE_var,gS,gZ,v_some,i_pv0])
  dsimp only[restW]
  (simp only[sf_asg,sS,sZ,qE_bin,qE_idx,qE_int,qE_var,gS,gZ,v_some,i_pv1,i_pv0,b_mul,b_add])
  refine⟨.inl ⟨by exact lb [_] [] (.c (-18446744073709551616)) (.v 0) [.l (.c 1) (.v 0)] [1,1] rfl v0,by exact lb [_] [] (.v 0) (.c 18446744073709551616) [.l (.v 0) (.c 2000)] [1,1] rfl v1⟩,?_⟩
  dsimp only[restW]
  (simp only[s_nil])
  refine hK _ _ ⟨rfl,b.1,_,by rw[worthL_add],fun b' bs' e'=>?_⟩
  have hp:=P.srt
  rw[e',List.append_assoc] at hp
  have:=(List.pairwise_append.mp hp).2.1
  exact (List.pairwise_cons.mp this).1 b' (.head _)
theorem price_spec (h1:defs "_law_mixed" = some f_law_mixed) (h:defs "_law_price" = some f_law_price) {p q:Addr}{ps qs:PL}{c:Int} (P:PP ps) (P':PP qs) (hp:H p=some (.list (lv ps))) (hpq:H q=some (.list (lv qs))) (hq:∀d,0≤d→d≤1000→Q (.int d) H) :
  callN defs anc (n+2) "_law_price" [.ref p,.ref q,.int c] Q X H:=by
 have hl:=P.len
 have hl':=P'.len
 refine call_of h rfl ?_
 simp only[f_law_price]
 (simp only[List.map_cons,List.map_nil,List.length_cons,List.length_nil,Nat.reduceAdd,Nat.reduceSub,List.replicate,List.cons_append,List.nil_append,sf_asg,sS,sZ,qE_int])
 dsimp only[restW]
 refine for_cons ⟨rfl,?_⟩
 (simp only[sr_r1,qE_bc,qEs_cons,qEs_nil,qE_var,gS,gZ,v_some,true_and])
 rw[f_lenL hpq,lv_length]
 (simp only[r1_i])
 refine⟨⟨by exact lb [] [_] (.c (-4611686018427387904)) (.t (.n 0)) [] [1] rfl,by exact lb [] [_] (.t (.n 0)) (.c 4611686018427387904) [.L (.n 0) (.c 60)] [1,1] rfl hl'⟩,?_⟩
 rw[Int.toNat_natCast,rangeL_map]
 refine forGo_map (I:=fun as ρ H'=>H'=H∧∃d x4,ρ=[some (.ref p),some (.ref q),some (.int c),some (.int d),x4]∧0≤d) ?_ ?_ ?_ ⟨rfl,0,none,rfl,by decide⟩
 ·rintro as ρ H' _;exact okH_nil
 ·rintro ρ H' ⟨rfl,d,x4,rfl,d0⟩
  dsimp only[restW]
  refine for_cons ⟨rfl,?_⟩
  (simp only[sr_r1,qE_bc,qEs_cons,qEs_nil,qE_var,gZ,v_some,true_and])
  rw[f_lenL hp,lv_length]
  (simp only[r1_i])
  refine⟨⟨by exact lb [] [_] (.c (-4611686018427387904)) (.t (.n 0)) [] [1] rfl,by exact lb [] [_] (.t (.n 0)) (.c 4611686018427387904) [.L (.n 0) (.c 60)] [1,1] rfl hl⟩,?_⟩
  rw[Int.toNat_natCast,rangeL_map]
  refine forGo_map (I:=fun as ρ H2=>H2=H'∧∃d x4,ρ=[some (.ref p),some (.ref q),some (.int c),some (.int d),x4]∧0≤d) ?_ ?_ ?_ ⟨rfl,d,_,rfl,d0⟩
  ·rintro as ρ H2 _;exact okH_nil
  ·rintro ρ H2 ⟨rfl,d,x4,rfl,d0⟩
   dsimp only[restW]
   (simp only[s_ret,qE_bc,qEs_cons,qEs_nil,qE_var,gS,gZ,v_some,qE_int,f_min,true_and])
   exact hq _ (by split <;> (first | exact d0 | exact la [] [] (.c 0) (.c 1000) [] [1] rfl)) (by split <;> omega)
  ·rintro as b bs ρ H2 K e ⟨rfl,d,x4,rfl,d0⟩ hK
   obtain⟨rfl,hk⟩:=range_split e
   refine⟨_,rfl,?_⟩
   obtain⟨y,hy⟩:=get_of_lt (l:=ps) hk
   have keep:∀d' z,0≤d'→restW ⟨callN defs anc (n+1),anc⟩ false .nil K Q (fun c ξ H₁=>X c H₁) [some (.ref p),some (.ref q),some (.int c),some (.int d'),some z] H2:=fun d' z d0'=>by
    dsimp only[restW]
    (simp only[s_nil])
    exact hK _ _ ⟨rfl,d',_,rfl,d0'⟩
   dsimp only[bodyW]
   (simp only[sS,sZ,sf_ife,app_cons,app_nil,qE_bop,qB_more,qB_one,qE_cmp,asB_bool,qE_int,qE_bin,qE_call,qEs_cons,qEs_nil,qE_var,gS,gZ,v_some,b_add,true_and,qE_idx])
   refine i_lvN hp hy (by exact lA [] [_] (.n 0) (.c 1001) [.L (.n 0) (.c 60)] [1,1] rfl hl) ?_
   (simp only[i_pv0,c_ge,decide_eq_true_eq])
   by_cases b1:y.1≤d
   ·refine iteP b1 ?_
    refine i_lvN hp hy (by exact lA [] [_] (.n 0) (.c 1001) [.L (.n 0) (.c 60)] [1,1] rfl hl) ?_
    (simp only[i_pv1,c_gt,decide_eq_true_eq])
    by_cases b2:0<y.2
    ·refine iteP b2 ?_
     refine mixed_spec h1 fun v h0 h1'=>?_
     (simp only[b_mod,c_eqI,decide_eq_true_eq])
     refine⟨by decide,ite_all (fun ξ=>?_) fun ξ=>keep d _ d0⟩
     dsimp only[restW]
     (simp only[sf_asg,sS,sZ,qE_bin,qE_idx,qE_int,qE_var,gS,gZ,v_some])
     refine i_lvN hp hy (by exact lA [] [_] (.n 0) (.c 1001) [.L (.n 0) (.c 60)] [1,1] rfl hl) ?_
     (simp only[i_pv0,b_sub])
     exact keep (d-y.1) _ (by exact la [_,_] [] (.c 0) (.s (.v 0) (.v 1)) [.l (.v 1) (.v 0)] [1,1] rfl b1)
    ·exact iteN b2 (iteN b2 (keep d _ d0))
   ·exact iteN b1 (iteN b1 (keep d _ d0))
 ·rintro as b bs ρ H' K e ⟨rfl,d,x4,rfl,d0⟩ hK
  obtain⟨rfl,hk⟩:=range_split e
  refine⟨_,rfl,?_⟩
  obtain⟨y,hy⟩:=get_of_lt (l:=qs) hk
  obtain⟨v0,v1⟩:=P'.val y (List.mem_of_getElem? hy)
  obtain⟨c0,c1⟩:=P'.cnt y (List.mem_of_getElem? hy)
  dsimp only[bodyW]
  (simp only[sS,sZ,sf_asg,qE_bin,qE_int,qE_idx,qE_var,gS,gZ,v_some,qE_call,qEs_cons,qEs_nil,true_and])
  refine i_lvN hpq hy (by exact lA [] [_] (.n 0) (.c 1001) [.L (.n 0) (.c 60)] [1,1] rfl hl') ?_
  (simp only[i_pv0])
  refine mixed_spec h1 fun v h0 h1'=>?_
  refine i_lvN hpq hy (by exact lA [] [_] (.n 0) (.c 1001) [.L (.n 0) (.c 60)] [1,1] rfl hl') ?_
  (simp only[i_pv1,b_add,b_mod,b_mul])
  refine⟨by exact lb [_] [] (.c 0) (.a (.v 0) (.c 1)) [.l (.c 0) (.v 0)] [1,1] rfl c0,.inl ⟨by exact lb [_] [] (.c (-18446744073709551616)) (.v 0) [.l (.c 1) (.v 0)] [1,1] rfl v0,by exact lb [_] [] (.v 0) (.c 18446744073709551616) [.l (.v 0) (.c 2000)] [1,1] rfl v1⟩,?_⟩
  have:=Int.emod_nonneg v (show y.2+1≠0 by exact lf [_] [] [.l (.c 0) (.v 0),.e (.a (.v 0) (.c 1)) (.c 0)] [1,1] rfl c0)
  have:=Int.mul_nonneg (show 0≤y.1 by exact la [_] [] (.c 0) (.v 0) [.l (.c 1) (.v 0)] [1,1] rfl v0) this
  dsimp only[restW]
  (simp only[s_nil])
  exact hK _ _ ⟨rfl,d+y.1*(v % (y.2+1)),_,rfl,by exact la [_,_] [] (.c 0) (.a (.v 0) (.v 1)) [.l (.c 0) (.v 0),.l (.c 0) (.v 1)] [1,1,1] rfl d0 this⟩
end
abbrev RT (ps qs:PL) (tr:List (Addr×Row)):Prop:=RTab ps qs (worthL ps).toNat (worthL qs).toNat tr
noncomputable abbrev lastC (ps:PL) (tr:List (Addr×Row)) (price:Int):Option Int:=cellZ (rowAt (tr.map (·.2)) ps.length) (price+worthL ps)
inductive DealR (H H':Hp) (ps qs:PL) (price:Int) (a:Addr):Prop
 | sum0 (h:¬InR price) (e:H' a=some (.list [.str (Str.ofString "sum"),.tup []]))
 | kind (h:InR price) (k:¬Kinds ps qs) (e:H' a=some (.list [.str (Str.ofString "kind"),.tup []]))
 | sum (h:InR price) (k:Kinds ps qs) (w:1500<worthL ps+worthL qs) (e:H' a=some (.list [.str (Str.ofString "sum"),.tup []]))
 | change (h:InR price) (k:Kinds ps qs) (w:worthL ps+worthL qs≤1500) (tr:List (Addr×Row)) (T:RT ps qs tr) (hn:lastC ps tr price=none) (e:H' a=some (.list [.str (Str.ofString "change"),.tup []]))
 | ok (h:InR price) (k:Kinds ps qs) (w:worthL ps+worthL qs≤1500) (tr:List (Addr×Row)) (x:Int) (ww:List Int) (b c:Addr) (T:RT ps qs tr) (hx:lastC ps tr price=some x) (hp:PickZ (tr.map (·.2)) ps qs (worthL ps) ps.length (price+worthL ps) x ww) (hl:ww.length=ps.length) (nb:H b=none) (nc:H c=none) (nbc:b≠c)
  (e:H' a=some (.list [.str (Str.ofString ""),.tup [.ref b,.ref c]])) (eb:H' b=some (.list (lv (payZ ps ww)))) (ec:H' c=some (.list (lv (backZ ps ww))))
section
variable {defs:String→Option Fn}{n:Nat}{Q:V→Hp→Prop}{X:String→Hp→Prop}{H:Hp}
theorem deal11_spec (D:Def12 defs) (h5:defs "_law_deal" = some f_law_deal) {p q:Addr}{ps qs:PL}{price:Int} (P:PP ps) (P':PP qs) (hp:H p=some (.list (lv ps))) (hpq:H q=some (.list (lv qs))) (hq:∀a H',Ext H H'→H a=none→DealR H H' ps qs price a→Q (.ref a) H') :
  callN defs ancT (n+7) "_law_deal" [.ref p,.ref q,.int price] Q X H:=by
 refine call_of h5 rfl ?_
 simp only[f_law_deal]
 (simp only[List.map_cons,List.map_nil,List.length_cons,List.length_nil,Nat.reduceAdd,Nat.sub_self,List.replicate,List.cons_append,List.nil_append,s_tr,s_nil,qHs_cons,s_ret,qE_list,qEs_cons,qEs_nil,qE_tup,qE_str,h_none,qHs_nil,qE_call,qE_var,gS,gZ,v_some,true_and])
 refine deal_spec D P P' hp hpq (fun h=>?_) (fun h k H' hE=>?_) (fun h k w H' hE=>?_) (fun h k w tr H' T hE hn=>?_) fun h k w tr x ww b c H' T hE hx hpk hl nb nc nbc eb ec=>?_
 ·refine iteN (by decide) (iteP (by decide) ?_)
  skip
  exact⟨Nat.le_of_ble_eq_true rfl,Nat.le_of_ble_eq_true rfl,fun a ha=>hq a _ (.new _ ha) ha (.sum0 h (Hp.set_self _ _ _))⟩
 ·refine iteP (by decide) ?_
  skip
  exact⟨Nat.le_of_ble_eq_true rfl,Nat.le_of_ble_eq_true rfl,fun a ha=>hq a _ (hE.trans (.new _ ha)) (hE.no ha) (.kind h k (Hp.set_self _ _ _))⟩
 ·refine iteN (by decide) (iteP (by decide) ?_)
  skip
  exact⟨Nat.le_of_ble_eq_true rfl,Nat.le_of_ble_eq_true rfl,fun a ha=>hq a _ (hE.trans (.new _ ha)) (hE.no ha) (.sum h k w (Hp.set_self _ _ _))⟩
 ·refine iteN (by decide) (iteN (by decide) (iteP (by decide) ?_))
  skip
  exact⟨Nat.le_of_ble_eq_true rfl,Nat.le_of_ble_eq_true rfl,fun a ha=>hq a _ (hE.trans (.new _ ha)) (hE.no ha) (.change h k w tr T hn (Hp.set_self _ _ _))⟩
 ·refine⟨Nat.le_of_ble_eq_true rfl,fun a ha=>?_⟩
  have E:=Ext.new (.list [V.str (Str.ofString ""),V.tup [V.ref b,V.ref c]]) ha
  exact hq a _ (hE.trans E) (hE.no ha) (.ok h k w tr x ww b c T hx hpk hl nb nc nbc (Hp.set_self _ _ _) (E _ _ eb) (E _ _ ec))
noncomputable def Bad (ps qs:PL) (price:Int):Prop:=¬InR price∨¬Kinds ps qs∨1500<worthL ps+worthL qs∨∃tr,RT ps qs tr∧lastC ps tr price=none
theorem any11_tail {G:Gl}{d:String}{K:Loc→Hp→Prop}{p q:Addr}{price:Int} (hG:G.anc=ancT) (hd:d = "NoSum" ∨ d = "NoKind" ∨ d = "NoChange") (hq:∀H',Ext H H'→Q (.bool true) H') :
  wpSs G true (.cons (.asg 4 (.list (.cons (.isi (.var 3) [.own "NoChange"]) (.cons (.isi (.var 3) [.own "NoKind"]) (.cons (.isi (.var 3) [.own "NoSum"]) .nil)))))
  (.cons (.ife (.isi (.var 3) [.own "NoCount",.own "NoDeed",.own "NoTill",.own "StillHeld",.own "TooFew",.own "TooLittle",.own "Twice"]) (.cons (.ret (.bool false))
   .nil) .nil)
  (.cons (.ret (.bop true (.cons (.isi (.var 3) [.valueError]) (.cons (.cmp .eq (.mt .count (.var 4) (.cons (.bool true) .nil)) (.int 1)) .nil))))
  .nil))) [some (.ref p),some (.ref q),some (.int price),some (.exc d),none] K Q (fun ξ ξ ξ=>False) H:=by
 have isi:=fun H'=>isi_any (anc:=ancT) (H:=H') (d:=d) (ls:=["NoCount", "NoDeed", "NoTill", "StillHeld", "TooFew", "TooLittle", "Twice"])
 (simp only[sf_asg,sS,sZ,qE_list,qEs_cons,qEs_nil,qE_isi,qE_var,gS,gZ,v_some])
 rw[hG]
 refine⟨_,isi_own,_,isi_own,_,isi_own,Nat.le_of_ble_eq_true rfl,fun a ha=>?_⟩
 dsimp only[restW]
 (simp only[sf_ife,app_cons,app_nil,qE_isi,asB_bool,qE_var,gS,gZ,v_some])
 rw[hG]
 refine⟨_,isi _,?_⟩
 refine iteN (by rcases hd with rfl | rfl | rfl <;> decide) ?_
 dsimp only[restW]
 (simp only[s_ret,qE_bop,qB_more,qB_one,qE_cmp,qE_int,qE_mt,qEs_cons,qEs_nil,qE_bool,qE_var,gS,gZ,v_some,qE_isi,asB_bool])
 rw[hG]
 refine⟨true,isi_val,?_⟩
 refine iteP rfl ?_
 rw[r_L (Hp.set_self _ _ _)]
 refine⟨⟨by decide,by decide⟩,?_⟩
 rw[m_count (Hp.set_self _ _ _)]
 refine⟨1,by rcases hd with rfl | rfl | rfl <;> rfl,?_⟩
 (simp only[c_eqI])
 rw[decide_eq_true (by rfl)]
 exact hq _ (.new _ ha)
theorem any11_spec (D:Def12 defs) (h5:defs "_law_any" = some f_law_any_11) {p q:Addr}{ps qs:PL}{price:Int} (P:PP ps) (P':PP qs) (hp:H p=some (.list (lv ps))) (hpq:H q=some (.list (lv qs)))
  (hq:∀b H',Ext H H'→(b=true→Bad ps qs price)→(b=false→InR price∧Kinds ps qs∧worthL ps+worthL qs≤1500∧∃tr x,RT ps qs tr∧lastC ps tr price=some x)→Q (.bool b) H') :
  callN defs ancT (n+7) "_law_any" [.ref p,.ref q,.int price] Q X H:=by
 refine call_of h5 rfl ?_
 simp only[f_law_any_11]
 simp only[List.map_cons,List.map_nil,List.length_cons,List.length_nil,Nat.reduceAdd,Nat.reduceSub,List.replicate,List.cons_append,List.nil_append,s_tr,sf_ex,qE_call,qEs_cons,qEs_nil,qE_var,gS,gZ,v_some,true_and,qHs_cons,h_some,sS,sZ]
 refine deal_spec D P P' hp hpq (fun h=>?_) (fun h k H' hE=>?_) (fun h k w H' hE=>?_) (fun h k w tr H' T hE hn=>?_) fun h k w tr x ww b c H' T hE hx hpk hl nb nc nbc eb ec=>?_
 ·refine iteP (by decide) ?_
  exact any11_tail rfl (.inl rfl) fun H' hE=>hq true H' hE (fun ξ=>.inl h) nofun
 ·refine iteP (by decide) ?_
  exact any11_tail rfl (.inr (.inl rfl)) fun H₂ hE2=>hq true H₂ (hE.trans hE2) (fun ξ=>.inr (.inl k)) nofun
 ·refine iteP (by decide) ?_
  exact any11_tail rfl (.inl rfl) fun H₂ hE2=>hq true H₂ (hE.trans hE2) (fun ξ=>.inr (.inr (.inl w))) nofun
 ·refine iteP (by decide) ?_
  exact any11_tail rfl (.inr (.inr rfl)) fun H₂ hE2=>hq true H₂ (hE.trans hE2) (fun ξ=>.inr (.inr (.inr ⟨tr,T,hn⟩))) nofun
 ·dsimp only[restW]
  (simp only[s_ret,qE_bool,sf_asg,qE_list,qEs_cons,qEs_nil,qE_isi,qE_var,qHs_nil,s_nil])
  exact hq false H' hE nofun fun ξ=>⟨h,k,w,tr,x,T,hx⟩
end
structure T11 (ps qs:PL):Prop where
 pp:PP ps
 ppq:PP qs
 pos:1≤ps.length
 len:ps.length≤10
 val:∀q∈ps,q.1≤1000
 cnt:∀q∈ps,q.2≤1000001
 kinds:Kinds ps qs
 srt:SrtP ps
 srtq:SrtP qs
 lenq:qs.length≤20
theorem TP.t11 {ps qs:PL}{most:Int} (T:TP ps qs most):T11 ps qs:=⟨T.pp,T.ppq,T.pos,T.len,fun q h=>(T.val q h).2,fun q h=>by have:=(T.cnt q h).2;exact la [_] [] (.v 0) (.c 1000001) [.l (.v 0) (.c 29)] [1,1] rfl this,T.kinds,T.srt,T.srtq,by have:=T.len;have:=T.lenq;omega⟩
section
variable {defs:String→Option Fn}{anc:String→List String}{n:Nat}{Q:V→Hp→Prop}{X:String→Hp→Prop}{H:Hp}
inductive GreatB (H:Hp) (t u a:Addr) (c r:Int) (L:List Int) (k:Nat) (ρ:Loc) (H':Hp):Prop
 | mk (v:Int) (hE:H'=H) (e:ρ=[some (.ref t),some (.ref u),some (.int c),some (.int r),some (.int v),some (.ref a),none,none]) (h1:r / 2-9≤v-k) (h2:v≤r / 2) (h3:v-k∉L)
theorem great_spec (h1:defs "_law_total" = some f_law_total) (h5:defs "_law_great" = some f_law_great) {t u:Addr}{ps qs:PL}{c:Int} (T:TP ps qs 6) (hl4:ps.length≤4) (ht:H t=some (.list (lv ps))) (hu:H u=some (.list (lv qs)))
  (hq:∀ps' qs' t' u' a H',T11 ps' qs'→Ext H H'→H' t'=some (.list (lv ps'))→H' u'=some (.list (lv qs'))→H' a=some (.list [.ref t',.ref u'])→Q (.ref a) H') :
  callN defs anc (n+2) "_law_great" [.ref t,.ref u,.int c] Q X H:=by
 have P:=T.pp
 have P':=T.ppq
 have hlq:=T.lenq
 refine call_of h5 rfl ?_
 simp only[f_law_great]
 (simp only[List.map_cons,List.map_nil,List.length_cons,List.length_nil,Nat.reduceAdd,Nat.reduceSub,List.replicate,List.cons_append,List.nil_append,sf_asg,sS,sZ,qE_bin,qE_call,qEs_cons,qEs_nil,qE_var,gS,gZ,v_some,true_and,qE_int,b_mod,b_add])
 refine⟨by decide,?_⟩
 refine total_spec h1 ht P.val ?_
 (simp only[b_sub])
 refine total_spec h1 hu P'.val ?_
 (simp only[b_sub])
 have w1:=P.worth0
 have w2:=P'.worth0
 have ws:=T.sum
 have r0:900≤1500+c % 2-worthL ps-worthL qs:=by exact la [_,_,_] [] (.c 900) (.s (.s (.a (.c 1500) (.v 0)) (.v 1)) (.v 2)) [.l (.a (.v 1) (.v 2)) (.c 600),.l (.c 0) (.v 0)] [1,1,1] rfl ws (em0 2 rfl)
 have r1:1500+c % 2-worthL ps-worthL qs≤1501:=by exact la [_,_,_] [] (.s (.s (.a (.c 1500) (.v 0)) (.v 1)) (.v 2)) (.c 1501) [.l (.c 0) (.v 1),.l (.c 0) (.v 2),.b (.v 0) (.c 2)] [1,1,1,1] rfl w1 w2 (em1 2 rfl)
 generalize 1500+c % 2-worthL ps-worthL qs=r at r0 r1 ⊢
 dsimp only[restW]
 (simp only[sf_asg,sS,sZ,qE_bin,qE_int,qE_var,gS,gZ,v_some,b_fdiv])
 refine⟨⟨by decide,by decide⟩,?_⟩
 dsimp only[restW]
 (simp only[sf_asg,sS,sZ,qE_comp,qE_idx,qE_int,qE_var,sr_ex,gZ,v_some,true_and])
 refine comp_keys ht (by exact lA [] [_] (.n 0) (.c 1000) [.L (.n 0) (.c 4)] [1,1] rfl hl4) (Nat.le_of_ble_eq_true rfl) fun a ha=>?_
 have hE1:=Ext.new (.list ((ps.map (·.1)).map V.int)) ha
 have ga:=Hp.set_self H a (.list ((ps.map (·.1)).map V.int))
 generalize H.set a (.list ((ps.map (·.1)).map V.int))=H₁ at hE1 ga ⊢
 obtain⟨k,hk,hkn⟩:=free_inj (f:=fun n=>r / 2-(n:Int)) (fun i j e=>by (try simp only at e);exact lQ [_] [_,_] (.n 0) (.n 1) [.e (.s (.v 0) (.t (.n 0))) (.s (.v 0) (.t (.n 1)))] [1,1] [1,-1] rfl e) (ps.map (·.1)++(ps.map (·.1)).map (fun x=>r-x)++[r / 2])
 simp only[List.length_append,List.length_map,List.length_singleton] at hk
 dsimp only[restW]
 refine whl_cons (I:=GreatB H₁ t u a c r (ps.map (·.1)++(ps.map (·.1)).map (fun x=>r-x)++[r / 2])) ?_ (n:=k) ⟨r / 2,rfl,rfl,by exact la [_] [_,_] (.s (.v 0) (.c 9)) (.s (.v 0) (.t (.n 0))) [.L (.n 1) (.c 4),.L (.n 0) (.a (.a (.n 1) (.n 1)) (.c 1))] [1,2,1] rfl hl4 hk,by exact la [_] [] (.v 0) (.v 0) [] [1] rfl,hkn⟩
 rintro k ρ H' K ⟨w,rfl,rfl,w1,w2,w3⟩ hK
 have again:w∈ps.map (·.1)∨r-w∈ps.map (·.1)∨w+w=r→bodyW ⟨callN defs anc (n+1),anc⟩ false (.cons (.asg 4 (.bin .sub (.var 4) (.int 1))) .nil) Q (fun c ξ H₁=>X c H₁) [some (.ref t),some (.ref u),some (.int c),some (.int r),some (.int w),some (.ref a),none,none] K H':=fun hbad=>by
  dsimp only[bodyW]
  (simp only[sf_asg,sS,sZ,qE_bin,qE_int,qE_var,gS,gZ,v_some,b_sub])
  dsimp only[restW]
  (simp only[s_nil])
  cases k with
  | zero =>
   exfalso
   refine w3 ?_
   rw[show w-((0:Nat):Int)=w by exact lq [_] [] (.s (.v 0) (.t (.c 0))) (.v 0) [] [1] [1] rfl]
   rcases hbad with h | h | h
   ·exact List.mem_append_left _ (List.mem_append_left _ h)
   ·exact List.mem_append_left _ (List.mem_append_right _ (List.mem_map.mpr ⟨_,h,by exact lq [_,_] [] (.s (.v 0) (.s (.v 0) (.v 1))) (.v 1) [] [1] [1] rfl⟩))
   ·exact List.mem_append_right _ (by rw[show w=r / 2 by exact lq [_,_,_] [] (.v 0) (.v 1) [.e (.a (.v 0) (.v 0)) (.v 2),.l (.m 2 (.v 1)) (.v 2),.l (.v 0) (.v 1)] [2,-1,1,0] [1,0,0,1] rfl h (ed0 2 rfl) w2];exact .head _)
  | succ k=>exact hK k _ _ (Nat.lt_succ_self _) ⟨w-1,rfl,rfl,by exact la [_,_] [_] (.s (.v 0) (.c 9)) (.s (.s (.v 1) (.c 1)) (.t (.n 0))) [.l (.s (.v 0) (.c 9)) (.s (.v 1) (.t (.a (.n 0) (.c 1))))] [1,1] rfl w1,by exact la [_,_] [] (.s (.v 0) (.c 1)) (.v 1) [.l (.v 0) (.v 1)] [1,1] rfl w2,by rw[show w-1-(k:Int)=w-((k+1:Nat):Int) by exact lq [_] [_] (.s (.s (.v 0) (.c 1)) (.t (.n 0))) (.s (.v 0) (.t (.a (.n 0) (.c 1)))) [] [1] [1] rfl];exact w3⟩
 (simp only[qE_bop,qB_more,qB_one,qE_cmp,asB_bool,qE_var,gS,gZ,v_some,qE_bin,b_add,c_eqI,decide_eq_true_eq,b_sub])
 rw[c_inI ga]
 by_cases b1:w∈ps.map (·.1)
 ·rw[decide_eq_true b1]
  exact iteTf (iteT (again (.inl b1)))
 ·rw[decide_eq_false b1]
  refine iteP rfl ?_
  rw[c_inI ga]
  by_cases b2:r-w∈ps.map (·.1)
  ·rw[decide_eq_true b2]
   exact iteTf (iteT (again (.inr (.inl b2))))
  ·rw[decide_eq_false b2]
   refine iteP rfl ?_
   refine ite_all (fun b3=>again (.inr (.inr b3))) fun b3=>?_
   have b2q:r-w∉qs.map (·.1):=fun z=>by obtain⟨y,hy,e⟩:=List.mem_map.mp z;exact b2 (e▸T.kinds y hy)
   dsimp only[restW]
   (simp only[sf_asg,sS,sZ,qE_idx,qE_bin,qE_int,qE_var,gS,gZ,v_some,b_fdiv,b_mod,qE_list,qEs_cons,qEs_nil,b_pow6,b_add])
   refine⟨⟨by decide,by decide⟩,by decide,Nat.le_of_ble_eq_true rfl,fun b hb=>⟨⟨by decide,by decide⟩,by decide,?_⟩⟩
   rw[i_list (Hp.set_self _ _ _)]
   have hE2:=hE1.trans (Ext.new (.list [V.int 1,V.int 1,V.int (1+c / 6 % 1000000)]) hb)
   generalize H'.set b (.list [V.int 1,V.int 1,V.int (1+c / 6 % 1000000)])=H₂ at hE2 ⊢
   have PA:∀y z:Int,0≤y→y≤1000000→0≤z→z≤1→PP (ps++[(w,y)]++[(r-w,z)]):=fun y z y0 y1 z0 z1=>(P.snoc (c:=y) (by exact lA [] [_] (.n 0) (.c 50) [.L (.n 0) (.c 4)] [1,1] rfl hl4) b1 (by exact la [_,_,_] [_] (.c 1) (.v 0) [.l (.c 900) (.v 1),.l (.s (.v 2) (.c 9)) (.s (.v 0) (.t (.n 0))),.b (.v 1) (.a (.m 2 (.v 2)) (.c 2))] [2,1,2,1] rfl r0 w1 (ed1 2 rfl)) (by exact la [_,_,_] [] (.v 0) (.c 2000) [.l (.v 1) (.c 1501),.l (.v 0) (.v 2),.l (.m 2 (.v 2)) (.v 1)] [2,1,2,1] rfl r1 w2 (ed0 2 rfl)) y0 (by exact la [_] [] (.v 0) (.c 1000000000) [.l (.v 0) (.c 1000000)] [1,1] rfl y1)).snoc (u:=r-w) (c:=z) (by rw[List.length_append];simp;exact lA [] [_] (.n 0) (.c 49) [.L (.n 0) (.c 4)] [1,1] rfl hl4) (by
     rw[List.map_append]
     intro z
     rcases List.mem_append.mp z with z | z
     ·exact b2 z
     ·rw[List.map_cons,List.map_nil,List.mem_singleton] at z;omega) (by exact la [_,_,_] [] (.c 1) (.s (.v 0) (.v 1)) [.l (.c 900) (.v 0),.l (.v 1) (.v 2),.l (.m 2 (.v 2)) (.v 0)] [2,1,2,1] rfl r0 w2 (ed0 2 rfl)) (by exact la [_,_,_] [_] (.s (.v 0) (.v 1)) (.c 2000) [.l (.v 0) (.c 1501),.l (.s (.v 2) (.c 9)) (.s (.v 1) (.t (.n 0))),.b (.v 0) (.a (.m 2 (.v 2)) (.c 2))] [2,1,2,1] rfl r1 w1 (ed1 2 rfl)) z0 (by exact la [_] [] (.v 0) (.c 1000000000) [.l (.v 0) (.c 1)] [1,1] rfl z1)
   have el:∀y z:Int,lv ps++[V.tup [V.int w,V.int y],V.tup [V.int (r-w),V.int z]]=lv (ps++[(w,y)]++[(r-w,z)]):=fun y z=>by rw[lv_append,lv_append,List.append_assoc];rfl
   have ll:∀y z:Int,(ps++[(w,y)]++[(r-w,z)]).length=ps.length+2:=fun y z=>by rw[List.length_append,List.length_append];rfl
   have va:∀y z:Int,∀q∈ps++[(w,y)]++[(r-w,z)],q.1≤1000:=fun y z q hq'=>by
    rcases List.mem_append.mp hq' with h | h
    ·rcases List.mem_append.mp h with h | h
     ·exact (T.val q h).2
     ·rw[List.mem_singleton] at h;subst h;show w≤1000;exact la [_,_,_] [] (.v 0) (.c 1000) [.l (.v 1) (.c 1501),.l (.v 0) (.v 2),.l (.m 2 (.v 2)) (.v 1)] [2,1,2,1] rfl r1 w2 (ed0 2 rfl)
    ·rw[List.mem_singleton] at h;subst h;show r-w≤1000;exact la [_,_,_] [_] (.s (.v 0) (.v 1)) (.c 1000) [.l (.v 0) (.c 1501),.l (.s (.v 2) (.c 9)) (.s (.v 1) (.t (.n 0))),.b (.v 0) (.a (.m 2 (.v 2)) (.c 2))] [2,1,2,1] rfl r1 w1 (ed1 2 rfl)
   have ca:∀y z:Int,y≤1000000→z≤1→∀q∈ps++[(w,y)]++[(r-w,z)],q.2≤1000001:=fun y z y1 z1 q hq'=>by
    rcases List.mem_append.mp hq' with h | h
    ·rcases List.mem_append.mp h with h | h
     ·have:=(T.cnt q h).2;exact la [_] [] (.v 0) (.c 1000001) [.l (.v 0) (.c 29)] [1,1] rfl this
     ·rw[List.mem_singleton] at h;subst h;show y≤1000001;exact la [_] [] (.v 0) (.c 1000001) [.l (.v 0) (.c 1000000)] [1,1] rfl y1
    ·rw[List.mem_singleton] at h;subst h;show z≤1000001;exact la [_] [] (.v 0) (.c 1000001) [.l (.v 0) (.c 1)] [1,1] rfl z1
   have kk:∀y z:Int,Kinds (ps++[(w,y)]++[(r-w,z)]) qs:=fun y z q hq'=>by
    rw[List.map_append,List.map_append];exact List.mem_append_left _ (List.mem_append_left _ (T.kinds q hq'))
   have fin:∀y:Int,0≤y→y≤1000000→restW ⟨callN defs anc (n+1),anc⟩ false (f_law_great.body.drop 5) (fun ξ H₁=>Q .none H₁) Q (fun c ξ H₁=>X c H₁) [some (.ref t),some (.ref u),some (.int c),some (.int r),some (.int w),some (.ref a),some (.int y),none] H₂:=fun y y0 y1=>by
    dsimp only[restW]
    simp only[f_law_great,Sts.drop]
    (simp only[sf_ife,app_cons,app_nil,qE_cmp,asB_bool,qE_int,qE_bin,qE_var,gS,gZ,v_some,b_fdiv,b_mod,c_eqI,decide_eq_true_eq])
    refine⟨⟨by decide,by decide⟩,by decide,ite_all (fun ξ=>?_) fun ξ=>?_⟩
    ·dsimp only[restW]
     (simp only[s_ret,qE_list,qEs_cons,qEs_nil,qE_bc,qE_bin,qE_tup,List.length_cons,List.length_nil,Nat.reduceAdd,qE_int,qE_var,gS,gZ,v_some,b_sub,true_and])
     refine⟨Nat.le_of_ble_eq_true rfl,Nat.le_of_ble_eq_true rfl,Nat.le_of_ble_eq_true rfl,fun e he=>⟨_,_,Ext.new _ he _ _ (hE2 _ _ ht),Hp.set_self _ _ _,?_⟩⟩
     rw[el y 0]
     refine⟨by rw[lv_length,ll,lim_eq];exact lA [] [_] (.a (.n 0) (.c 2)) (.c 16777216) [.L (.n 0) (.c 4)] [1,1] rfl hl4,fun d hd=>?_⟩
     dsimp only
     rw[f_sortL (Hp.set_self _ _ _)]
     refine⟨by rw[lv_length,ll];exact lB [] [_] (.a (.n 0) (.c 2)) (.c 64) [.L (.n 0) (.c 4)] [1,1] rfl hl4,.inr ⟨_,rfl,(PA y 0 y0 y1 (by decide) (by decide)).nodup,fun as g1 g2=>⟨by rw[List.length_map,g1.length_eq,ll,lim_eq];exact lA [] [_] (.a (.n 0) (.c 2)) (.c 16777216) [.L (.n 0) (.c 4)] [1,1] rfl hl4,fun s hs=>⟨Nat.le_of_ble_eq_true rfl,Nat.le_of_ble_eq_true rfl,fun e2 he2=>?_⟩⟩⟩⟩
     have E3:=((hE2.trans (Ext.new (.list [V.tup [V.int w,V.int y],V.tup [V.int (r-w),V.int 0]]) he)).trans (Ext.new (.list (lv (ps++[(w,y)]++[(r-w,0)]))) hd)).trans (Ext.new (.list (as.map pairV)) hs)
     refine⟨_,_,Ext.new _ he2 _ _ (E3 _ _ hu),Hp.set_self _ _ _,?_⟩
     have elq:lv qs++[V.tup [V.int (r-w),V.int 1]]=lv (qs++[(r-w,1)]):=by rw[lv_append];rfl
     rw[elq]
     have PQ:=P'.snoc (u:=r-w) (c:=1) (by exact lA [] [_,_] (.n 0) (.c 50) [.L (.n 1) (.c 4),.L (.n 0) (.n 1)] [1,1,1] rfl hl4 hlq) b2q (by exact la [_,_,_] [] (.c 1) (.s (.v 0) (.v 1)) [.l (.c 900) (.v 0),.l (.v 1) (.v 2),.l (.m 2 (.v 2)) (.v 0)] [2,1,2,1] rfl r0 w2 (ed0 2 rfl)) (by exact la [_,_,_] [_] (.s (.v 0) (.v 1)) (.c 2000) [.l (.v 0) (.c 1501),.l (.s (.v 2) (.c 9)) (.s (.v 1) (.t (.n 0))),.b (.v 0) (.a (.m 2 (.v 2)) (.c 2))] [2,1,2,1] rfl r1 w1 (ed1 2 rfl)) (by decide) (by decide)
     have llq:(qs++[(r-w,(1:Int))]).length≤5:=by rw[List.length_append];simp;exact lA [] [_,_] (.n 0) (.c 4) [.L (.n 1) (.c 4),.L (.n 0) (.n 1)] [1,1,1] rfl hl4 hlq
     refine⟨by rw[lv_length,lim_eq];omega,fun d2 hd2=>?_⟩
     dsimp only
     rw[f_sortL (Hp.set_self _ _ _)]
     refine⟨by rw[lv_length];omega,.inr ⟨_,rfl,PQ.nodup,fun bs k1 k2=>⟨by rw[List.length_map,k1.length_eq,lim_eq];omega,fun s2 hs2=>⟨Nat.le_of_ble_eq_true rfl,fun z hz=>?_⟩⟩⟩⟩
     have E4:=((Ext.new (.list [V.tup [V.int (r-w),V.int 1]]) he2).trans (Ext.new (.list (lv (qs++[(r-w,1)]))) hd2)).trans (Ext.new (.list (bs.map pairV)) hs2)
     have E5:=Ext.new (.list [V.ref s,V.ref s2]) hz
     refine hq as bs s s2 z _ ⟨(PA y 0 y0 y1 (by decide) (by decide)).perm g1,PQ.perm k1,by rw[g1.length_eq,ll];exact lA [] [_] (.c 1) (.a (.n 0) (.c 2)) [] [1] rfl,by rw[g1.length_eq,ll];exact lA [] [_] (.a (.n 0) (.c 2)) (.c 10) [.L (.n 0) (.c 4)] [1,1] rfl hl4,fun q hq'=>va y 0 q (g1.mem_iff.mp hq'),fun q hq'=>ca y 0 y1 (by decide) q (g1.mem_iff.mp hq'),fun q hq'=>?_,g2,k2,by rw[k1.length_eq];omega⟩ ((E3.trans E4).trans E5) ((E4.trans E5) _ _ (Hp.set_self _ _ _)) (E5 _ _ (Hp.set_self _ _ _)) (Hp.set_self _ _ _)
     refine ((g1.map _).mem_iff).mpr ?_
     rcases List.mem_append.mp (k1.mem_iff.mp hq') with h | h
     ·exact kk y 0 q h
     ·rw[List.mem_singleton] at h;subst h;rw[List.map_append];exact List.mem_append_right _ (.head _)
    ·dsimp only[restW]
     (simp only[s_ret,qE_list,qEs_cons,qEs_nil,qE_var,gS,gZ,v_some,qE_bc,qE_bin,qE_tup,List.length_cons,List.length_nil,Nat.reduceAdd,qE_int,b_sub,true_and])
     refine⟨Nat.le_of_ble_eq_true rfl,Nat.le_of_ble_eq_true rfl,Nat.le_of_ble_eq_true rfl,fun e he=>⟨_,_,Ext.new _ he _ _ (hE2 _ _ ht),Hp.set_self _ _ _,?_⟩⟩
     rw[el y 1]
     refine⟨by rw[lv_length,ll,lim_eq];exact lA [] [_] (.a (.n 0) (.c 2)) (.c 16777216) [.L (.n 0) (.c 4)] [1,1] rfl hl4,fun d hd=>?_⟩
     dsimp only
     rw[f_sortL (Hp.set_self _ _ _)]
     refine⟨by rw[lv_length,ll];exact lB [] [_] (.a (.n 0) (.c 2)) (.c 64) [.L (.n 0) (.c 4)] [1,1] rfl hl4,.inr ⟨_,rfl,(PA y 1 y0 y1 (by decide) (by decide)).nodup,fun as g1 g2=>⟨by rw[List.length_map,g1.length_eq,ll,lim_eq];exact lA [] [_] (.a (.n 0) (.c 2)) (.c 16777216) [.L (.n 0) (.c 4)] [1,1] rfl hl4,fun s hs=>⟨Nat.le_of_ble_eq_true rfl,fun z hz=>?_⟩⟩⟩⟩
     have E3:=((hE2.trans (Ext.new (.list [V.tup [V.int w,V.int y],V.tup [V.int (r-w),V.int 1]]) he)).trans (Ext.new (.list (lv (ps++[(w,y)]++[(r-w,1)]))) hd)).trans (Ext.new (.list (as.map pairV)) hs)
     have E5:=Ext.new (.list [V.ref s,V.ref u]) hz
     exact hq as qs s u z _ ⟨(PA y 1 y0 y1 (by decide) (by decide)).perm g1,P',by rw[g1.length_eq,ll];exact lA [] [_] (.c 1) (.a (.n 0) (.c 2)) [] [1] rfl,by rw[g1.length_eq,ll];exact lA [] [_] (.a (.n 0) (.c 2)) (.c 10) [.L (.n 0) (.c 4)] [1,1] rfl hl4,fun q hq'=>va y 1 q (g1.mem_iff.mp hq'),fun q hq'=>ca y 1 y1 (by decide) q (g1.mem_iff.mp hq'),fun q hq'=>((g1.map _).mem_iff).mpr (kk y 1 q hq'),g2,T.srtq,by exact lA [] [_,_] (.n 0) (.c 20) [.L (.n 1) (.c 4),.L (.n 0) (.n 1)] [1,1,1] rfl hl4 hlq⟩ (E3.trans E5) (E5 _ _ (Hp.set_self _ _ _)) ((E3.trans E5) _ _ hu) (Hp.set_self _ _ _)
   refine ex_idxA (P:=fun z=>_) ⟨by exact lb [_] [] (.c (-4611686018427387904)) (.v 0) [.l (.c 0) (.v 0)] [1,1] rfl (em0 3 rfl),by exact lb [_] [] (.v 0) (.c 4611686018427387904) [.b (.v 0) (.c 3)] [1,1] rfl (em1 3 rfl)⟩ (by exact la [_] [] (.c 0) (.v 0) [.l (.c 0) (.v 0)] [1,1] rfl (em0 3 rfl)) (by simp;exact lb [_] [] (.v 0) (.c 3) [.b (.v 0) (.c 3)] [1,1] rfl (em1 3 rfl)) ?_
   simp only[List.mem_cons,List.not_mem_nil,or_false]
   rintro z (rfl | rfl | rfl)
   ·exact fin 1 (by decide) (by decide)
   ·exact fin 1 (by decide) (by decide)
   ·exact fin _ (by exact la [_] [] (.c 0) (.a (.c 1) (.v 0)) [.l (.c 0) (.v 0)] [1,1] rfl (em0 1000000 rfl)) (by exact la [_] [] (.a (.c 1) (.v 0)) (.c 1000000) [.b (.v 0) (.c 1000000)] [1,1] rfl (em1 1000000 rfl))
end
noncomputable def payR (l:PL):PL:=l.reverse.filter fun e=>decide (0<e.2)
noncomputable def backR (l:PL):PL:=(l.reverse.filter fun e=>decide (e.2<0)).map fun e=>(e.1,-e.2)
theorem payR_cons (e:Int×Int) (l:PL):payR (e :: l)=if 0<e.2 then payR l++[e] else payR l:=by
 rw[payR,List.reverse_cons,List.filter_append,←payR]
 by_cases h:0<e.2
 ·rw[if_pos h,List.filter_cons_of_pos (by exact decide_eq_true h)];rfl
 ·rw[if_neg h,List.filter_cons_of_neg (by rw[decide_eq_false h];exact Bool.false_ne_true)];exact List.append_nil _
theorem backR_cons (e:Int×Int) (l:PL):backR (e :: l)=if e.2<0 then backR l++[(e.1,-e.2)] else backR l:=by
 rw[backR,List.reverse_cons,List.filter_append,List.map_append,←backR]
 by_cases h:e.2<0
 ·rw[if_pos h,List.filter_cons_of_pos (by exact decide_eq_true h)];rfl
 ·rw[if_neg h,List.filter_cons_of_neg (by rw[decide_eq_false h];exact Bool.false_ne_true)];exact List.append_nil _
theorem payR_rev (ps:PL) (w:List Int):(payR (zl ps w)).reverse=payZ ps w:=by rw[payR,payZ];exact zl_filter rfl
theorem backR_rev (ps:PL) (w:List Int):(backR (zl ps w)).reverse=backZ ps w:=by rw[backR,backZ,←List.map_reverse,zl_filter rfl]
section
variable {defs:String→Option Fn}{anc:String→List String}{n:Nat}{Q:V→Hp→Prop}{X:String→Hp→Prop}{H:Hp}
inductive ExI (H:Hp) (R t u F G:Addr) (place:Int) (ps qs:PL) (lo:Int) (rs:List Row) (X:Int) (done rest:List It) (ρ:Loc) (H':Hp):Prop
 | mk (at' x:Int) (acc:List Int) (x7 x8 x9:Option V) (hr:rangeL (ps.length:Int) (-1) ps.length=done++rest) (e:ρ=[some (.ref R),some (.ref t),some (.ref u),some (.int place),some (.ref F),some (.ref G),some (.int at'),x7,x8,x9])
  (hE:Ext H H') (eF:H' F=some (.list (lv (payR (zl (ps.drop (ps.length-done.length)) acc))))) (eG:H' G=some (.list (lv (backR (zl (ps.drop (ps.length-done.length)) acc))))) (B:BackB rs ps qs lo place X (ps.length-done.length) at' x acc)
inductive ManI (H₂:Hp) (ρ0:V→Loc) (r:Row) (v lo hi p x:Int) (k:Nat) (ρ:Loc) (H':Hp):Prop
 | mk (m:Int) (eH:H'=H₂) (e:ρ=ρ0 (.int m)) (hk:(k:Int)=m-lo) (hm:m≤hi) (top:∀m',m<m'→m'≤hi→cellZ r (p-m'*v)≠some (x-ab m'))
theorem exact11_spec (D:Def10L defs) (hma:defs "_law_makes" = some f_law_makes) (h5:defs "_law_exact" = some f_law_exact_11) {R t u:Addr}{ps qs:PL}{tr:List (Addr×Row)}{place x:Int} (P:PP ps) (P':PP qs) (hw:worthL ps+worthL qs≤1500) (ht:H t=some (.list (lv ps))) (hu:H u=some (.list (lv qs))) (T:RT ps qs tr) (hR:H R=some (.list (refs tr))) (I:InH H tr)
  (hx:cellZ (rowAt (tr.map (·.2)) ps.length) place=some x) (hq:∀w a F G H',Ext H H'→PickZ (tr.map (·.2)) ps qs (worthL ps) ps.length place x w→w.length=ps.length→H' a=some (.list [.ref F,.ref G])→H' F=some (.list (lv (payZ ps w)))→H' G=some (.list (lv (backZ ps w)))→Q (.ref a) H') :
  callN defs anc (n+2) "_law_exact" [.ref R,.ref t,.ref u,.int place] Q X H:=by
 have hl:=P.len
 have w1:=P.worth0
 have w2:=P'.worth0
 have hlen:=T.len
 have hrl:tr.length≤1001:=by exact lA [] [_,_] (.n 0) (.c 1001) [.L (.n 1) (.c 60),.E (.n 0) (.a (.n 1) (.c 1))] [1,1,1] rfl hl hlen
 have rl:∀x∈tr,x.2.length≤2001:=fun x hx=>by rw[T.rows x hx];exact lA [_,_] [_,_] (.a (.a (.n 0) (.n 1)) (.c 1)) (.c 2001) [.l (.a (.v 0) (.v 1)) (.c 1500),.e (.t (.n 0)) (.v 0),.e (.t (.n 1)) (.v 1)] [1,1,1,1] rfl hw (tnE (a:=worthL ps) (w1)) (tnE (a:=worthL qs) (w2))
 refine call_of h5 rfl ?_
 simp only[f_law_exact_11]
 (simp only[List.map_cons,List.map_nil,List.length_cons,List.length_nil,Nat.reduceAdd,Nat.reduceSub,List.replicate,List.cons_append,List.nil_append,sf_asg,sS,sZ,qE_list,qEs_nil])
 refine⟨by decide,fun F hF=>?_⟩
 dsimp only[restW]
 (simp only[sf_asg,sS,sZ,qE_list,qEs_nil])
 refine⟨by decide,fun G hG=>?_⟩
 have nFG:F≠G:=ne_new (Hp.set_self H F (.list [])) hG
 have E1:=Ext.new (.list []) hF
 have E2:=E1.trans (Ext.new (.list []) hG)
 have gF:=Ext.new (.list []) hG _ _ (Hp.set_self H F (.list []))
 have gG:=Hp.set_self (H.set F (.list [])) G (.list [])
 have hG0:=E1.no hG
 generalize (H.set F (.list [])).set G (.list [])=H₁ at E2 gF gG ⊢
 dsimp only[restW]
 (simp only[sf_asg,sS,sZ,qE_var,gS,gZ,v_some])
 dsimp only[restW]
 refine for_cons ⟨rfl,?_⟩
 (simp only[sr_r3,qE_neg,qE_int,k_int,qE_bc,qEs_cons,qEs_nil,qE_var,gS,gZ,v_some,true_and])
 rw[f_lenL (E2 _ _ ht),lv_length]
 (simp only[r3_i])
 refine⟨⟨by exact lb [] [_] (.c (-4611686018427387904)) (.t (.n 0)) [] [1] rfl,by exact lb [] [_] (.t (.n 0)) (.c 4611686018427387904) [.L (.n 0) (.c 60)] [1,1] rfl hl⟩,⟨by decide,by decide⟩,⟨by decide,by decide⟩,by decide,?_⟩
 rw[turns_down0]
 refine forGo_inv (I:=ExI H R t u F G place ps qs (worthL ps) (tr.map (·.2)) x) ?_ ?_ ?_ _ [] _ _ ⟨place,x,[],none,none,none,rfl,rfl,E2,by simpa [zl,payR,lv] using gF,by simpa [zl,backR,lv] using gG,⟨Nat.sub_le ..,by simp,by simpa using hx,fun w r=>by simpa using r⟩⟩
 ·intro _ _ _ _ _ p hp;cases hp
 ·rintro done ρ H' ⟨at',x',acc,x7,x8,x9,hr,rfl,hE,eF,eG,B⟩
  have hd:=congrArg List.length hr
  rw[rangeL_length,List.append_nil] at hd
  rw[←hd,Nat.sub_self] at B eF eG
  rw[List.drop_zero] at eF eG
  have hal:acc.length=ps.length:=by have:=B.len;exact lQ [] [_,_,_] (.n 0) (.n 1) [.E (.n 0) (.n 2),.L (.n 1) (.a (.n 2) (.c 0)),.L (.n 2) (.n 1)] [1,-1,1,0] [1,1,0,1] rfl this (ns1 (a:=List.length ps) (b:=0)) (ns0 (a:=List.length ps) (b:=0))
  obtain⟨s1,s2⟩:=T.start B.cell
  have pk:=B.all [] ⟨by rw[s1];exact lq [_] [_] (.t (.n 0)) (.v 0) [.l (.v 0) (.t (.n 0)),.e (.t (.n 0)) (.v 0)] [1,0,-1] [1,0,1] rfl (tn0 (a:=worthL ps)) (tnE (a:=worthL ps) (w1)),s2,rfl⟩
  dsimp only[restW]
  (simp only[sf_ex,qE_mt,qEs_nil,qE_var,gS,gZ,v_some])
  rw[r_L eF]
  refine⟨⟨by decide,by decide⟩,?_⟩
  rw[m_reverse eF,lv_reverse,payR_rev]
  have eG2:=(Hp.set_ne (H:=H') (.list (lv (payZ ps acc))) (Ne.symm nFG)).trans eG
  have eF2:=Hp.set_self H' F (.list (lv (payZ ps acc)))
  have E3:Ext H (H'.set F (.list (lv (payZ ps acc)))):=.setNew _ hE hF
  generalize H'.set F (.list (lv (payZ ps acc)))=H₂ at eG2 eF2 E3 ⊢
  dsimp only[restW]
  (simp only[sf_ex,qE_mt,qEs_nil,qE_var,gS,gZ,v_some])
  rw[r_L eG2]
  refine⟨⟨by decide,by decide⟩,?_⟩
  rw[m_reverse eG2,lv_reverse,backR_rev]
  have eF3:=(Hp.set_ne (H:=H₂) (.list (lv (backZ ps acc))) nFG).trans eF2
  have eG3:=Hp.set_self H₂ G (.list (lv (backZ ps acc)))
  have E4:Ext H (H₂.set G (.list (lv (backZ ps acc)))):=.setNew _ E3 hG0
  generalize H₂.set G (.list (lv (backZ ps acc)))=H₃ at eF3 eG3 E4 ⊢
  dsimp only[restW]
  (simp only[s_ret,qE_list,qEs_cons,qEs_nil,qE_var,gS,gZ,v_some])
  refine⟨Nat.le_of_ble_eq_true rfl,fun a ha=>?_⟩
  have E5:=Ext.new (.list [V.ref F,V.ref G]) ha
  exact hq acc a F G _ (E4.trans E5) (by simpa using pk) hal (Hp.set_self _ _ _) (E5 _ _ eF3) (E5 _ _ eG3)
 ·rintro done it rest ρ H' K ⟨at',x',acc,x7,x8,x9,hr,rfl,hE,eF,eG,B⟩ hK
  obtain⟨rfl,hlt⟩:=rangeL_at hr
  refine⟨_,rfl,?_⟩
  obtain⟨k,ek⟩:∃k,ps.length-done.length=k+1:=⟨ps.length-done.length-1,by exact lQ [] [_,_] (.n 0) (.a (.n 1) (.c 1)) [.E (.a (.n 1) (.c 1)) (.n 0),.L (.n 0) (.a (.n 1) (.c 1))] [1,1,0] [1,-1,0] rfl (nsE (a:=List.length ps-done.length) (b:=1) (lA [] [_,_,_] (.c 1) (.n 0) [.B (.n 1) (.n 2),.L (.n 2) (.a (.n 0) (.n 1))] [1,1,1] rfl hlt (ns1 (a:=List.length ps) (b:=done.length)))) (ns1 (a:=List.length ps-done.length) (b:=1))⟩
  rw[ek] at B eF eG
  have el:∀it:It,ps.length-(done++[it]).length=k:=fun it=>by rw[List.length_append,List.length_singleton];exact lQ [] [_,_,_,_,_] (.n 0) (.n 1) [.E (.n 2) (.a (.n 1) (.c 1)),.E (.a (.n 0) (.a (.n 3) (.c 1))) (.n 4),.E (.a (.n 2) (.n 3)) (.n 4)] [1,-1,-1,1] [1,1,1,-1] rfl ek (nsE (a:=List.length ps) (b:=done.length+1) (lA [] [_,_] (.a (.n 0) (.c 1)) (.n 1) [.B (.n 0) (.n 1)] [1,1] rfl hlt)) (nsE (a:=List.length ps) (b:=done.length) (lA [] [_,_] (.n 0) (.n 1) [.B (.n 0) (.n 1)] [1,1] rfl hlt))
  have ei:(ps.length:Int)+(done.length:Int) * -1=((k+1:Nat):Int):=by exact lq [] [_,_,_,_] (.a (.t (.n 0)) (.p (.t (.n 1)) (-1))) (.t (.a (.n 2) (.c 1))) [.E (.n 3) (.a (.n 2) (.c 1)),.E (.a (.n 3) (.n 1)) (.n 0),.L (.n 0) (.a (.n 3) (.n 1))] [1,-1,1,0] [1,1,-1,0] rfl ek (nsE (a:=List.length ps) (b:=done.length) (lA [] [_,_] (.n 0) (.n 1) [.B (.n 0) (.n 1)] [1,1] rfl hlt)) (ns1 (a:=List.length ps) (b:=done.length))
  rw[ei]
  obtain⟨y,hy⟩:=get_of_lt (l:=ps) (k:=k) (by exact lB [] [_,_,_] (.n 0) (.n 1) [.E (.n 2) (.a (.n 0) (.c 1)),.L (.n 2) (.n 1)] [1,-1,1] rfl ek (ns0 (a:=List.length ps) (b:=done.length)))
  obtain⟨ra,rb,g1,g2,RZ⟩:=T.step k y hy
  have ma:=List.mem_of_getElem? g1
  have mb:=List.mem_of_getElem? g2
  obtain⟨v0,v1⟩:=P.val y (List.mem_of_getElem? hy)
  have ea:rowAt (tr.map (·.2)) k=ra.2:=by rw[rowAt,List.getElem?_map,g1];rfl
  have eb:rowAt (tr.map (·.2)) (k+1)=rb.2:=by rw[rowAt,List.getElem?_map,g2];rfl
  have Bc:=B.cell
  rw[eb] at Bc
  obtain⟨at0,atx⟩:=cellZ_some Bc
  obtain⟨z,hz1,LZ⟩:=RZ.at_ at'.toNat (by rw[←RZ.len];exact lt_of_get atx)
  rw[atx] at hz1
  cases hz1
  rw[Int.toNat_of_nonneg at0] at LZ
  obtain⟨⟨m0,a0,l1,l2,l3,l4⟩,_⟩:=LZ
  have l3':cellZ ra.2 (at'-m0*y.1)=some (x'-ab m0):=by rw[l3,l4];congr 1;exact lq [_,_] [] (.v 0) (.s (.a (.v 0) (.v 1)) (.v 1)) [] [1] [1] rfl
  have ek1:((k+1:Nat):Int)-1=(k:Int):=by exact lq [] [_] (.s (.t (.a (.n 0) (.c 1))) (.c 1)) (.t (.n 0)) [] [1] [1] rfl
  have ht':=hE _ _ ht
  have hu':=hE _ _ hu
  have hR':=hE _ _ hR
  dsimp only[bodyW]
  (simp only[sS,sZ,sf_asg,qE_idx,qE_int,qE_bin,qE_var,gS,gZ,v_some,b_sub])
  rw[ek1]
  refine i_lvN ht' hy (by exact lA [] [_] (.n 0) (.c 1001) [.L (.n 0) (.c 60)] [1,1] rfl hl) ?_
  (simp only[i_pv0])
  dsimp only[restW]
  (simp only[sf_asg,sS,sZ,qE_call,qEs_cons,qEs_nil,qE_var,gS,gZ,v_some,true_and])
  refine own_spec D.own hu' ?_
  change restW _ _ _ _ _ _ _ _
  dsimp only[restW]
  refine whl_cons (I:=ManI H' (fun m=>[some (.ref R),some (.ref t),some (.ref u),some (.int place),some (.ref F),some (.ref G),some (.int at'),some (.int ((k+1:Nat):Int)),some (.int y.1),some m]) ra.2 y.1 (-y.2) (ownZ qs y.1) at' x') ?_ (n:=(ownZ qs y.1 - -y.2).toNat) ⟨ownZ qs y.1,rfl,rfl,by have l2':m0≤ownZ qs y.1:=l2;exact lq [_,_] [_] (.t (.n 0)) (.s (.v 0) (.g (.v 1))) [.l (.s (.v 0) (.g (.v 1))) (.t (.n 0)),.e (.t (.n 0)) (.s (.v 0) (.g (.v 1)))] [1,0,-1] [1,0,1] rfl (tn0 (a:=ownZ qs y.fst - -y.snd)) (tnE (a:=ownZ qs y.fst - -y.snd) (la [_,_,_] [] (.c 0) (.s (.v 0) (.g (.v 1))) [.l (.g (.v 1)) (.v 2),.l (.v 2) (.v 0)] [1,1,1] rfl l1 l2')),Int.le_refl _,fun m' h1 h2=>by omega⟩
  rintro j ρ H₂ K2 ⟨m,rfl,rfl,hj,hm,top⟩ hK2
  have hge:m0≤m:=by
   rcases Int.lt_or_le m m0 with c | c
   ·exact absurd l3' (top m0 c l2)
   ·exact c
  have sv:Sm m∨Sm y.1:=.inr ⟨by exact lb [_] [] (.c (-18446744073709551616)) (.v 0) [.l (.c 1) (.v 0)] [1,1] rfl v0,by exact lb [_] [] (.v 0) (.c 18446744073709551616) [.l (.v 0) (.c 2000)] [1,1] rfl v1⟩
  (simp only[qE_nt,asB_bool,qE_call,qEs_cons,qEs_nil,qE_bin,qE_bc,qE_var,gS,gZ,v_some,f_abs,true_and,qE_idx,b_mul,b_sub,qE_int])
  rw[ek1]
  refine i_refs hR' g1 hrl ⟨sv,?_⟩
  refine i_refs hR' g2 hrl ?_
  obtain⟨a,ea'⟩:∃a:Nat,at'=a:=⟨at'.toNat,by exact lq [_] [_] (.v 0) (.t (.n 0)) [.e (.t (.n 0)) (.v 0),.l (.v 0) (.t (.n 0))] [1,1,0] [1,-1,0] rfl (tnE (a:=at') (at0)) (tn0 (a:=at'))⟩
  have atx':rb.2[a]?=some (some x'):=by rw[ea',Int.toNat_natCast] at atx;exact atx
  have cel:∀Q':V→Hp→Prop,Q' (.int x') H₂→widx (.ref rb.1) (.int at') Q' H₂:=fun Q' h=>by rw[ea'];exact i_loB (hE _ _ (I _ mb)) atx' (rl _ mb) h
  refine cel _ ?_
  (simp only[b_sub])
  refine makes_spec hma (hE _ _ (I _ ma)) (rl _ ma) ?_
  rw[show (if m<0 then -m else m)=ab m from rfl]
  (simp only[asB_bool])
  by_cases c:cellZ ra.2 (at'-m*y.1)=some (x'-ab m)
  ·rw[decide_eq_true c]
   refine iteNf ?_
   have BS:=B.step hy (m:=m) (by rw[ea];exact⟨by exact la [_,_] [_] (.g (.v 0)) (.v 1) [.e (.t (.n 0)) (.s (.v 1) (.g (.v 0)))] [1,1] rfl hj,hm,c,top⟩)
   have lz:zl (ps.drop k) (m :: acc)=(y.1,m) :: zl (ps.drop (k+1)) acc:=zl_drop hy m acc
   have lzl:(zl (ps.drop (k+1)) acc).length≤60:=by rw[zl,List.length_map,List.length_zip];exact Nat.le_trans (Nat.min_le_left _ _) (by rw[List.length_drop];exact lA [] [_,_] (.n 0) (.c 60) [.L (.n 1) (.c 60),.L (.n 0) (.n 1)] [1,1,1] rfl hl (ns0 (a:=List.length ps) (b:=k+1)))
   have lp:(payR (zl (ps.drop (k+1)) acc)).length≤60:=Nat.le_trans (List.length_filter_le ..) (by rw[List.length_reverse];exact lzl)
   have lb:(backR (zl (ps.drop (k+1)) acc)).length≤60:=by rw[backR,List.length_map];exact Nat.le_trans (List.length_filter_le ..) (by rw[List.length_reverse];exact lzl)
   have fin:∀H₃,Ext H H₃→H₃ F=some (.list (lv (payR (zl (ps.drop k) (m :: acc)))))→H₃ G=some (.list (lv (backR (zl (ps.drop k) (m :: acc)))))→restW ⟨callN defs anc (n+1),anc⟩ false (.cons (.asg 6 (.bin .sub (.var 6) (.bin .mul (.var 9) (.var 8)))) .nil) K Q (fun c ξ H₁=>X c H₁) [some (.ref R),some (.ref t),some (.ref u),some (.int place),some (.ref F),some (.ref G),some (.int at'),some (.int ((k+1:Nat):Int)),some (.int y.1),some (.int m)] H₃:=fun H₃ e1 e2 e3=>by
    dsimp only[restW]
    (simp only[sf_asg,sS,sZ,qE_bin,qE_var,gS,gZ,v_some,b_mul,b_sub])
    refine⟨sv,?_⟩
    dsimp only[restW]
    (simp only[s_nil])
    exact hK _ _ ⟨at'-m*y.1,x'-ab m,m :: acc,_,_,_,by rw[hr];simp,rfl,e1,by rw[el];exact e2,by rw[el];exact e3,by rw[el];exact BS⟩
   dsimp only[restW]
   (simp only[sf_ife,app_cons,app_nil,qE_cmp,asB_bool,qE_int,qE_var,gS,gZ,v_some,c_gt,decide_eq_true_eq])
   by_cases m0':0<m
   ·refine iteP m0' ?_
    dsimp only[restW]
    (simp only[sf_ex,qE_mt,qEs_cons,qEs_nil,qE_tup,List.length_cons,List.length_nil,Nat.reduceAdd,qE_var,gS,gZ,v_some])
    rw[r_L eF]
    refine⟨⟨by decide,by decide⟩,by decide,?_⟩
    rw[m_append eF]
    refine⟨by rw[lv_length,lim_eq];exact lB [] [_] (.n 0) (.c 16777216) [.L (.n 0) (.c 60)] [1,1] rfl lp,?_⟩
    dsimp only[restW]
    (simp only[sf_ife,app_cons,app_nil,qE_cmp,asB_bool,qE_int,qE_var,gS,gZ,v_some,c_lt,decide_eq_true_eq])
    refine iteN (by exact lf [_] [] [.b (.c 0) (.v 0),.b (.v 0) (.c 0)] [1,1] rfl m0') ?_
    refine fin _ (.setNew _ hE hF) ?_ ?_
    ·rw[Hp.set_self,lz,payR_cons,if_pos m0',lv_append];rfl
    ·rw[Hp.set_ne _ (Ne.symm nFG),lz,backR_cons,if_neg (show ¬m<0 by exact lf [_] [] [.b (.c 0) (.v 0),.b (.v 0) (.c 0)] [1,1] rfl m0')];exact eG
   ·refine iteN m0' ?_
    dsimp only[restW]
    (simp only[sf_ife,app_cons,app_nil,qE_cmp,asB_bool,qE_int,qE_var,gS,gZ,v_some,c_lt,decide_eq_true_eq])
    by_cases m1:m<0
    ·refine iteP m1 ?_
     dsimp only[restW]
     (simp only[sf_ex,qE_mt,qEs_cons,qEs_nil,qE_tup,List.length_cons,List.length_nil,Nat.reduceAdd,qE_bin,qE_var,gS,gZ,v_some,qE_int,b_sub])
     rw[r_L eG]
     refine⟨⟨by decide,by decide⟩,by decide,?_⟩
     rw[m_append eG]
     refine⟨by rw[lv_length,lim_eq];exact lB [] [_] (.n 0) (.c 16777216) [.L (.n 0) (.c 60)] [1,1] rfl lb,?_⟩
     refine fin _ (.setNew _ hE hG0) ?_ ?_
     ·rw[Hp.set_ne _ nFG,lz,payR_cons,if_neg m0'];exact eF
     ·rw[Hp.set_self,lz,backR_cons,if_pos m1,lv_append,Int.zero_sub];rfl
    ·refine iteN m1 ?_
     exact fin _ hE (by rw[lz,payR_cons,if_neg m0'];exact eF) (by rw[lz,backR_cons,if_neg m1];exact eG)
  ·rw[decide_eq_false c]
   refine iteP rfl ?_
   have hlt0:m0<m:=by
    rcases Int.lt_or_le m0 m with c' | c'
    ·exact c'
    ·rw[Int.le_antisymm hge c'] at l3';exact absurd l3' c
   dsimp only[bodyW]
   (simp only[sf_asg,sS,sZ,qE_bin,qE_int,qE_var,gS,gZ,v_some,b_sub])
   dsimp only[restW]
   (simp only[s_nil])
   refine hK2 (j-1) _ _ (by exact lB [] [_,_] (.n 0) (.n 1) [.E (.a (.n 0) (.c 1)) (.n 1)] [1,1] rfl (nsE (a:=j) (b:=1) (lA [_,_,_] [_] (.c 1) (.n 0) [.l (.g (.v 0)) (.v 1),.e (.t (.n 0)) (.s (.v 2) (.g (.v 0))),.b (.v 1) (.v 2)] [1,1,-1,1] rfl l1 hj hlt0))) ⟨m-1,rfl,rfl,by exact lq [_,_] [_,_] (.t (.n 0)) (.s (.s (.v 0) (.c 1)) (.g (.v 1))) [.e (.t (.n 1)) (.s (.v 0) (.g (.v 1))),.L (.n 1) (.a (.n 0) (.c 1)),.E (.a (.n 0) (.c 1)) (.n 1)] [1,-1,0,-1] [1,1,0,1] rfl hj (ns1 (a:=j) (b:=1)) (nsE (a:=j) (b:=1) (lA [_,_,_] [_] (.c 1) (.n 0) [.l (.g (.v 0)) (.v 1),.e (.t (.n 0)) (.s (.v 2) (.g (.v 0))),.b (.v 1) (.v 2)] [1,1,-1,1] rfl l1 hj hlt0)),by exact la [_,_] [] (.s (.v 0) (.c 1)) (.v 1) [.l (.v 0) (.v 1)] [1,1] rfl hm,fun m' h1 h2=>?_⟩
   by_cases e:m'=m
   ·rw[e];exact c
   ·exact top m' (by omega) h2
end
noncomputable def vsOf (l:PL):List Int:=l.flatMap fun e=>List.replicate e.2.toNat e.1
theorem vsOf_append (a b:PL):vsOf (a++b)=vsOf a++vsOf b:=List.flatMap_append
theorem pay_cons (p:Int×Int) (ps:PL) (m:Int) (w:List Int):payZ (p :: ps) (m :: w)=if 0<m then (p.1,m) :: payZ ps w else payZ ps w:=by
 show ((p.1,m) :: zl ps w).filter _=_
 by_cases h:0<m
 ·rw[if_pos h,List.filter_cons_of_pos (by exact decide_eq_true h)];rfl
 ·rw[if_neg h,List.filter_cons_of_neg (by show ¬decide (0<m)=true;rw[decide_eq_false h];exact Bool.false_ne_true)];rfl
theorem back_cons (p:Int×Int) (ps:PL) (m:Int) (w:List Int):backZ (p :: ps) (m :: w)=if m<0 then (p.1,-m) :: backZ ps w else backZ ps w:=by
 show (((p.1,m) :: zl ps w).filter _).map _=_
 by_cases h:m<0
 ·rw[if_pos h,List.filter_cons_of_pos (by exact decide_eq_true h)];rfl
 ·rw[if_neg h,List.filter_cons_of_neg (by show ¬decide (m<0)=true;rw[decide_eq_false h];exact Bool.false_ne_true)];rfl
theorem pay_nil (ps:PL):payZ ps []=[]:=by rw[payZ,zl,List.zip_nil_right];rfl
theorem back_nil (ps:PL):backZ ps []=[]:=by rw[backZ,zl,List.zip_nil_right];rfl
theorem pay_keys {ps:PL}:∀ {w:List Int}{e:Int×Int},e∈payZ ps w→e.1∈ps.map (·.1):=by
 induction ps with
 | nil=>intro w e h;rw[payZ,zl,List.zip_nil_left] at h;cases h
 | cons p ps ih =>
  intro w e h
  cases w with
  | nil=>rw[pay_nil] at h;cases h
  | cons m w =>
   rw[pay_cons] at h
   split at h
   ·rcases List.mem_cons.mp h with rfl | h
    ·exact .head _
    ·exact .tail _ (ih h)
   ·exact .tail _ (ih h)
theorem pay_sums (ps:PL):∀(w:List Int),worthL (payZ ps w)=posW ps w∧worthL (backZ ps w)=negW ps w:=by
 induction ps with
 | nil=>intro w;rw[payZ,backZ,zl,posW,negW,List.zip_nil_left];exact⟨rfl,rfl⟩
 | cons p ps ih =>
  intro w
  cases w with
  | nil=>rw[pay_nil,back_nil,posW,negW,List.zip_nil_right];exact⟨rfl,rfl⟩
  | cons m w =>
   obtain⟨i1,i2⟩:=ih w
   have e1:posW (p :: ps) (m :: w)=p.1*pos m+posW ps w:=rfl
   have e2:negW (p :: ps) (m :: w)=p.1*neg' m+negW ps w:=rfl
   rw[pay_cons,back_cons,e1,e2]
   constructor
   ·unfold pos
    by_cases h:0<m
    ·rw[if_pos h,if_pos h,←i1];rfl
    ·rw[if_neg h,if_neg h,i1,Int.mul_zero,Int.zero_add]
   ·unfold neg'
    by_cases h:m<0
    ·rw[if_pos h,if_pos h,←i2];rfl
    ·rw[if_neg h,if_neg h,i2,Int.mul_zero,Int.zero_add]
theorem pay_many (ps:PL):∀(w:List Int),w.length=ps.length→manyL (payZ ps w)=posN w∧manyL (backZ ps w)=negN w:=by
 induction ps with
 | nil=>intro w h;cases w with
  | nil=>rw[payZ,backZ,zl,List.zip_nil_left];exact⟨rfl,rfl⟩
  | cons _ _=>cases h
 | cons p ps ih =>
  intro w hl
  cases w with
  | nil=>cases hl
  | cons m w =>
   obtain⟨i1,i2⟩:=ih w (Nat.succ.inj hl)
   have e1:posN (m :: w)=pos m+posN w:=rfl
   have e2:negN (m :: w)=neg' m+negN w:=rfl
   rw[pay_cons,back_cons,e1,e2]
   constructor
   ·unfold pos
    by_cases h:0<m
    ·rw[if_pos h,if_pos h,←i1];rfl
    ·rw[if_neg h,if_neg h,i1,Int.zero_add]
   ·unfold neg'
    by_cases h:m<0
    ·rw[if_pos h,if_pos h,←i2];rfl
    ·rw[if_neg h,if_neg h,i2,Int.zero_add]
theorem vsOf_cons (e:Int×Int) (l:PL):vsOf (e :: l)=List.replicate e.2.toNat e.1++vsOf l:=rfl
theorem vsOf_not {v:Int}:∀ {l:PL},v∉l.map (·.1)→(vsOf l).count v=0
 | [],_=>rfl
 | e :: l,h=>by
  rw[List.map_cons,List.mem_cons,not_or] at h
  rw[vsOf_cons,List.count_append,vsOf_not h.2,List.count_replicate,if_neg (by simpa using fun z=>h.1 z.symm)]
theorem vsOf_count {ps:PL} (hn:(ps.map (·.1)).Nodup):∀ {w:List Int}{i:Nat}{q:Int×Int}{m:Int},ps[i]?=some q→w[i]?=some m→((vsOf (payZ ps w)).count q.1:Int)=pos m:=by
 induction ps with
 | nil=>intro w i q m h;cases h
 | cons p ps ih =>
  rw[List.map_cons,List.nodup_cons] at hn
  intro w i q m hq hm
  cases w with
  | nil=>cases hm
  | cons x w =>
   rw[pay_cons]
   cases i with
   | zero =>
    cases hq
    cases hm
    have n0:(vsOf (payZ ps w)).count p.1=0:=vsOf_not fun z=>by
     obtain⟨e,he,e1⟩:=List.mem_map.mp z
     exact hn.1 (e1▸pay_keys he)
    unfold pos
    by_cases h:0<m
    ·rw[if_pos h,if_pos h,vsOf_cons,List.count_append,n0,List.count_replicate_self];show ((m.toNat+0:Nat):Int)=m;exact lq [_] [_] (.t (.a (.n 0) (.c 0))) (.v 0) [.l (.v 0) (.t (.n 0)),.e (.t (.n 0)) (.v 0)] [1,0,-1] [1,0,1] rfl (tn0 (a:=m)) (tnE (a:=m) (la [_] [] (.c 0) (.v 0) [.b (.c 0) (.v 0)] [1,1] rfl h))
    ·rw[if_neg h,if_neg h,n0];rfl
   | succ i =>
    have hq':ps[i]?=some q:=hq
    have hm':w[i]?=some m:=hm
    have:=ih hn.2 hq' hm'
    split
    ·rw[vsOf_cons,List.count_append,List.count_replicate,if_neg (by
      have:p.1≠q.1:=fun z=>hn.1 (z▸List.mem_map_of_mem (List.mem_of_getElem? hq'))
      simpa using this),Nat.zero_add]
     exact this
    ·exact this
theorem rep_sum (v:Int):∀k:Nat,(List.replicate k v).sum=v*k
 | 0=>(Int.mul_zero v).symm
 | k+1=>by rw[List.replicate_succ,List.sum_cons,rep_sum v k,Int.natCast_add,Int.mul_add];show v+v*(k:Int)=v*(k:Int)+v*1;exact lq [_,_] [] (.a (.v 0) (.v 1)) (.a (.v 1) (.p (.v 0) 1)) [] [1] [1] rfl
theorem vsOf_sum {l:PL}:(∀e∈l,0≤e.2)→(vsOf l).sum=worthL l:=by
 induction l with
 | nil=>intro _;rfl
 | cons e l ih =>
  intro h
  rw[vsOf_cons,List.sum_append,ih fun x hx=>h x (.tail _ hx),rep_sum,Int.toNat_of_nonneg (h e (.head _))]
  rfl
theorem T11.till {ps qs:PL} (T:T11 ps qs):Till ps:=⟨T.pos,T.len,T.pp.nodup,T.srt,fun q h=>⟨(T.pp.val q h).1,T.val q h⟩,fun q h=>T.pp.cnt q h⟩
theorem put_ok {ps:PL}:∀ {vs done:List Int},(∀v∈vs,v∈ps.map (·.1))→(∀q∈ps,q.2≤1000001)→done.length+vs.length≤1000→putCode ps vs done = ""
 | [],_,_,_,_=>rfl
 | v :: vs,done,h,hc,hl=>by
  rw[List.length_cons] at hl
  have hf:faultAt ps done v = "" := by
   unfold faultAt
   cases e:lk v ps with
   | none=>exact absurd (h v (.head _)) (lk_none.mp e)
   | some c =>
    have:=hc _ (lk_some e)
    have:(done.count v:Int)≤1000:=by have:=List.count_le_length (a:=v) (l:=done);exact la [] [_,_,_] (.t (.n 0)) (.c 1000) [.L (.a (.n 1) (.a (.n 2) (.c 1))) (.c 1000),.L (.n 0) (.n 1)] [1,1,1] rfl hl this
    show (if c+(done.count v:Int)=MC then "NoCount" else "") = ""
    rw[if_neg (by unfold MC;simp only at *;omega)]
  show (if faultAt ps done v = "" then putCode ps vs (done++[v]) else faultAt ps done v) = ""
  rw[if_pos hf]
  exact put_ok (fun x hx=>h x (.tail _ hx)) hc (by rw[List.length_append,List.length_singleton];exact lA [] [_,_] (.a (.a (.n 0) (.c 1)) (.n 1)) (.c 1000) [.L (.a (.n 0) (.a (.n 1) (.c 1))) (.c 1000)] [1,1] rfl hl)
theorem WayZ.pos_range {ps qs : PL} (P : PP ps) (P' : PP qs) {k : Nat} : ∀ {w : List Int}, WayZ ps qs k w → 0 ≤ posW ps w ∧ posW ps w ≤ hasZ qs (ps.take k) ∧ 0 ≤ negW ps w := by
  induction k with
  | zero => intro w h; cases h; have e : posW ps [] = 0 := by rw [posW, List.zip_nil_right]; rfl
            have e' : negW ps [] = 0 := by rw [negW, List.zip_nil_right]; rfl
            rw [e, e', List.take_zero]; exact ⟨Int.le_refl _, Int.le_refl _, Int.le_refl _⟩
  | succ k ih =>
    intro w ⟨q, w', m, hq, r, hl, hm, e⟩
    replace r : WayZ ps qs k w' := r
    subst e
    obtain ⟨i1, i2, i3⟩ := ih r
    have v0 := (P.val q (List.mem_of_getElem? hq)).1
    obtain ⟨o0, _⟩ := lk_range (v := q.1) P'.cnt
    have et : ps.take (k + 1) = ps.take k ++ [q] := by rw [List.take_add_one, hq]; rfl
    have e2 : hasZ qs (ps.take k ++ [q]) = hasZ qs (ps.take k) + q.1 * ownZ qs q.1 := by
      rw [hasZ, List.map_append, List.sum_append]; exact congrArg (_ + ·) (Int.add_zero _)
    have hpo : pos m ≤ ownZ qs q.1 := by
      unfold pos
      by_cases c : 0 < m
      · rw [if_pos c]; exact hm
      · rw [if_neg c]; exact o0
    have h2 := Int.mul_le_mul_of_nonneg_left hpo (show 0 ≤ q.1 by exact la [_] [] (.c 0) (.v 0) [.l (.c 1) (.v 0)] [1, 1] rfl v0)
    have h3 := Int.mul_nonneg (show 0 ≤ q.1 by exact la [_] [] (.c 0) (.v 0) [.l (.c 1) (.v 0)] [1, 1] rfl v0) (pos0 m)
    have h4 := Int.mul_nonneg (show 0 ≤ q.1 by exact la [_] [] (.c 0) (.v 0) [.l (.c 1) (.v 0)] [1, 1] rfl v0) (neg0 m)
    rw [posW_snoc hq r.len, negW_snoc hq r.len, et, e2]
    exact ⟨la [_, _] [] (.c 0) (.a (.v 0) (.v 1)) [.l (.c 0) (.v 0), .l (.c 0) (.v 1)] [1, 1, 1] rfl i1 h3, ⟨la [_, _, _, _] [] (.a (.v 0) (.v 1)) (.a (.v 2) (.v 3)) [.l (.v 0) (.v 2), .l (.v 1) (.v 3)] [1, 1, 1] rfl i2 h2, la [_, _] [] (.c 0) (.a (.v 0) (.v 1)) [.l (.c 0) (.v 0), .l (.c 0) (.v 1)] [1, 1, 1] rfl i3 h4⟩⟩
theorem WayZ.pos_most {ps qs:PL} (P:PP ps) (P':PP qs) {w:List Int} (h:WayZ ps qs ps.length w):posW ps w≤worthL qs:=by
 have:=(h.pos_range P P').2.1
 rw[List.take_length] at this
 have:=hasZ_le P.nodup P'.nodup fun q hq=>⟨by have:=(P'.val q hq).1;exact la [_] [] (.c 0) (.v 0) [.l (.c 1) (.v 0)] [1,1] rfl this,(P'.cnt q hq).1⟩
 omega
theorem pay_val {ps:PL} (hv:∀q∈ps,1≤q.1) {w:List Int}{e:Int×Int} (h:e∈payZ ps w):1≤e.1∧1≤e.2:=by
 obtain⟨q,hq,e1⟩:=List.mem_map.mp (pay_keys h)
 have h2:=(List.mem_filter.mp h).2
 have:0<e.2:=of_decide_eq_true h2
 exact⟨by rw[←e1];exact hv q hq,by exact la [_] [] (.c 1) (.v 0) [.b (.c 0) (.v 0)] [1,1] rfl this⟩
theorem vsOf_len {l:PL}:(∀e∈l,1≤e.1∧1≤e.2)→((vsOf l).length:Int)≤worthL l:=by
 induction l with
 | nil=>intro _;exact Int.le_refl _
 | cons e l ih =>
  intro h
  have ih:=ih fun x hx=>h x (.tail _ hx)
  obtain⟨a,b⟩:=h e (.head _)
  have:=Int.mul_le_mul_of_nonneg_right a (show 0≤e.2 by exact la [_] [] (.c 0) (.v 0) [.l (.c 1) (.v 0)] [1,1] rfl b)
  rw[vsOf_cons,List.length_append,List.length_replicate]
  show ((e.2.toNat+(vsOf l).length:Nat):Int)≤e.1*e.2+worthL l
  exact la [_,_,_] [_,_] (.t (.a (.n 0) (.n 1))) (.a (.v 0) (.v 1)) [.l (.t (.n 1)) (.v 1),.l (.m 1 (.v 2)) (.v 0),.e (.t (.n 0)) (.v 2)] [1,1,1,1] rfl ih this (tnE (a:=e.snd) (la [_] [] (.c 0) (.v 0) [.l (.c 1) (.v 0)] [1,1] rfl b))
theorem vsOf_mem {l:PL}{v:Int} (h:v∈vsOf l):v∈l.map (·.1):=by
 obtain⟨e,he,hv⟩:=List.mem_flatMap.mp h
 rw[(List.mem_replicate.mp hv).2]
 exact List.mem_map_of_mem he
theorem WayZ.neg_range {ps qs : PL} (P : PP ps) {k : Nat} : ∀ {w : List Int}, WayZ ps qs k w → negW ps w ≤ worthL (ps.take k) := by
  induction k with
  | zero => intro w h; cases h; have e' : negW ps [] = 0 := by rw [negW, List.zip_nil_right]; rfl
            rw [e', List.take_zero]; exact Int.le_refl _
  | succ k ih =>
    intro w ⟨q, w', m, hq, r, hl, hm, e⟩
    replace r : WayZ ps qs k w' := r
    subst e
    have i := ih r
    have v0 := (P.val q (List.mem_of_getElem? hq)).1
    have c0 := (P.cnt q (List.mem_of_getElem? hq)).1
    have et : ps.take (k + 1) = ps.take k ++ [q] := by rw [List.take_add_one, hq]; rfl
    have hn : neg' m ≤ q.2 := by unfold neg'; split <;> (first | exact la [_, _] [] (.g (.v 0)) (.v 1) [.l (.g (.v 1)) (.v 0)] [1, 1] rfl hl | exact c0)
    have h2 := Int.mul_le_mul_of_nonneg_left hn (show 0 ≤ q.1 by exact la [_] [] (.c 0) (.v 0) [.l (.c 1) (.v 0)] [1, 1] rfl v0)
    rw [negW_snoc hq r.len, et, worthL_add]
    exact la [_, _, _, _] [] (.a (.v 0) (.v 1)) (.a (.v 2) (.v 3)) [.l (.v 0) (.v 2), .l (.v 1) (.v 3)] [1, 1, 1] rfl i h2
structure Found (ps qs:PL) (tr:List (Addr×Row)) (price x:Int) (w:List Int):Prop where
 tab:RT ps qs tr
 cell:lastC ps tr price=some x
 way:WayZ ps qs ps.length w
 wor:woZ ps w=price
 few:fewZ w=x
 len:w.length=ps.length
theorem Found.of {ps qs:PL}{tr:List (Addr×Row)}{price x:Int}{w:List Int} (P:PP ps) (P':PP qs) (T:RT ps qs tr) (hx:lastC ps tr price=some x) (hp:PickZ (tr.map (·.2)) ps qs (worthL ps) ps.length (price+worthL ps) x w) (hl:w.length=ps.length):Found ps qs tr price x w:=by
 have w1:=P.worth0
 have w2:=P'.worth0
 have e1:worthL ps=((worthL ps).toNat:Nat):=by exact lq [_] [_] (.v 0) (.t (.n 0)) [.e (.t (.n 0)) (.v 0),.l (.v 0) (.t (.n 0))] [1,1,0] [1,-1,0] rfl (tnE (a:=worthL ps) (w1)) (tn0 (a:=worthL ps))
 have e2:worthL qs=((worthL qs).toNat:Nat):=by exact lq [_] [_] (.v 0) (.t (.n 0)) [.e (.t (.n 0)) (.v 0),.l (.v 0) (.t (.n 0))] [1,1,0] [1,-1,0] rfl (tnE (a:=worthL qs) (w2)) (tn0 (a:=worthL qs))
 have hp':PickZ (tr.map (·.2)) ps qs ((worthL ps).toNat:Int) ps.length (price+worthL ps) x w:=by rw[←e1];exact hp
 obtain⟨h1,h2,h3,_⟩:=hp'.best T P P' e1 e2
 exact⟨T,hx,h1,by rw[h2];exact lq [_,_] [_] (.s (.a (.v 0) (.v 1)) (.t (.n 0))) (.v 0) [.e (.v 1) (.t (.n 0))] [1,-1] [1,1] rfl e1,h3,hl⟩
section
variable {defs:String→Option Fn}{anc:String→List String}{n:Nat}{Q:V→Hp→Prop}{X:String→Hp→Prop}{H:Hp}
theorem pays_back_spec (D:Def8 defs) (hpi:defs "_law_pieces" = some f_law_pieces) (h5:defs "_law_pays_back" = some f_law_pays_back) {t b c:Addr}{ps qs:PL}{tr:List (Addr×Row)}{price x:Int}{w:List Int} (T:T11 ps qs) (hs:worthL ps+worthL qs≤1500) (hr:InR price) (F:Found ps qs tr price x w)
  (ht:H t=some (.list (lv ps))) (hb:H b=some (.list (lv (payZ ps w)))) (hc:H c=some (.list (lv (backZ ps w)))) (hq:∀H',Ext H H'→Q (.bool true) H') :
  callN defs anc (n+6) "_law_pays_back" [.ref t,.tup [.ref b,.ref c],.int price] Q X H:=by
 have P:=T.pp
 have P':=T.ppq
 have w1:=P.worth0
 have w2:=P'.worth0
 have pv':∀e∈payZ ps w,1≤e.1∧1≤e.2:=fun e he=>pay_val (fun q h=>(P.val q h).1) he
 have psum:=(pay_sums ps w).1
 have pm:=F.way.pos_most P P'
 have n0:=(F.way.pos_range P P').2.2
 have nm:=F.way.neg_range P
 rw[List.take_length] at nm
 have wpn:=woZ_pn ps w
 have fw:=F.wor
 have plen:(payZ ps w).length≤60:=Nat.le_trans (List.length_filter_le ..) (by rw[zl,List.length_map,List.length_zip];exact Nat.le_trans (Nat.min_le_left _ _) P.len)
 have blen:(backZ ps w).length≤60:=by rw[backZ,List.length_map];exact Nat.le_trans (List.length_filter_le ..) (by rw[zl,List.length_map,List.length_zip];exact Nat.le_trans (Nat.min_le_left _ _) P.len)
 refine call_of h5 rfl ?_
 simp only[f_law_pays_back]
 (simp only[List.map_cons,List.map_nil,List.length_cons,List.length_nil,Nat.reduceAdd,Nat.reduceSub,List.replicate,List.cons_append,List.nil_append,sf_asg,sS,sZ,qE_list,qEs_nil])
 refine⟨by decide,fun L hL=>?_⟩
 dsimp only[restW]
 refine for_cons ⟨rfl,?_⟩
 (simp only[sr_ex,qE_idx,qE_int,qE_var,gS,gZ,v_some,i_tup0])
 refine src_of (Ext.new _ hL _ _ hb) ?_
 rw[lvIt]
 refine forGo_map (I:=fun as ρ H'=>Ext H H'∧∃L x4,ρ=[some (.ref t),some (.tup [.ref b,.ref c]),some (.int price),some (.ref L),x4]∧H' L=some (.list ((vsOf as).map V.int))) ?_ ?_ ?_ ⟨.new _ hL,L,none,rfl,Hp.set_self _ _ _⟩
 ·rintro as ρ H' ⟨hE,L,x4,rfl,eL⟩;exact okH_one (hE _ _ hb)
 ·rintro ρ H' ⟨hE,L,x4,rfl,eL⟩
  dsimp only[restW]
  (simp only[sf_ife,app_cons,app_nil,qE_cmp,asB_bool,qE_int,qE_bc,qEs_cons,qEs_nil,qE_var,gS,gZ,v_some,true_and])
  rw[f_lenL eL,List.length_map]
  (simp only[c_gt,decide_eq_true_eq])
  refine ite_all (fun ξ=>?_) fun h60=>?_
  ·dsimp only[restW]
   (simp only[s_ret,qE_bool])
   exact hq H' hE
  ·have h60':(vsOf (payZ ps w)).length≤60:=by exact lA [] [_] (.n 0) (.c 60) [.l (.t (.n 0)) (.c 60)] [1,1] rfl (Int.not_lt.mp h60)
   have vsum:(vsOf (payZ ps w)).sum=posW ps w:=by rw[vsOf_sum fun e he=>by have:=(pv' e he).2;exact la [_] [] (.c 0) (.v 0) [.l (.c 1) (.v 0)] [1,1] rfl this,psum]
   have hdue:dueX ps price (vsOf (payZ ps w)) = "" := by
    unfold dueX
    rw[if_neg (fun z=>z hr),if_neg (by exact lf [] [_] [.l (.t (.n 0)) (.c 60),.B (.c 60) (.n 0)] [1,1] rfl (Int.not_lt.mp h60)),put_ok (fun v hv=>by
      obtain⟨e,he,e1⟩:=List.mem_map.mp (vsOf_mem hv)
      rw[←e1];exact pay_keys he) T.cnt (by rw[List.length_nil];exact lA [] [_] (.a (.c 0) (.n 0)) (.c 1000) [.l (.t (.n 0)) (.c 60)] [1,1] rfl (Int.not_lt.mp h60)),if_neg (fun z=>z rfl),if_neg (by exact lf [_,_,_,_,_] [] [.l (.c 0) (.v 0),.e (.v 1) (.s (.v 2) (.v 0)),.e (.v 1) (.v 3),.e (.v 4) (.v 2),.b (.v 4) (.v 3)] [1,1,-1,-1,1] rfl n0 wpn fw vsum),if_neg (fun z=>z ⟨by exact la [_,_,_,_,_] [] (.c 0) (.s (.v 0) (.v 1)) [.l (.c 0) (.v 2),.e (.v 3) (.s (.v 4) (.v 2)),.e (.v 3) (.v 1),.e (.v 0) (.v 4)] [1,1,1,-1,-1] rfl n0 wpn fw vsum,by have:=hr.1;exact la [_,_,_,_,_,_,_] [] (.s (.v 0) (.v 1)) (.c 1000) [.l (.a (.v 2) (.v 3)) (.c 1500),.l (.v 4) (.v 3),.l (.v 5) (.v 2),.e (.v 6) (.s (.v 4) (.v 5)),.e (.v 6) (.v 1),.e (.v 0) (.v 4),.l (.c 0) (.v 1)] [2,1,1,1,-1,1,2,1] rfl hs pm nm wpn fw vsum this⟩)]
   have hov:((vsOf (payZ ps w)).sum-price).toNat=(negW ps w).toNat:=by rw[vsum];congr 1;exact lq [_,_,_,_] [] (.s (.v 0) (.v 1)) (.v 2) [.e (.v 3) (.s (.v 0) (.v 2)),.e (.v 3) (.v 1)] [1,1,-1] [1,-1,1] rfl wpn fw
   have e1:worthL ps=((worthL ps).toNat:Nat):=by exact lq [_] [_] (.v 0) (.t (.n 0)) [.e (.t (.n 0)) (.v 0),.l (.v 0) (.t (.n 0))] [1,1,0] [1,-1,0] rfl (tnE (a:=worthL ps) (w1)) (tn0 (a:=worthL ps))
   have e2:worthL qs=((worthL qs).toNat:Nat):=by exact lq [_] [_] (.v 0) (.t (.n 0)) [.e (.t (.n 0)) (.v 0),.l (.v 0) (.t (.n 0))] [1,1,0] [1,-1,0] rfl (tnE (a:=worthL qs) (w2)) (tn0 (a:=worthL qs))
   have cell':=F.cell
   have CM:=change_many (vs:=vsOf (payZ ps w)) F.tab P P' e1 e2 F.way (price:=price) (x:=x) (by rw[←e1];exact cell') F.wor F.few (fun i q m h1 h2=>vsOf_count P.nodup h1 h2) (M:=(negW ps w).toNat) (by exact lq [_] [_] (.v 0) (.t (.n 0)) [.e (.t (.n 0)) (.v 0),.l (.v 0) (.t (.n 0))] [1,1,0] [1,-1,0] rfl (tnE (a:=negW ps w) (n0)) (tn0 (a:=negW ps w)))
   dsimp only[restW]
   (simp only[s_ret,qE_cmp,qE_call,qEs_cons,qEs_nil,qE_idx,qE_int,qE_var,gS,gZ,v_some,i_tup1,true_and])
   refine paid_spec D T.till (hE _ _ ht) eL (fun z=>absurd hdue z) (fun ξ H₂ hE2 f=>absurd (hov▸f) CM.1) fun ξ y l a d H₂ hE2 C hll ξ ξ ξ ξ hd=>?_
   rw[hov] at C
   have hy:=CM.2 y l C
   have hml:manyL l=y:=by
    obtain⟨t2,T2,h2,hp2⟩:=C
    have hsr:(fullP ps (vsOf (payZ ps w))).Pairwise fun a b=>a.1<b.1:=srt_lt (by rw[SrtP,fullP_keys];exact T.srt) (by rw[fullP_keys];exact P.nodup)
    refine (Picks.chg hsr (fun q hq'=>?_) (fun q hq'=>?_) hp2).2.2
    ·obtain⟨z,hz,rfl⟩:=List.mem_map.mp hq'
     exact⟨(P.val z hz).1,T.val z hz⟩
    ·obtain⟨z,hz,rfl⟩:=List.mem_map.mp hq'
     have:=(P.cnt z hz).1
     have:=T.cnt z hz
     have h3:=List.count_le_length (a:=z.1) (l:=vsOf (payZ ps w))
     show 0≤z.2+((vsOf (payZ ps w)).count z.1:Int)∧z.2+((vsOf (payZ ps w)).count z.1:Int)≤1000000000
     omega
   (simp only[i_tup1])
   refine pieces_spec hpi hd (by exact lA [] [_] (.n 0) (.c 1000) [.L (.n 0) (.c 100)] [1,1] rfl hll) fun H₃ hE3=>?_
   refine pieces_spec hpi (((hE.trans hE2).trans hE3) _ _ hc) (by exact lA [] [_] (.n 0) (.c 1000) [.L (.n 0) (.c 60)] [1,1] rfl blen) fun H₄ hE4=>?_
   (simp only[c_eqI])
   rw[hml,hy,(pay_many ps w F.len).2,decide_eq_true rfl]
   exact hq H₄ (((hE.trans hE2).trans hE3).trans hE4)
 ·rintro as e bs ρ H' K he ⟨hE,L,x4,rfl,eL⟩ hK
  refine⟨_,rfl,?_⟩
  have hmem:e∈payZ ps w:=by rw[he];simp
  obtain⟨a1,a2⟩:=pv' e hmem
  have hwe:worthL (as++[e])≤worthL (payZ ps w):=by
   have h0:=worthL_nonneg (ps:=bs) fun z hz=>by have:=pv' z (by rw[he];simp [hz]);exact⟨la [_] [] (.c 0) (.v 0) [.l (.c 1) (.v 0)] [1,1] rfl this.1,la [_] [] (.c 0) (.v 0) [.l (.c 1) (.v 0)] [1,1] rfl this.2⟩
   rw[he,show as++e :: bs=(as++[e])++bs by simp,worthL_app (as++[e])]
   exact la [_,_] [] (.v 0) (.a (.v 0) (.v 1)) [.l (.c 0) (.v 1)] [1,1] rfl h0
  have hle:=vsOf_len (l:=as++[e]) fun z hz=>pv' z (by rw[he];rcases List.mem_append.mp hz with h | h;exact List.mem_append_left _ h;rw[List.mem_singleton.mp h];simp)
  rw[vsOf_append,List.length_append,vsOf_cons] at hle
  have hl2:(vsOf as).length+e.2.toNat≤1500:=by
   have:(List.replicate e.2.toNat e.1++vsOf []).length=e.2.toNat:=by simp [vsOf]
   exact lA [_,_,_,_,_] [_,_,_] (.a (.n 0) (.n 1)) (.c 1500) [.l (.a (.v 0) (.v 1)) (.c 1500),.l (.c 0) (.v 0),.e (.v 2) (.v 3),.l (.v 3) (.v 1),.l (.v 4) (.v 2),.l (.t (.a (.n 0) (.n 2))) (.v 4),.E (.n 2) (.n 1)] [1,1,1,1,1,1,1,-1] rfl hs w1 psum pm hwe hle this
  dsimp only[bodyW]
  (simp only[sS,sZ,sf_asg,qE_bin,qE_idx,qE_int,qE_var,gS,gZ,v_some,i_pv1,qE_list,qEs_cons,qEs_nil,i_pv0])
  refine⟨Nat.le_of_ble_eq_true rfl,fun a ha=>⟨_,Hp.set_self _ _ _,⟨⟨by exact lb [_] [] (.c (-4611686018427387904)) (.v 0) [.l (.c 1) (.v 0)] [1,1] rfl a2,by exact lb [_] [_,_] (.v 0) (.c 4611686018427387904) [.L (.a (.n 0) (.n 1)) (.c 1500),.l (.v 0) (.t (.n 1))] [1,1,1] rfl hl2 (tn0 (a:=e.snd))⟩,by exact la [_] [_,_] (.v 0) (.c 16777216) [.L (.a (.n 0) (.n 1)) (.c 1500),.l (.v 0) (.t (.n 1))] [1,1,1] rfl hl2 (tn0 (a:=e.snd))⟩,by rw[List.length_replicate,lim_eq];exact lA [] [_,_] (.n 0) (.c 16777216) [.L (.a (.n 1) (.n 0)) (.c 1500)] [1,1] rfl hl2,fun d hd=>⟨_,_,((Ext.new _ ha).trans (Ext.new _ hd)) _ _ eL,Hp.set_self _ _ _,by rw[List.length_append,List.length_map,List.length_replicate,lim_eq];exact lA [] [_,_] (.a (.n 0) (.n 1)) (.c 16777216) [.L (.a (.n 0) (.n 1)) (.c 1500)] [1,1] rfl hl2,fun g hg=>?_⟩⟩⟩
  dsimp only[restW]
  (simp only[s_nil])
  refine hK _ _ ⟨((hE.trans (.new _ ha)).trans (.new _ hd)).trans (.new _ hg),g,_,rfl,?_⟩
  rw[Hp.set_self,vsOf_append,List.map_append,vsOf_cons,List.map_append,List.map_replicate]
  simp [vsOf]
end
theorem WayZ.mem {ps qs:PL}{k:Nat}:∀ {w:List Int},WayZ ps qs k w→∀e∈ps.zip w,e.1∈ps∧-e.1.2≤e.2∧e.2≤ownZ qs e.1.1:=by
 induction k with
 | zero=>intro w h e he;cases h;rw[List.zip_nil_right] at he;cases he
 | succ k ih =>
  intro w ⟨q,w',m,hq,r,hl,hm,e⟩ y hy
  replace r:WayZ ps qs k w':=r
  subst e
  rw[zip_snocZ hq r.len] at hy
  rcases List.mem_append.mp hy with h | h
  ·exact ih r y h
  ·rw[List.mem_singleton] at h;subst h;exact⟨List.mem_of_getElem? hq,hl,hm⟩
theorem zl_keys {ps:PL}:∀ {w:List Int},((zl ps w).map (·.1)).Sublist (ps.map (·.1)):=by
 induction ps with
 | nil=>intro w;rw[zl,List.zip_nil_left];exact .slnil
 | cons p ps ih =>
  intro w
  cases w with
  | nil=>rw[zl,List.zip_nil_right];exact List.nil_sublist _
  | cons m w=>exact List.Sublist.cons₂ _ ih
theorem pay_part {ps qs:PL}{w:List Int}{k:Nat} (P:PP ps) (hs:ps.Pairwise fun a b=>a.1<b.1) (h:WayZ ps qs k w):PartOk (payZ ps w) qs:=by
 have hk:((payZ ps w).map (·.1)).Sublist (ps.map (·.1)):=(List.filter_sublist.map _).trans zl_keys
 refine⟨?_,fun e he=>?_,fun e he=>?_⟩
 ·have:=(List.pairwise_map (f:=fun x:Int×Int=>x.1) (R:=(· < ·))).mpr hs
  exact List.pairwise_map.mp (this.sublist hk)
 ·obtain⟨q,hq,e1⟩:=List.mem_map.mp (hk.subset (List.mem_map_of_mem he))
  rw[←e1];exact P.val q hq
 ·obtain⟨h1,h2⟩:=List.mem_filter.mp he
  obtain⟨y,hy,rfl⟩:=List.mem_map.mp h1
  have:=of_decide_eq_true h2
  exact⟨this,(h.mem y hy).2.2⟩
theorem back_part {ps qs:PL}{w:List Int}{k:Nat} (P:PP ps) (hs:ps.Pairwise fun a b=>a.1<b.1) (h:WayZ ps qs k w):PartOk (backZ ps w) ps:=by
 have hk:((backZ ps w).map (·.1)).Sublist (ps.map (·.1)):=by
  rw[backZ,List.map_map]
  exact (List.filter_sublist.map _).trans zl_keys
 refine⟨?_,fun e he=>?_,fun e he=>?_⟩
 ·have:=(List.pairwise_map (f:=fun x:Int×Int=>x.1) (R:=(· < ·))).mpr hs
  exact List.pairwise_map.mp (this.sublist hk)
 ·obtain⟨q,hq,e1⟩:=List.mem_map.mp (hk.subset (List.mem_map_of_mem he))
  rw[←e1];exact P.val q hq
 ·obtain⟨z,hz,rfl⟩:=List.mem_map.mp he
  obtain⟨h1,h2⟩:=List.mem_filter.mp hz
  obtain⟨y,hy,rfl⟩:=List.mem_map.mp h1
  have h3:y.2<0:=of_decide_eq_true h2
  obtain⟨g1,g2,_⟩:=h.mem y hy
  have:ownZ ps y.1.1=y.1.2:=by rw[ownZ,lk_mem P.nodup g1];rfl
  show 1≤-y.2∧-y.2≤ownZ ps y.1.1
  rw[this];exact⟨la [_] [] (.c 1) (.g (.v 0)) [.b (.v 0) (.c 0)] [1,1] rfl h3,la [_,_] [] (.g (.v 0)) (.v 1) [.l (.g (.v 1)) (.v 0)] [1,1] rfl g2⟩
theorem pay_back {ps qs:PL}{w:List Int} (P:PP ps) {e:Int×Int} (he:e∈payZ ps w):ownZ (backZ ps w) e.1=0:=by
 have hn:((zl ps w).map (·.1)).Nodup:=P.nodup.sublist zl_keys
 have:lk e.1 (backZ ps w)=none:=lk_none.mpr fun z=>by
  obtain⟨y,hy,e1⟩:=List.mem_map.mp z
  obtain⟨x,hx,rfl⟩:=List.mem_map.mp hy
  obtain⟨h1,h2⟩:=List.mem_filter.mp hx
  obtain⟨g1,g2⟩:=List.mem_filter.mp he
  have ee:=key_one hn h1 g1 e1
  have h2':x.2<0:=of_decide_eq_true h2
  have g2':0<e.2:=of_decide_eq_true g2
  rw[ee] at h2'
  exact lf [_] [] [.b (.v 0) (.c 0),.b (.c 0) (.v 0)] [1,1] rfl h2' g2'
 rw[ownZ,this];rfl
section
variable {defs:String→Option Fn}{anc:String→List String}{n:Nat}{Q:V→Hp→Prop}{X:String→Hp→Prop}{H:Hp}
structure Def11 (defs:String→Option Fn):Prop where
 d8:Def8 defs
 who:defs "_law_whole" = some f_law_whole
 own:defs "_law_own" = some f_law_own
 par:defs "_law_part" = some f_law_part
 pie:defs "_law_pieces" = some f_law_pieces
 pay:defs "_law_pays_back" = some f_law_pays_back
 goo:defs "_law_good" = some f_law_good
theorem good_spec (D:Def11 defs) {t u b c:Addr}{ps qs:PL}{tr:List (Addr×Row)}{price x:Int}{w:List Int} (T:T11 ps qs) (hs:worthL ps+worthL qs≤1500) (hr:InR price) (F:Found ps qs tr price x w)
  (ht:H t=some (.list (lv ps))) (hu:H u=some (.list (lv qs))) (hb:H b=some (.list (lv (payZ ps w)))) (hc:H c=some (.list (lv (backZ ps w)))) (hq:∀H',Ext H H'→Q (.bool true) H') :
  callN defs anc (n+7) "_law_good" [.ref t,.ref u,.int price,.tup [.ref b,.ref c],.int x] Q X H:=by
 have P:=T.pp
 have P':=T.ppq
 have hsr:=srt_lt T.srt P.nodup
 have PA:=pay_part P hsr F.way
 have PB:=back_part P hsr F.way
 obtain⟨s1,s2⟩:=pay_sums ps w
 obtain⟨m1,m2⟩:=pay_many ps w F.len
 obtain⟨r1,r2,r3⟩:=F.way.pos_range P P'
 have wpn:=woZ_pn ps w
 have fw:=F.wor
 have ff:=F.few
 have fpn:=fewZ_pn w
 have plen:(payZ ps w).length≤60:=Nat.le_trans (List.length_filter_le ..) (by rw[zl,List.length_map,List.length_zip];exact Nat.le_trans (Nat.min_le_left _ _) P.len)
 have blen:(backZ ps w).length≤60:=by rw[backZ,List.length_map];exact Nat.le_trans (List.length_filter_le ..) (by rw[zl,List.length_map,List.length_zip];exact Nat.le_trans (Nat.min_le_left _ _) P.len)
 refine call_of D.goo rfl ?_
 simp only[f_law_good]
 (simp only[List.map_cons,List.map_nil,List.length_cons,List.length_nil,Nat.reduceAdd,Nat.reduceSub,List.replicate,List.cons_append,List.nil_append,sf_ife,app_cons,app_nil,qE_bop,qB_more,qB_one,qE_cmp,asB_bool,qE_int,qE_bc,qEs_cons,qEs_nil,qE_var,gS,gZ,v_some,f_lenT,c_neI,true_and,qE_nt,qE_isi])
 refine⟨true,isi_tup,?_⟩
 refine iteP (by decide) (iteN (by decide) ?_)
 dsimp only[restW]
 (simp only[sf_asg,sS,sZ,qE_call,qEs_cons,qEs_nil,qE_var,gS,gZ,v_some,qE_idx,qE_int,i_tup0,true_and])
 refine part_spec D.who D.own D.par hb hu PA ?_
 dsimp only[restW]
 (simp only[sf_asg,sS,sZ,qE_call,qEs_cons,qEs_nil,qE_var,gZ,v_some,qE_idx,qE_int,gS,i_tup1,true_and])
 refine part_spec D.who D.own D.par hc ht PB ?_
 rw[s1,s2]
 dsimp only[restW]
 (simp only[sf_ife,app_cons,app_nil,qE_bop,qB_more,qB_one,qE_cmp,asB_bool,qE_var,gS,gZ,v_some,qE_bin,b_sub,c_neI,qE_int,c_lt,decide_eq_true_eq])
 refine or_if (fun z=>absurd z (by exact lf [_] [] [.l (.c 0) (.v 0),.b (.v 0) (.c 0)] [1,1] rfl r1)) fun ξ=>or_if (fun z=>absurd z (by exact lf [_] [] [.l (.c 0) (.v 0),.b (.v 0) (.c 0)] [1,1] rfl r3)) fun ξ=>?_
 rw[decide_eq_true (show posW ps w-negW ps w=price by exact lq [_,_,_,_] [] (.s (.v 0) (.v 1)) (.v 2) [.e (.v 3) (.s (.v 0) (.v 1)),.e (.v 3) (.v 2)] [1,1,-1] [1,-1,1] rfl wpn fw)]
 refine iteNf ?_
 dsimp only[restW]
 refine for_cons ⟨rfl,?_⟩
 (simp only[sr_ex,qE_idx,qE_int,qE_var,gS,gZ,v_some,i_tup0])
 refine src_of hb ?_
 rw[lvIt]
 refine forGo_map (I:=fun as ρ H'=>H'=H∧∃x7,ρ=[some (.ref t),some (.ref u),some (.int price),some (.tup [.ref b,.ref c]),some (.int x),some (.int (posW ps w)),some (.int (negW ps w)),x7]) ?_ ?_ ?_ ⟨rfl,none,rfl⟩
 ·rintro as ρ H' ⟨rfl,x7,rfl⟩;exact okH_one hb
 ·rintro ρ H' ⟨rfl,x7,rfl⟩
  dsimp only[restW]
  (simp only[sf_ife,app_cons,app_nil,qE_cmp,asB_bool,qE_var,gS,gZ,v_some,qE_bin,qE_call,qEs_cons,qEs_nil,qE_idx,qE_int,i_tup1,true_and,i_tup0])
  refine pieces_spec D.pie hb (by exact lA [] [_] (.n 0) (.c 1000) [.L (.n 0) (.c 60)] [1,1] rfl plen) fun H₁ E1=>?_
  refine pieces_spec D.pie (E1 _ _ hc) (by exact lA [] [_] (.n 0) (.c 1000) [.L (.n 0) (.c 60)] [1,1] rfl blen) fun H₂ E2=>?_
  (simp only[b_add,c_neI])
  rw[decide_eq_true (show manyL (payZ ps w)+manyL (backZ ps w)=x by exact lq [_,_,_,_,_,_] [] (.a (.v 0) (.v 1)) (.v 2) [.e (.v 0) (.v 3),.e (.v 1) (.v 4),.e (.v 5) (.v 2),.e (.v 5) (.a (.v 3) (.v 4))] [1,-1,-1,-1,1] [1,1,1,1,-1] rfl m1 m2 ff fpn)]
  refine iteNf ?_
  have E:=E1.trans E2
  dsimp only[restW]
  (simp only[s_ret,qE_call,qEs_cons,qEs_nil,qE_var,gS,gZ,v_some,true_and])
  exact pays_back_spec D.d8 D.pie D.pay T hs hr F (E _ _ ht) (E _ _ hb) (E _ _ hc) fun H' hE=>hq H' (E.trans hE)
 ·rintro as e bs ρ H' K he ⟨rfl,x7,rfl⟩ hK
  refine⟨_,rfl,?_⟩
  dsimp only[bodyW]
  (simp only[sS,sZ,sf_ife,app_cons,app_nil,qE_cmp,asB_bool,qE_int,qE_call,qEs_cons,qEs_nil,qE_idx,qE_var,gS,gZ,v_some,i_pv0,i_tup1,true_and])
  refine own_spec D.own hc ?_
  rw[show (lk e.1 (backZ ps w)).getD 0=0 from pay_back (qs:=qs) P (by rw[he];simp)]
  (simp only[c_gt,decide_eq_true_eq])
  refine iteN (by decide) ?_
  dsimp only[restW]
  (simp only[s_nil])
  exact hK _ _ ⟨rfl,_,rfl⟩
end
theorem DealR.ext {H H' H'':Hp}{ps qs:PL}{price:Int}{a:Addr} (R:DealR H H' ps qs price a) (E:Ext H' H''):DealR H H'' ps qs price a:=by
 cases R with
 | sum0 h e=>exact .sum0 h (E _ _ e)
 | kind h k e=>exact .kind h k (E _ _ e)
 | sum h k w e=>exact .sum h k w (E _ _ e)
 | change h k w tr T hn e=>exact .change h k w tr T hn (E _ _ e)
 | ok h k w tr x ww b c T hx hp hl nb nc nbc e eb ec=>exact .ok h k w tr x ww b c T hx hp hl nb nc nbc (E _ _ e) (E _ _ eb) (E _ _ ec)
theorem veqL2 {H:Hp}{h d t u t' u':Addr}{ps qs:PL} (hh:H h=some (.list [.ref t',.ref u'])) (hd:H d=some (.list [.ref t,.ref u])) (h1:H t'=some (.list (lv ps))) (h2:H u'=some (.list (lv qs))) (h3:H t=some (.list (lv ps))) (h4:H u=some (.list (lv qs))) :
  veq eqFuel H (.ref h) (.ref d)=some true:=by
 rw[show eqFuel=7+1 from rfl,veq_refL hh hd]
 show oand (veq 7 H (.ref t') (.ref t)) (oand (veq 7 H (.ref u') (.ref u)) (some true))=some true
 rw[show (7:Nat)=6+1 from rfl,veq_refL h1 h3,veq_refL h2 h4,show (6:Nat)=4+2 from rfl,allEq_lv,allEq_lv,decide_eq_true rfl,decide_eq_true rfl];rfl
theorem RT.same {ps qs:PL}{tr tk:List (Addr×Row)} (a:RT ps qs tr) (b:RT ps qs tk) (price:Int):lastC ps tr price=lastC ps tk price:=by
 unfold lastC;rw[RTab.one a b]
theorem RT.top {ps qs:PL}{tr:List (Addr×Row)}{price x:Int}{w:List Int} (P:PP ps) (P':PP qs) (T:RT ps qs tr) (hx:lastC ps tr price=some x) (hp:PickZ (tr.map (·.2)) ps qs (worthL ps) ps.length (price+worthL ps) x w):TopZ ps qs price w:=by
 have w1:=P.worth0
 have w2:=P'.worth0
 have e1:worthL ps=((worthL ps).toNat:Nat):=by exact lq [_] [_] (.v 0) (.t (.n 0)) [.e (.t (.n 0)) (.v 0),.l (.v 0) (.t (.n 0))] [1,1,0] [1,-1,0] rfl (tnE (a:=worthL ps) (w1)) (tn0 (a:=worthL ps))
 have e2:worthL qs=((worthL qs).toNat:Nat):=by exact lq [_] [_] (.v 0) (.t (.n 0)) [.e (.t (.n 0)) (.v 0),.l (.v 0) (.t (.n 0))] [1,1,0] [1,-1,0] rfl (tnE (a:=worthL qs) (w2)) (tn0 (a:=worthL qs))
 unfold lastC at hx
 rw[e1] at hp hx
 have:=PickZ.topZ T P P' e1 e2 hp hx
 rwa [show price+((worthL ps).toNat:Int)-((worthL ps).toNat:Int)=price by exact lq [_] [_] (.s (.a (.v 0) (.t (.n 0))) (.t (.n 0))) (.v 0) [] [1] [1] rfl] at this
section
variable {defs:String→Option Fn}{n:Nat}{Q:V→Hp→Prop}{X:String→Hp→Prop}{H Hd:Hp}
structure Def11W (defs:String→Option Fn):Prop extends Def11 defs where
 d12:Def12 defs
 sc:defs "scales" = some f_scales
 dl:Def10L defs
 mak:defs "_law_makes" = some f_law_makes
 exa:defs "_law_exact" = some f_law_exact_11
 dea:defs "_law_deal" = some f_law_deal
 wal:defs "_law_walks" = some f_law_walks
theorem walks_end (D:Def11W defs) {t u h t' u' f R b c:Addr}{ps qs:PL}{tr:List (Addr×Row)}{price x:Int}{ww:List Int} (T:T11 ps qs) (hs:worthL ps+worthL qs≤1500) (hr:InR price) (E:Ext Hd H)
  (ht:Hd t=some (.list (lv ps))) (hu:Hd u=some (.list (lv qs))) (hh:Hd h=some (.list [.ref t',.ref u'])) (ht':Hd t'=some (.list (lv ps))) (hu':Hd u'=some (.list (lv qs)))
  (tab:RT ps qs tr) (hx:lastC ps tr price=some x) (top:TopZ ps qs price ww) (hl:ww.length=ps.length) (hR:H R=some (.list (refs tr))) (I:InH H tr) (nb:Hd b=none) (nbc:b≠c)
  (e:H f=some (.list [.str (Str.ofString ""),.tup [.ref b,.ref c]])) (eb:H b=some (.list (lv (payZ ps ww)))) (ec:H c=some (.list (lv (backZ ps ww)))) (hq:∀H',Q (.bool true) H') :
  restW ⟨callN defs ancT (n+7),ancT⟩ false (f_law_walks.body.drop 6) (fun ξ H₁=>Q .none H₁) Q (fun c ξ H₁=>X c H₁) [some (.ref t),some (.ref u),some (.int price),some (.ref h),some (.ref f),some (.ref R),some (.int (worthL ps+price)),some (.int x),none,none] H:=by
 have P:=T.pp
 have P':=T.ppq
 have w1:=P.worth0
 have w2:=P'.worth0
 have plen:(payZ ps ww).length≤60:=Nat.le_trans (List.length_filter_le ..) (by rw[zl,List.length_map,List.length_zip];exact Nat.le_trans (Nat.min_le_left _ _) P.len)
 have blen:(backZ ps ww).length≤60:=by rw[backZ,List.length_map];exact Nat.le_trans (List.length_filter_le ..) (by rw[zl,List.length_map,List.length_zip];exact Nat.le_trans (Nat.min_le_left _ _) P.len)
 dsimp only[restW]
 simp only[f_law_walks,Sts.drop]
 (simp only[sf_asg,sS,sZ,qE_list,qEs_cons,qEs_nil,qE_bc,qE_idx,qE_int,qE_var,gS,gZ,v_some,true_and])
 refine i_pair1 e ?_
 (simp only[i_tup0])
 rw[f_list eb]
 refine⟨by rw[lv_length,lim_eq];exact lA [] [_] (.n 0) (.c 16777216) [.L (.n 0) (.c 60)] [1,1] rfl plen,fun kb hkb=>?_⟩
 have E1:=Ext.new (.list (lv (payZ ps ww))) hkb
 have gkb:=Hp.set_self H kb (.list (lv (payZ ps ww)))
 generalize H.set kb (.list (lv (payZ ps ww)))=H₁ at E1 gkb ⊢
 refine i_pair1 (E1 _ _ e) ?_
 (simp only[i_tup1])
 rw[f_list (E1 _ _ ec)]
 refine⟨by rw[lv_length,lim_eq];exact lA [] [_] (.n 0) (.c 16777216) [.L (.n 0) (.c 60)] [1,1] rfl blen,fun kc hkc=>?_⟩
 have E2:=Ext.new (.list (lv (backZ ps ww))) hkc
 have gkc:=Hp.set_self H₁ kc (.list (lv (backZ ps ww)))
 generalize H₁.set kc (.list (lv (backZ ps ww)))=H₂ at E2 gkc ⊢
 (simp only[])
 refine⟨Nat.le_of_ble_eq_true rfl,fun k hk=>?_⟩
 have E3:=Ext.new (.list [V.ref kb,V.ref kc]) hk
 have gk:=Hp.set_self H₂ k (.list [V.ref kb,V.ref kc])
 generalize H₂.set k (.list [V.ref kb,V.ref kc])=H₃ at E3 gk ⊢
 have E03:=(E1.trans E2).trans E3
 have gkb:=E3 _ _ (E2 _ _ gkb)
 have gkc:=E3 _ _ gkc
 have n1:kb≠b:=Ne.symm (ne_new eb hkb)
 have n2:kc≠b:=Ne.symm (ne_new (E1 _ _ eb) hkc)
 have n3:k≠b:=Ne.symm (ne_new ((E1.trans E2) _ _ eb) hk)
 have EH:=E.trans E03
 dsimp only[restW]
 (simp only[sf_ife,app_cons,app_nil,qE_cmp,asB_bool,qE_call,qEs_cons,qEs_nil,qE_var,gS,gZ,v_some,true_and])
 have hx':cellZ (rowAt (tr.map (·.2)) ps.length) (worthL ps+price)=some x:=by rw[Int.add_comm];exact hx
 refine exact11_spec D.dl D.mak D.exa P P' hs (EH _ _ ht) (EH _ _ hu) tab (E03 _ _ hR) (fun y hy=>E03 _ _ (I y hy)) hx' fun w' a F G H₄ E4 hp4 hl4 ea eF eG=>?_
 rw[Int.add_comm] at hp4
 have ew:w'=ww:=top.one (RT.top P P' tab hx hp4)
 subst ew
 rw[c_neOf (veqL2 (E4 _ _ gk) ea (E4 _ _ gkb) (E4 _ _ gkc) eF eG)]
 refine iteNf ?_
 have E04:=E03.trans E4
 have EH4:=EH.trans E4
 dsimp only[restW]
 (simp only[sf_ex,qE_call,qEs_cons,qEs_nil,qE_bin,qE_int,qE_var,gS,gZ,v_some,b_fdiv,qE_idx,true_and])
 refine i_pair0 (EH4 _ _ hh) (i_pair1 (EH4 _ _ hh) ?_)
 skip
 refine⟨by decide,?_⟩
 refine deal11_spec D.d12 D.dea P P' (EH4 _ _ ht') (EH4 _ _ hu') fun g H₅ E5 ξ ξ=>?_
 have E05:=E04.trans E5
 have EH5:=EH4.trans E5
 have E35:=E4.trans E5
 dsimp only[restW]
 (simp only[sf_ife,app_cons,app_nil,qE_cmp,asB_bool,qE_var,gS,gZ,v_some,qE_list,qEs_cons,qEs_nil,qE_idx,qE_int])
 refine i_pair1 (E05 _ _ e) ?_
 (simp only[i_tup0])
 refine i_pair1 (E05 _ _ e) ?_
 (simp only[i_tup1])
 refine⟨Nat.le_of_ble_eq_true rfl,fun m hm=>?_⟩
 have E6:=Ext.new (.list [V.ref b,V.ref c]) hm
 dsimp only
 rw[c_neOf (veqL2 (Hp.set_self _ _ _) (E6 _ _ (E35 _ _ gk)) (E6 _ _ (E05 _ _ eb)) (E6 _ _ (E05 _ _ ec)) (E6 _ _ (E35 _ _ gkb)) (E6 _ _ (E35 _ _ gkc)))]
 refine iteNf ?_
 have E06:=E05.trans E6
 have EH6:=EH5.trans E6
 have E36:=E35.trans E6
 generalize H₅.set m (.list [V.ref b,V.ref c])=H₆ at E06 EH6 E36 ⊢
 dsimp only[restW]
 (simp only[sf_ex,qE_mt,qEs_cons,qEs_nil,qE_tup,List.length_cons,List.length_nil,Nat.reduceAdd,qE_int,qE_idx,qE_var,gS,gZ,v_some])
 refine i_pair1 (E06 _ _ e) ?_
 (simp only[i_tup0])
 rw[r_L (E06 _ _ eb)]
 refine⟨⟨by decide,by decide⟩,by decide,?_⟩
 rw[m_append (E06 _ _ eb)]
 refine⟨by rw[lv_length,lim_eq];exact lB [] [_] (.n 0) (.c 16777216) [.L (.n 0) (.c 60)] [1,1] rfl plen,?_⟩
 have kp:∀a o,a≠b→H₆ a=some o→(H₆.set b (.list (lv (payZ ps w')++[V.tup [V.int 7,V.int 7]]))) a=some o:=fun a o hn h=>by rw[Hp.set_ne _ hn];exact h
 have kh:=kp _ _ (ne_new hh nb) (EH6 _ _ hh)
 have kt:=kp _ _ (ne_new ht' nb) (EH6 _ _ ht')
 have ku:=kp _ _ (ne_new hu' nb) (EH6 _ _ hu')
 have kk:=kp _ _ n3 (E36 _ _ gk)
 have kkb:=kp _ _ n1 (E36 _ _ gkb)
 have kkc:=kp _ _ n2 (E36 _ _ gkc)
 generalize H₆.set b (.list (lv (payZ ps w')++[V.tup [V.int 7,V.int 7]]))=H₇ at kh kt ku kk kkb kkc ⊢
 dsimp only[restW]
 (simp only[sf_asg,sS,sZ,qE_call,qEs_cons,qEs_nil,qE_var,gS,gZ,v_some,qE_idx,qE_int,true_and])
 refine i_pair0 kh (i_pair1 kh ?_)
 refine deal_spec D.d12 P P' kt ku (fun z=>absurd hr z) (fun ξ z=>absurd T.kinds z) (fun ξ ξ z=>absurd hs (by exact lf [_,_] [] [.b (.c 1500) (.a (.v 0) (.v 1)),.l (.a (.v 0) (.v 1)) (.c 1500)] [1,1] rfl z)) (fun ξ ξ ξ tr' H₈ T' ξ hn=>?_) fun ξ ξ ξ tr' x' v b' c' H₈ T' E8 hx8 hp8 ξ ξ ξ ξ eb' ec'=>?_
 ·have:=RT.same T' tab price
  rw[hx] at this
  exact absurd (hn.symm.trans this) nofun
 ·have ev:v=w':=top.one (RT.top P P' T' hx8 hp8)
  subst ev
  dsimp only[restW]
  (simp only[s_ret,qE_cmp,qE_var,gS,gZ,v_some,qE_list,qEs_cons,qEs_nil,qE_idx,qE_int,i_tup1,i_tup0])
  refine⟨Nat.le_of_ble_eq_true rfl,fun m2 hm2=>?_⟩
  have E9:=Ext.new (.list [V.ref b',V.ref c']) hm2
  dsimp only
  rw[c_eqOf (veqL2 (Hp.set_self _ _ _) (E9 _ _ (E8 _ _ kk)) (E9 _ _ eb') (E9 _ _ ec') (E9 _ _ (E8 _ _ kkb)) (E9 _ _ (E8 _ _ kkc)))]
  exact hq _
end
section
variable {defs:String→Option Fn}{n:Nat}{Q:V→Hp→Prop}{X:String→Hp→Prop}{H Hd:Hp}
theorem walks_spec (D:Def11W defs) {t u h t' u' f:Addr}{ps qs:PL}{price:Int} (T:T11 ps qs) (hs:worthL ps+worthL qs≤1500) (hr:InR price) (E:Ext Hd H)
  (ht:Hd t=some (.list (lv ps))) (hu:Hd u=some (.list (lv qs))) (hh:Hd h=some (.list [.ref t',.ref u'])) (ht':Hd t'=some (.list (lv ps))) (hu':Hd u'=some (.list (lv qs)))
  (R:DealR Hd H ps qs price f) (hq:∀H',Q (.bool true) H') :
  callN defs ancT (n+8) "_law_walks" [.ref t,.ref u,.int price,.ref h,.ref f] Q X H:=by
 have P:=T.pp
 have P':=T.ppq
 have hl:=P.len
 have hl':=P'.len
 have w1:=P.worth0
 have w2:=P'.worth0
 obtain⟨r0,r1⟩:=hr
 refine call_of D.wal rfl ?_
 simp only[f_law_walks]
 (simp only[List.map_cons,List.map_nil,List.length_cons,List.length_nil,Nat.reduceAdd,Nat.reduceSub,List.replicate,List.cons_append,List.nil_append,sf_asg,sS,sZ,qE_call,qEs_cons,qEs_nil,qE_bc,qE_var,gS,gZ,v_some,true_and])
 rw[f_list (E _ _ ht)]
 refine⟨by rw[lv_length,lim_eq];exact lA [] [_] (.n 0) (.c 16777216) [.L (.n 0) (.c 60)] [1,1] rfl hl,fun a1 h1=>?_⟩
 have E1:=Ext.new (.list (lv ps)) h1
 have g1:=Hp.set_self H a1 (.list (lv ps))
 generalize H.set a1 (.list (lv ps))=H₁ at E1 g1 ⊢
 dsimp only
 rw[f_list (E1 _ _ (E _ _ hu))]
 refine⟨by rw[lv_length,lim_eq];exact lA [] [_] (.n 0) (.c 16777216) [.L (.n 0) (.c 60)] [1,1] rfl hl',fun a2 h2=>?_⟩
 have E2:=Ext.new (.list (lv qs)) h2
 have g2:=Hp.set_self H₁ a2 (.list (lv qs))
 generalize H₁.set a2 (.list (lv qs))=H₂ at E2 g2 ⊢
 (simp only[])
 refine scales_is ⟨D.d12.toDef10R,D.sc⟩ P P' (E2 _ _ g1) g2 (fun k=>absurd T.kinds k) (fun ξ w=>by omega) fun ξ ξ tr R' H₃ tab A=>?_
 have hlen:=tab.len
 have hrl:tr.length≤1001:=by exact lA [] [_,_] (.n 0) (.c 1001) [.L (.n 1) (.c 60),.E (.n 0) (.a (.n 1) (.c 1))] [1,1,1] rfl hl hlen
 have rl:∀x∈tr,x.2.length≤2001:=fun x hx=>by rw[tab.rows x hx];exact lA [_,_] [_,_] (.a (.a (.n 0) (.n 1)) (.c 1)) (.c 2001) [.l (.a (.v 0) (.v 1)) (.c 1500),.e (.t (.n 0)) (.v 0),.e (.t (.n 1)) (.v 1)] [1,1,1,1] rfl hs (tnE (a:=worthL ps) (w1)) (tnE (a:=worthL qs) (w2))
 have E03:=(E1.trans E2).trans A.ext
 have EH3:=E.trans E03
 dsimp only[restW]
 (simp only[sf_ife,app_cons,app_nil,qE_nt,asB_bool,qE_call,qEs_cons,qEs_nil,qE_var,gS,gZ,v_some,true_and])
 refine scaled_spec D.dl P P' (EH3 _ _ ht) (EH3 _ _ hu) hs tab A.at_ A.inh fun H₄ E4=>?_
 (simp only[asB_bool])
 refine iteNf ?_
 have E04:=E03.trans E4
 have EH4:=EH3.trans E4
 have hR4:=E4 _ _ A.at_
 have I4:InH H₄ tr:=fun x hx=>E4 _ _ (A.inh x hx)
 have R4:=R.ext E04
 obtain⟨r,gr⟩:=get_of_lt (l:=tr) (k:=ps.length) (by exact lB [] [_,_] (.n 0) (.n 1) [.E (.n 1) (.a (.n 0) (.c 1))] [1,-1] rfl hlen)
 obtain⟨z,gz⟩:=get_of_lt (l:=tr) (k:=0) (by exact lB [] [_,_] (.c 0) (.n 0) [.E (.n 0) (.a (.n 1) (.c 1))] [1,-1] rfl hlen)
 have er:rowAt (tr.map (·.2)) ps.length=r.2:=by rw[rowAt,List.getElem?_map,gr];rfl
 have lr:=tab.rows r (List.mem_of_getElem? gr)
 have lz:=tab.rows z (List.mem_of_getElem? gz)
 obtain⟨a,ea⟩:∃a:Nat,worthL ps+price=a:=⟨(worthL ps+price).toNat,by exact lq [_,_] [_] (.a (.v 0) (.v 1)) (.t (.n 0)) [.e (.t (.n 0)) (.a (.v 0) (.v 1)),.l (.a (.v 0) (.v 1)) (.t (.n 0))] [1,1,0] [1,-1,0] rfl (tnE (a:=worthL ps+price) (la [_,_] [] (.c 0) (.a (.v 0) (.v 1)) [.l (.c 0) (.v 0),.l (.c 0) (.v 1)] [1,1,1] rfl w1 r0)) (tn0 (a:=worthL ps+price))⟩
 dsimp only[restW]
 (simp only[sf_asg,sS,sZ,qE_bin,qE_var,gS,gZ,v_some,qE_call,qEs_cons,qEs_nil,true_and])
 refine total_spec D.dl.tot (EH4 _ _ ht) P.val ?_
 (simp only[b_add])
 have chg:lastC ps tr price=none→∀(S:Sts) (K:Loc→Hp→Prop),restW ⟨callN defs ancT (n+7),ancT⟩ false (.cons (.ret (.cmp .eq (.idx (.var 4) (.int 0)) (.str "change"))) S) K Q (fun c ξ H₁=>X c H₁) [some (.ref t),some (.ref u),some (.int price),some (.ref h),some (.ref f),some (.ref R'),some (.int (worthL ps+price)),none,none,none] H₄:=fun hn S K=>by
  dsimp only[restW]
  (simp only[s_ret,qE_cmp,qE_str,qE_idx,qE_int,qE_var,gS,gZ,v_some])
  cases R4 with
  | sum0 h e=>exact absurd ⟨r0,r1⟩ h
  | kind h k e=>exact absurd T.kinds k
  | sum h k w e=>omega
  | ok h k w tr' x ww b c T' hx hp hl nb nc nbc e eb ec=>rw[RT.same T' tab,hn] at hx;cases hx
  | change h k w tr' T' hn' e =>
   refine i_pair0 e ?_
   (simp only[c_eqS])
   exact hq _
 have el:lastC ps tr price=cellZ r.2 (a:Int):=by unfold lastC;rw[er,Int.add_comm,ea]
 dsimp only[restW]
 (simp only[sf_ife,app_cons,app_nil,qE_bop,qB_more,qB_one,qE_cmp,asB_bool,qE_none,qE_idx,qE_var,gS,gZ,v_some,qE_bc,qEs_cons,qEs_nil,true_and,qE_int])
 refine i_refs (i:=0) hR4 gz hrl ?_
 rw[f_lenL (I4 _ (List.mem_of_getElem? gz)),lo_length]
 (simp only[c_ge,decide_eq_true_eq])
 refine or_if (fun c1=>chg (by rw[el,cellZ,if_pos (Int.natCast_nonneg a),Int.toNat_natCast,List.getElem?_eq_none (by exact lA [_,_] [_,_,_,_,_] (.n 0) (.n 1) [.E (.n 0) (.a (.a (.n 2) (.n 3)) (.c 1)),.E (.n 4) (.a (.a (.n 2) (.n 3)) (.c 1)),.e (.a (.v 0) (.v 1)) (.t (.n 1)),.l (.t (.n 4)) (.a (.v 0) (.v 1))] [1,1,-1,1,1] rfl lr lz ea c1)];rfl) _ _) fun c1=>?_
 obtain⟨v,gv⟩:=get_of_lt (l:=r.2) (k:=a) (by exact lB [_,_] [_,_,_,_,_] (.n 0) (.n 1) [.E (.n 1) (.a (.a (.n 2) (.n 3)) (.c 1)),.E (.n 4) (.a (.a (.n 2) (.n 3)) (.c 1)),.e (.a (.v 0) (.v 1)) (.t (.n 0)),.b (.a (.v 0) (.v 1)) (.t (.n 4))] [1,-1,1,-1,1] rfl lr lz ea (Int.not_le.mp c1))
 have el':lastC ps tr price=v:=by rw[el];exact cellZ_nat gv
 have cel:∀Q':V→Hp→Prop,Q' (ov v) H₄→wbc .len [.ref t] (fun v_1 H₁=>widx (.ref R') v_1 (fun w H₂=>widx w (.int (worthL ps+price)) Q' H₂) H₁) H₄:=fun Q' h=>by
  rw[f_lenL (EH4 _ _ ht),lv_length]
  refine i_refs hR4 gr hrl ?_
  rw[ea]
  exact i_loB (I4 _ (List.mem_of_getElem? gr)) gv (rl _ (List.mem_of_getElem? gr)) h
 refine cel _ ?_
 cases v with
 | none =>
  show wcmp .is .none .none _ _
  (simp only[c_isNN])
  exact chg el' _ _
 | some x =>
  show wcmp .is (.int x) .none _ _
  (simp only[c_isIN])
  dsimp only[restW]
  (simp only[s_ret,qE_cmp,qE_str,qE_idx,qE_int,qE_var,gS,gZ,v_some,sf_asg,sS,sZ,qE_bc,qEs_cons,qEs_nil,true_and])
  refine cel _ ?_
  show restW _ _ _ _ _ _ _ _
  cases R4 with
  | sum0 h e=>exact absurd ⟨r0,r1⟩ h
  | kind h k e=>exact absurd T.kinds k
  | sum h k w e=>omega
  | change h k w tr' T' hn' e=>rw[RT.same T' tab,el'] at hn';cases hn'
  | ok h k w tr' y ww b c T' hy hp hlw nb nc nbc e eb ec =>
   have exy:y=x:=by rw[RT.same T' tab,el'] at hy;injection hy with hy;exact hy.symm
   subst exy
   have F:=Found.of P P' T' hy hp hlw
   dsimp only[restW]
   (simp only[sf_ife,app_cons,app_nil,qE_bop,qB_more,qB_one,qE_nt,asB_bool,qE_call,qEs_cons,qEs_nil,qE_var,gS,gZ,v_some,qE_idx,qE_int,true_and,qE_cmp,qE_str])
   refine i_pair0 e ?_
   (simp only[c_neS])
   refine i_pair1 e ?_
   refine good_spec D.toDef11 T hs ⟨r0,r1⟩ F (EH4 _ _ ht) (EH4 _ _ hu) eb ec fun H₅ E5=>?_
   (simp only[asB_bool])
   refine iteNf ?_
   exact walks_end D T hs ⟨r0,r1⟩ (EH4.trans E5) ht hu hh ht' hu' tab el' (RT.top P P' T' hy hp) hlw (E5 _ _ hR4) (fun x hx=>E5 _ _ (I4 x hx)) nb nbc (E5 _ _ e) (E5 _ _ eb) (E5 _ _ ec) hq
end
theorem DealR.word {Hd H':Hp}{ps qs:PL}{price:Int}{f:Addr} (R:DealR Hd H' ps qs price f):∃s y,H' f=some (.list [.str (Str.ofString s),y])∧(¬InR price→s = "sum")∧(InR price→¬Kinds ps qs→s = "kind")∧(InR price→Kinds ps qs→1500<worthL ps+worthL qs→s = "sum") ∧
  ∀b:Bool,(b=true→Bad ps qs price)→(b=false→InR price∧Kinds ps qs∧worthL ps+worthL qs≤1500∧∃tr x,RT ps qs tr∧lastC ps tr price=some x)→(!decide (Str.ofString s=Str.ofString ""))=b:=by
 cases R with
 | sum0 h e=>exact⟨_,_,e,fun ξ=>rfl,fun z=>absurd z h,fun z=>absurd z h,fun b ξ h2=>by cases b;exact absurd (h2 rfl).1 h;decide⟩
 | kind h k e=>exact⟨_,_,e,fun z=>absurd h z,fun ξ ξ=>rfl,fun ξ z=>absurd z k,fun b ξ h2=>by cases b;exact absurd (h2 rfl).2.1 k;decide⟩
 | sum h k w e=>exact⟨_,_,e,fun z=>absurd h z,fun ξ z=>absurd k z,fun ξ ξ ξ=>rfl,fun b ξ h2=>by cases b;have:=(h2 rfl).2.2.1;omega;decide⟩
 | change h k w tr T hn e =>
  refine⟨_,_,e,fun z=>absurd h z,fun ξ z=>absurd k z,fun ξ ξ z=>by omega,fun b ξ h2=>?_⟩
  cases b
  ·obtain⟨tr',x,T',hx⟩:=(h2 rfl).2.2.2
   rw[RT.same T' T,hn] at hx;cases hx
  ·decide
 | ok h k w tr x ww b c T hx hp hl nb nc nbc e eb ec =>
  refine⟨_,_,e,fun z=>absurd h z,fun ξ z=>absurd k z,fun ξ ξ z=>by omega,fun b h1 ξ=>?_⟩
  cases b
  ·decide
  ·rcases h1 rfl with z | z | z | ⟨tr',T',hn⟩
   ·exact absurd h z
   ·exact absurd k z
   ·omega
   ·rw[RT.same T' T,hx] at hn;cases hn
section
variable {Q:V→Hp→Prop}{X:String→Hp→Prop}{H:Hp}
theorem d12_11:Def12 defs11:=by constructor <;> first | rfl | (constructor <;> rfl)
theorem d11w:Def11W defs11 where
 d8:=by constructor <;> first | rfl | (constructor <;> first | rfl | (constructor <;> rfl))
 who:=rfl
 own:=rfl
 par:=rfl
 pie:=rfl
 pay:=rfl
 goo:=rfl
 d12:=d12_11
 sc:=rfl
 dl:=⟨rfl,rfl,rfl,rfl,rfl,rfl⟩
 mak:=rfl
 exa:=rfl
 dea:=rfl
 wal:=rfl
theorem law11_end {n:Nat}{xs:List Int} (hq:∀H',Q (.bool true) H') {dr t u:Addr}{c price:Int}{x6:Option V}{b:Bool}{ps qs:PL} (P:PP ps) (P':PP qs) (hb1:b=true→¬Kinds ps qs) (hb0:b=false→T11 ps qs) (ht:H t=some (.list (lv ps))) (hu:H u=some (.list (lv qs))) :
  restW ⟨callN defs11 ancT (n+8),ancT⟩ false (f_law_11.body.drop 10) (fun ξ H₁=>Q .none H₁) Q (fun c ξ H₁=>X c H₁) [some (.ro xs),some (.ref dr),some (.ref t),some (.ref u),some (.int c),some (.int price),x6,some (.bool b),none,none,none] H:=by
 have h5:defs11 "_law_any" = some f_law_any_11:=rfl
 have hl:=P.len
 have hl':=P'.len
 dsimp only[restW]
 simp only[f_law_11,Sts.drop]
 (simp only[sf_asg,sS,sZ,qE_list,qEs_cons,qEs_nil,qE_bc,qE_var,gS,gZ,v_some,true_and])
 rw[f_list ht]
 refine⟨by rw[lv_length,lim_eq];exact lA [] [_] (.n 0) (.c 16777216) [.L (.n 0) (.c 60)] [1,1] rfl hl,fun t' h1=>?_⟩
 have E1:=Ext.new (.list (lv ps)) h1
 have g1:=Hp.set_self H t' (.list (lv ps))
 generalize H.set t' (.list (lv ps))=H₁ at E1 g1 ⊢
 dsimp only
 rw[f_list (E1 _ _ hu)]
 refine⟨by rw[lv_length,lim_eq];exact lA [] [_] (.n 0) (.c 16777216) [.L (.n 0) (.c 60)] [1,1] rfl hl',fun u' h2=>?_⟩
 have E2:=Ext.new (.list (lv qs)) h2
 have g2:=Hp.set_self H₁ u' (.list (lv qs))
 generalize H₁.set u' (.list (lv qs))=H₂ at E2 g2 ⊢
 refine⟨Nat.le_of_ble_eq_true rfl,fun h h3=>?_⟩
 have E3:=Ext.new (.list [V.ref t',V.ref u']) h3
 have g3:=Hp.set_self H₂ h (.list [V.ref t',V.ref u'])
 generalize H₂.set h (.list [V.ref t',V.ref u'])=H₃ at E3 g3 ⊢
 have kt:=((E1.trans E2).trans E3) _ _ ht
 have ku:=((E1.trans E2).trans E3) _ _ hu
 have kt':=(E2.trans E3) _ _ g1
 have ku':=E3 _ _ g2
 dsimp only[restW]
 (simp only[sf_asg,sS,sZ,qE_call,qEs_cons,qEs_nil,qE_var,gS,gZ,v_some,qE_idx,qE_int,true_and])
 refine i_pair0 g3 ?_
 refine i_pair1 g3 ?_
 refine deal11_spec d12_11 rfl P P' kt' ku' fun f H₄ E4 nf R=>?_
 dsimp only[restW]
 (simp only[sf_ife,app_cons,app_nil,qE_bop,qB_more,qB_one,qE_cmp,asB_bool,qE_str,qE_idx,qE_int,qE_var,gS,gZ,v_some,qE_call,qEs_cons,qEs_nil,true_and,qE_list])
 refine⟨Nat.le_of_ble_eq_true rfl,fun m hm=>?_⟩
 have E5:=Ext.new (.list [V.ref t,V.ref u]) hm
 have g5:=Hp.set_self H₄ m (.list [V.ref t,V.ref u])
 generalize H₄.set m (.list [V.ref t,V.ref u])=H₅ at E5 g5 ⊢
 have E35:=E4.trans E5
 dsimp only
 rw[c_neOf (veqL2 (E35 _ _ g3) g5 (E35 _ _ kt') (E35 _ _ ku') (E35 _ _ kt) (E35 _ _ ku))]
 refine iteNt ?_
 refine i_pair0 (E35 _ _ g3) ?_
 refine i_pair1 (E35 _ _ g3) ?_
 refine any11_spec d12_11 h5 P P' (E35 _ _ kt') (E35 _ _ ku') fun b2 H₆ E6 hb hg=>?_
 have E36:=E35.trans E6
 have R6:=(R.ext E5).ext E6
 obtain⟨s,y,es,s1,s2,s3,s4⟩:=R6.word
 refine i_pair0 es ?_
 (simp only[c_neB,c_neS])
 rw[s4 b2 hb hg]
 refine iteN (by cases b2 <;> decide) ?_
 have H6t:=E36 _ _ kt
 have H6u:=E36 _ _ ku
 have word:∀w:String,s=w→∀(S:Sts) (K:Loc→Hp→Prop),restW ⟨callN defs11 ancT (n+8),ancT⟩ false (.cons (.ret (.cmp .eq (.idx (.var 9) (.int 0)) (.str w))) S) K Q (fun c ξ H₁=>X c H₁) [some (.ro xs),some (.ref dr),some (.ref t),some (.ref u),some (.int c),some (.int price),x6,some (.bool b),some (.ref h),some (.ref f),none] H₆:=fun w e S K=>by
  subst e
  dsimp only[restW]
  (simp only[s_ret,qE_cmp,qE_str,qE_idx,qE_int,qE_var,gS,gZ,v_some])
  refine i_pair0 es ?_
  (simp only[c_eqS])
  exact hq _
 dsimp only[restW]
 (simp only[sf_ife,app_cons,app_nil,qE_bop,qB_more,qB_one,qE_cmp,asB_bool,qE_int,qE_var,gS,gZ,v_some,c_gt,decide_eq_true_eq,c_lt])
 refine or_if (fun z=>word _ (s1 fun i=>by have:=i.1;exact lf [_] [] [.b (.v 0) (.c 0),.l (.c 0) (.v 0)] [1,1] rfl z this) _ _) fun z1=>?_
 refine ite_all (fun z=>word _ (s1 fun i=>by have:=i.2;exact lf [_] [] [.b (.c 1000) (.v 0),.l (.v 0) (.c 1000)] [1,1] rfl z this) _ _) fun z2=>?_
 have ir:InR price:=⟨by exact (Int.not_lt.mp z1),by exact (Int.not_lt.mp z2)⟩
 dsimp only[restW]
 (simp only[sf_ife,app_cons,app_nil,qE_var,gS,gZ,v_some,asB_bool])
 cases b with
 | true=>exact iteT (word _ (s2 ir (hb1 rfl)) _ _)
 | false =>
  have T:=hb0 rfl
  refine iteF ?_
  dsimp only[restW]
  (simp only[sf_ife,app_cons,app_nil,qE_cmp,asB_bool,qE_int,qE_bin,qE_call,qEs_cons,qEs_nil,qE_var,gS,gZ,v_some,true_and])
  refine total_spec rfl H6t P.val ?_
  refine total_spec rfl H6u P'.val ?_
  (simp only[b_add,c_gt,decide_eq_true_eq])
  refine ite_all (fun z=>word _ (s3 ir T.kinds (by exact z)) _ _) fun z3=>?_
  dsimp only[restW]
  (simp only[s_ret,qE_call,qEs_cons,qEs_nil,qE_var,gS,gZ,v_some,true_and])
  exact walks_spec d11w T (by exact (Int.not_lt.mp z3)) ir E36 kt ku g3 kt' ku' R6 hq
theorem law11_mid {n:Nat}{xs:List Int} (hq:∀H',Q (.bool true) H') {dr t u:Addr}{c:Int}{ps qs:PL} (T:T11 ps qs) (ht:H t=some (.list (lv ps))) (hu:H u=some (.list (lv qs))) :
  restW ⟨callN defs11 ancT (n+8),ancT⟩ false (f_law_11.body.drop 5) (fun ξ H₁=>Q .none H₁) Q (fun c ξ H₁=>X c H₁) [some (.ro xs),some (.ref dr),some (.ref t),some (.ref u),some (.int c),none,none,none,none,none,none] H:=by
 have h1:defs11 "_law_mixed" = some f_law_mixed:=rfl
 have h2:defs11 "_law_price" = some f_law_price:=rfl
 have h4:defs11 "_law_cell_at" = some f_law_cell_at:=rfl
 have P:=T.pp
 have P':=T.ppq
 have hl:=P.len
 have hl':=P'.len
 have fin8:∀d x6 H₁,Ext H H₁→restW ⟨callN defs11 ancT (n+8),ancT⟩ false (f_law_11.body.drop 8) (fun ξ H₁=>Q .none H₁) Q (fun c ξ H₁=>X c H₁) [some (.ro xs),some (.ref dr),some (.ref t),some (.ref u),some (.int c),some (.int d),x6,none,none,none,none] H₁:=fun d x6 H₁ E1=>by
  have kt:=E1 _ _ ht
  have ku:=E1 _ _ hu
  dsimp only[restW]
  simp only[f_law_11,Sts.drop]
  (simp only[sf_asg,sS,sZ,qE_bop,qB_more,qB_one,qE_cmp,qE_comp,qE_idx,qE_int,qE_var,sr_ex,gS,gZ,v_some,true_and,asB_bool,qE_bin,b_mod,c_eqI,decide_eq_true_eq])
  refine⟨by decide,ite_all (fun b1=>?_) fun b1=>?_⟩
  ·refine comp_keys kt (by exact lA [] [_] (.n 0) (.c 1000) [.L (.n 0) (.c 60)] [1,1] rfl hl) (Nat.le_of_ble_eq_true rfl) fun a ha=>?_
   have E2:=Ext.new (.list ((ps.map (·.1)).map V.int)) ha
   have ga:=Hp.set_self H₁ a (.list ((ps.map (·.1)).map V.int))
   generalize H₁.set a (.list ((ps.map (·.1)).map V.int))=H₂ at E2 ga ⊢
   rw[c_notInI ga]
   by_cases b2:(1000:Int)∈ps.map (·.1)
   ·rw[decide_eq_true b2]
    dsimp only[restW]
    (simp only[sf_ife,app_cons,app_nil,qE_var,gS,gZ,v_some,asB_bool])
    refine iteN (by decide) ?_
    exact law11_end hq P P' nofun (fun ξ=>T) (E2 _ _ kt) (E2 _ _ ku)
   ·rw[decide_eq_false b2]
    dsimp only[restW]
    (simp only[sf_ife,app_cons,app_nil,qE_var,gS,gZ,v_some,asB_bool])
    refine iteP (by decide) ?_
    have b2q:(1000:Int)∉qs.map (·.1):=fun z=>by obtain⟨y,hy,e⟩:=List.mem_map.mp z;exact b2 (e▸T.kinds y hy)
    dsimp only[restW]
    (simp only[sf_asg,sS,sZ,qE_bin,qE_list,qEs_cons,qEs_nil,qE_tup,List.length_cons,List.length_nil,Nat.reduceAdd,qE_int,qE_var,gS,gZ,v_some,b_fdiv,b_mod])
    refine⟨⟨by decide,by decide⟩,by decide,Nat.le_of_ble_eq_true rfl,Nat.le_of_ble_eq_true rfl,fun e he=>⟨_,_,Ext.new _ he _ _ (E2 _ _ ku),Hp.set_self _ _ _,?_⟩⟩
    have elq:lv qs++[V.tup [V.int 1000,V.int (c / 16 % 3)]]=lv (qs++[(1000,c / 16 % 3)]):=by rw[lv_append];rfl
    rw[elq]
    have em0:=Int.emod_nonneg (c / 16) (show (3:Int)≠0 by decide)
    have em1:=Int.emod_lt_of_pos (c / 16) (show (0:Int)<3 by decide)
    have PQ:=P'.snoc (u:=1000) (c:=c / 16 % 3) (by have:=T.lenq;exact lA [] [_] (.n 0) (.c 50) [.L (.n 0) (.c 20)] [1,1] rfl this) b2q (by decide) (by decide) em0 (by exact la [_] [] (.v 0) (.c 1000000000) [.b (.v 0) (.c 3)] [1,1] rfl em1)
    refine⟨by rw[lv_length,lim_eq,List.length_append];have:=T.lenq;simp;exact lA [] [_] (.n 0) (.c 16777215) [.L (.n 0) (.c 60)] [1,1] rfl hl',fun g hg=>?_⟩
    have E3:=(E2.trans (Ext.new (.list [V.tup [V.int 1000,V.int (c / 16 % 3)]]) he)).trans (Ext.new (.list (lv (qs++[(1000,c / 16 % 3)]))) hg)
    exact law11_end hq P PQ (fun ξ k=>b2 (k (1000,c / 16 % 3) (List.mem_append_right _ (.head _)))) nofun (E3 _ _ kt) (Hp.set_self _ _ _)
  ·rw[decide_eq_false b1]
   dsimp only[restW]
   (simp only[sf_ife,app_cons,app_nil,qE_var,gS,gZ,v_some,asB_bool])
   refine iteN (by decide) ?_
   exact law11_end hq P P' nofun (fun ξ=>T) kt ku
 have fin7:∀d H₁,Ext H H₁→restW ⟨callN defs11 ancT (n+8),ancT⟩ false (f_law_11.body.drop 7) (fun ξ H₁=>Q .none H₁) Q (fun c ξ H₁=>X c H₁) [some (.ro xs),some (.ref dr),some (.ref t),some (.ref u),some (.int c),some (.int d),none,none,none,none,none] H₁:=fun d H₁ E1=>by
  have far:restW ⟨callN defs11 ancT (n+8),ancT⟩ false (.cons (.asg 6 (.bin .mod (.bin .fdiv (.var 4) (.int 64)) (.bin .pow (.int 10) (.int 9))))
   (.cons (.asg 5 (.idx (.list (.cons (.neg (.int 1)) (.cons (.int 1001) (.cons (.bin .sub (.neg (.int 2)) (.var 6)) (.cons (.bin .add (.int 1002) (.var 6)) .nil))))) (.bin .mod (.bin .fdiv (.var 4) (.int 16)) (.int 4)))) (f_law_11.body.drop 8))) (fun ξ H₁=>Q .none H₁) Q (fun c ξ H₁=>X c H₁) [some (.ro xs),some (.ref dr),some (.ref t),some (.ref u),some (.int c),some (.int d),none,none,none,none,none] H₁:=by
   dsimp only[restW]
   (simp only[sf_asg,sS,sZ,qE_bin,qE_int,b_pow9,qE_var,gS,gZ,v_some,b_fdiv,b_mod])
   refine⟨⟨by decide,by decide⟩,by decide,?_⟩
   dsimp only[restW]
   (simp only[sf_asg,sS,sZ,qE_idx,qE_bin,qE_int,qE_var,gS,gZ,v_some,b_fdiv,b_mod,qE_list,qEs_cons,qEs_nil,b_add,qE_neg,b_sub,k_int])
   refine⟨Nat.le_of_ble_eq_true rfl,fun b hb=>⟨⟨by decide,by decide⟩,by decide,?_⟩⟩
   rw[i_list (Hp.set_self _ _ _)]
   have E2:=fun o=>E1.trans (Ext.new o hb)
   refine ex_idxA (P:=fun z=>_) ⟨by exact lb [_] [] (.c (-4611686018427387904)) (.v 0) [.l (.c 0) (.v 0)] [1,1] rfl (em0 4 rfl),by exact lb [_] [] (.v 0) (.c 4611686018427387904) [.b (.v 0) (.c 4)] [1,1] rfl (em1 4 rfl)⟩ (by exact la [_] [] (.c 0) (.v 0) [.l (.c 0) (.v 0)] [1,1] rfl (em0 4 rfl)) (by simp;exact lb [_] [] (.v 0) (.c 4) [.b (.v 0) (.c 4)] [1,1] rfl (em1 4 rfl)) ?_
   simp only[List.mem_cons,List.not_mem_nil,or_false]
   rintro z (rfl | rfl | rfl | rfl)
   ·exact fin8 _ _ _ (E2 _)
   ·exact fin8 _ _ _ (E2 _)
   ·exact fin8 _ _ _ (E2 _)
   ·exact fin8 _ _ _ (E2 _)
  dsimp only[restW]
  simp only[f_law_11,Sts.drop]
  (simp only[sf_ife,app_cons,app_nil,qE_bop,qB_more,qB_one,qE_cmp,asB_bool,qE_int,qE_bin,qE_var,gS,gZ,v_some,b_mod,c_eqI,decide_eq_true_eq])
  refine⟨by decide,or_if (fun ξ=>far) fun ξ=>⟨by decide,ite_all (fun ξ=>far) fun ξ=>fin8 _ _ _ E1⟩⟩
 dsimp only[restW]
 simp only[f_law_11,Sts.drop]
 (simp only[sf_asg,sS,sZ,qE_call,qEs_cons,qEs_nil,qE_int,qE_var,gZ,v_some,true_and,gS])
 refine cell_at_spec h4 (by decide) (by decide) fun c4=>?_
 refine price_spec h1 h2 P P' ht hu fun d d0 d1=>?_
 dsimp only[restW]
 (simp only[sf_ife,app_cons,app_nil,qE_cmp,asB_bool,qE_int,qE_bin,qE_var,gS,gZ,v_some,b_mod,c_eqI,decide_eq_true_eq])
 refine⟨by decide,ite_all (fun ξ=>?_) fun ξ=>fin7 _ _ (.refl _)⟩
 dsimp only[restW]
 (simp only[sf_asg,sS,sZ,qE_bin,qE_int,qE_idx,qE_var,gS,gZ,v_some,b_fdiv,b_mod,qE_list,qEs_cons,qEs_nil,b_add])
 refine⟨⟨by decide,by decide⟩,by decide,⟨by decide,by decide⟩,by decide,Nat.le_of_ble_eq_true rfl,fun b hb=>⟨⟨by decide,by decide⟩,by decide,?_⟩⟩
 rw[i_list (Hp.set_self _ _ _)]
 have E2:=fun o=>Ext.new (H:=H) o hb
 refine ex_idxA (P:=fun z=>_) ⟨by exact lb [_] [] (.c (-4611686018427387904)) (.v 0) [.l (.c 0) (.v 0)] [1,1] rfl (em0 3 rfl),by exact lb [_] [] (.v 0) (.c 4611686018427387904) [.b (.v 0) (.c 3)] [1,1] rfl (em1 3 rfl)⟩ (by exact la [_] [] (.c 0) (.v 0) [.l (.c 0) (.v 0)] [1,1] rfl (em0 3 rfl)) (by simp;exact lb [_] [] (.v 0) (.c 3) [.b (.v 0) (.c 3)] [1,1] rfl (em1 3 rfl)) ?_
 simp only[List.mem_cons,List.not_mem_nil,or_false]
 rintro z (rfl | rfl | rfl)
 ·(simp only[b_mod])
  exact⟨by decide,fin7 _ _ (E2 _)⟩
 ·(simp only[b_mod])
  exact⟨by decide,fin7 _ _ (E2 _)⟩
 ·(simp only[b_mod])
  exact⟨by decide,fin7 _ _ (E2 _)⟩
theorem law11_spec {n:Nat}{xs:List Int} (hq:∀H',Q (.bool true) H'):callN defs11 ancT (n+9) "law" [.ro xs] Q X H:=by
 have h1:defs11 "_law_mixed" = some f_law_mixed:=rfl
 have h2:defs11 "_law_value" = some f_law_value_10:=rfl
 have h3:defs11 "_law_till_and_purse" = some f_law_till_and_purse:=rfl
 have h4:defs11 "_law_cell_at" = some f_law_cell_at:=rfl
 have h5:defs11 "_law_great" = some f_law_great:=rfl
 have h8:defs11 "law" = some f_law_11:=rfl
 refine call_of h8 rfl ?_
 simp only[f_law_11]
 (simp only[List.map_cons,List.map_nil,List.length_cons,List.length_nil,Nat.reduceAdd,Nat.reduceSub,List.replicate,List.cons_append,List.nil_append,sf_asg,sS,sZ,qE_call,qEs_cons,qEs_nil,qE_int,qE_var,gZ,v_some,true_and])
 refine tp_spec h1 h4 h3 (fun k0 k1 hv=>value10_spec h1 h2 hv) (by decide) (by decide) fun ps qs t u dr H₁ T hE1 ht hu hdr=>?_
 dsimp only[restW]
 (simp only[sf_asg,sS,sZ,qE_idx,qE_int,qE_var,gS,gZ,v_some])
 refine i_pair0 hdr ?_
 dsimp only[restW]
 (simp only[sf_asg,sS,sZ,qE_idx,qE_int,qE_var,gS,gZ,v_some])
 refine i_pair1 hdr ?_
 dsimp only[restW]
 (simp only[sf_asg,sS,sZ,qE_call,qEs_cons,qEs_nil,qE_int,qE_var,gZ,v_some,true_and])
 refine cell_at_spec h4 (by decide) (by decide) fun c=>?_
 dsimp only[restW]
 (simp only[sf_ife,app_cons,app_nil,qE_bop,qB_more,qB_one,qE_cmp,asB_bool,qE_int,qE_bc,qEs_cons,qEs_nil,qE_var,gS,gZ,v_some,true_and,qE_bin,qE_call])
 refine cell_at_spec h4 (by decide) (by decide) fun c5=>?_
 (simp only[b_mod,c_eqI,decide_eq_true_eq])
 rw[f_lenL ht,lv_length]
 (simp only[c_lt,decide_eq_true_eq])
 refine⟨by decide,and_if (fun ξ=>ite_all (fun l5=>?_) fun ξ=>law11_mid hq T.t11 ht hu) fun ξ=>law11_mid hq T.t11 ht hu⟩
 dsimp only[restW]
 (simp only[sf_asg,sS,sZ,qE_call,qEs_cons,qEs_nil,qE_bin,qE_int,qE_var,gZ,v_some,true_and,gS])
 refine cell_at_spec h4 (by decide) (by decide) fun c5'=>?_
 (simp only[b_fdiv])
 refine⟨⟨by decide,by decide⟩,?_⟩
 refine great_spec rfl h5 T (by exact lA [] [_] (.n 0) (.c 4) [.b (.t (.n 0)) (.c 5)] [1,1] rfl l5) ht hu fun ps' qs' t' u' a H₂ T' E2 ht' hu' ha=>?_
 dsimp only[restW]
 (simp only[sf_asg,sS,sZ,qE_idx,qE_int,qE_var,gS,gZ,v_some])
 refine i_pair0 ha ?_
 dsimp only[restW]
 (simp only[sf_asg,sS,sZ,qE_idx,qE_int,qE_var,gS,gZ,v_some])
 refine i_pair1 ha ?_
 exact law11_mid hq T' ht' hu'
end
end Mine
end

section
namespace Mine
open PySem PyProof.Rows
theorem ints_of {vs:List Value}{ns:List Int} (h:IntsAre vs ns):Ints ns vs.toArray.toList:=by
 show Ints ns vs
 induction h with
 | nil=>exact .nil
 | cons n t _ ih=>exact .cons ih
noncomputable def fnA11:List (String×Addr):=[("pairs_of",152),("counts_of",159),("worth",164),("need_sum",171),("fill",178),("row_with",183),("table",188),("most_of",195),("fewest",202),("need_purse",209),("lesser",216),("both_ways",221),("rows_of",226),("scales",233),("number_of",240),("way_of",247),("deal",252),("put_in",259),("taken_out",266),("paid",273),("_law_cell_at",280),("_law_whole",287),("_law_mixed",294),("_law_value",301),("_law_till_and_purse",308),("_law_own",315),("_law_total",322),("_law_lightest",329),("_law_row",336),("_law_scaled",343),("_law_part",350),("_law_pieces",355),("_law_deal",362),("_law_any",369),("_law_great",374),("_law_price",381),("_law_pays_back",388),("_law_makes",395),("_law_exact",402),("_law_good",409),("_law_walks",416),("law",421)]
noncomputable def clA11:List (String×Addr):=[("TillError",24),("NoTill",37),("NoKind",49),("Twice",61),("NoCount",73),("NoSum",85),("TooLittle",97),("NoChange",109),("TooFew",121),("StillHeld",133),("NoDeed",145)]
namespace main
theorem tw13962693860625380366:1=1:=rfl
theorem tw2852251193174398662:1=1:=rfl
theorem tw5084117380071580128:1=1:=rfl
theorem tw11156056980113079860:1=1:=rfl
theorem tw14080665800827857628:1=1:=rfl
theorem tw13626721169425172152:1=1:=rfl
theorem tw7083192437325867461:1=1:=rfl
theorem tw16798622893749714585:1=1:=rfl
theorem tw1277820614484962519:1=1:=rfl
theorem tw11857135199678951331:1=1:=rfl
theorem tw15491723280356408159:1=1:=rfl
theorem tw12298629886278197574:1=1:=rfl
theorem tw10896356407431480244:1=1:=rfl
theorem tw2167601570988920834:1=1:=rfl
theorem tw10876375607700338302:1=1:=rfl
theorem tw4026956272090484662:1=1:=rfl
theorem tw8778399796184198408:1=1:=rfl
theorem tw5418533224930618480:1=1:=rfl
theorem tw17695171507069755227:1=1:=rfl
theorem tw17292155258170135553:1=1:=rfl
theorem tw4544244032028310869:1=1:=rfl
theorem tw8905464785575363620:1=1:=rfl
theorem tw11812620880713246772:1=1:=rfl
theorem tw5585478044538960755:1=1:=rfl
theorem tw15365013842991253249:1=1:=rfl
theorem tw4573282807186111410:1=1:=rfl
theorem tw9498315638749924794:1=1:=rfl
theorem tw12872379398031375081:1=1:=rfl
theorem tw8930851030842425676:1=1:=rfl
theorem tw16452447596832230105:1=1:=rfl
theorem tw5665406974723832613:1=1:=rfl
theorem tw16008457594558532635:1=1:=rfl
theorem tw9274054859765456524:1=1:=rfl
theorem tw18092606169130929673:1=1:=rfl
theorem tw31828345220925962:1=1:=rfl
theorem tw5240779543111244032:1=1:=rfl
theorem tw14457758005677747962:1=1:=rfl
theorem tw16035907590883218939:1=1:=rfl
theorem tw14539993770535171780:1=1:=rfl
theorem tw1099256609624015869:1=1:=rfl
theorem tw3549514262204291990:1=1:=rfl
theorem tw1179016188013280949:1=1:=rfl
theorem tw7113585516715319716:1=1:=rfl
theorem tw17708487481403421675:1=1:=rfl
theorem tw6361450105264607166:1=1:=rfl
theorem tw1429040668314091153:1=1:=rfl
theorem tw17146568849442343683:1=1:=rfl
theorem tw12093647306153771053:1=1:=rfl
theorem tw14722489848711283861:1=1:=rfl
theorem tw5532463470591059822:1=1:=rfl
theorem tw4637267157515435788:1=1:=rfl
theorem tw3045742163950154196:1=1:=rfl
theorem tw6697339332421208802:1=1:=rfl
theorem tw10450603732522932521:1=1:=rfl
theorem tw5566141238382327452:1=1:=rfl
theorem tw9994787619460420439:1=1:=rfl
theorem tw9483120023164983764:1=1:=rfl
theorem tw1678875084529416142:1=1:=rfl
theorem tw1545906260438175962:1=1:=rfl
theorem tw15737690656516749961:1=1:=rfl
theorem tw12623159325031504133:1=1:=rfl
theorem tw10140136200207757160:1=1:=rfl
theorem tw14106445559736802775:1=1:=rfl
theorem tw1677766988990989824:1=1:=rfl
theorem tw17958375852430007124:1=1:=rfl
theorem tw6741292078354696603:1=1:=rfl
theorem tw6557543464795787104:1=1:=rfl
theorem tw765107192605250810:1=1:=rfl
theorem tw11461230924637031220:1=1:=rfl
theorem tw16721930046160240684:1=1:=rfl
theorem tw12273490649430754879:1=1:=rfl
theorem tw4651154628705390771:1=1:=rfl
theorem tw10877679251791092727:1=1:=rfl
theorem tw5995161000843957690:1=1:=rfl
theorem tw5061512775090418087:1=1:=rfl
theorem tw7298748307773712898:1=1:=rfl
theorem tw10094358506670053839:1=1:=rfl
theorem tw11752208632293872130:1=1:=rfl
theorem tw3848698983108048278:1=1:=rfl
theorem tw9155575984036265788:1=1:=rfl
theorem tw6044114016751833949:1=1:=rfl
theorem tw16356685582667847594:1=1:=rfl
theorem tw6334894449686545209:1=1:=rfl
theorem tw1178595665728414349:1=1:=rfl
theorem tw4324958949535026087:1=1:=rfl
theorem tw6161133996638707016:1=1:=rfl
theorem tw10298723112805639129:1=1:=rfl
theorem tw13838900630717943254:1=1:=rfl
theorem tw10924716458440934090:1=1:=rfl
theorem tw2406621943657119228:1=1:=rfl
theorem tw16187894506366716058:1=1:=rfl
theorem tw6910295442248876197:1=1:=rfl
theorem tw1615956725737779560:1=1:=rfl
theorem tw17236958762192778904:1=1:=rfl
theorem tw9561784451562097942:1=1:=rfl
theorem tw4775608329324902142:1=1:=rfl
theorem tw7308723440029596264:1=1:=rfl
theorem tw14771111431291430275:1=1:=rfl
theorem tw5518243967957118194:1=1:=rfl
theorem tw13355152605343272895:1=1:=rfl
theorem tw8748973510418095054:1=1:=rfl
theorem tw16572128252103988241:1=1:=rfl
theorem tw6660377722381337597:1=1:=rfl
theorem tw4812270449578504274:1=1:=rfl
theorem tw10047389527955405517:1=1:=rfl
theorem tw1496695287857109588:1=1:=rfl
theorem tw14893677947936909564:1=1:=rfl
theorem tw9848185148710128376:1=1:=rfl
theorem tw12646911602827044314:1=1:=rfl
theorem tw10642606787283503386:1=1:=rfl
theorem tw13898110531924571043:1=1:=rfl
theorem tw7904437144335635152:1=1:=rfl
theorem tw15729387918133165365:1=1:=rfl
theorem tw16656740534632174751:1=1:=rfl
theorem tw12431561837914552411:1=1:=rfl
theorem tw221909299271738847:1=1:=rfl
theorem tw7221758910455160077:1=1:=rfl
theorem tw9361300454564663673:1=1:=rfl
theorem tw452746233719593009:1=1:=rfl
theorem tw4585930131862741453:1=1:=rfl
theorem tw14356970164483606383:1=1:=rfl
theorem tw6385024630547198690:1=1:=rfl
theorem tw16965079339398995527:1=1:=rfl
theorem tw10609540516017602915:1=1:=rfl
theorem tw4072190877284726289:1=1:=rfl
theorem tw13693970394777133609:1=1:=rfl
theorem tw1632041292262086317:1=1:=rfl
theorem tw14369920842174571615:1=1:=rfl
theorem tw2729793432009153956:1=1:=rfl
theorem tw12252054271945606052:1=1:=rfl
theorem tw9121559901702372667:1=1:=rfl
theorem tw18218335207050127959:1=1:=rfl
theorem tw656089360051881306:1=1:=rfl
theorem tw6389877041954997217:1=1:=rfl
theorem tw8207831470162742035:1=1:=rfl
theorem tw17336282652733537790:1=1:=rfl
theorem tw10199874654664476236:1=1:=rfl
theorem tw8466321980469482115:1=1:=rfl
theorem tw5372645768047454471:1=1:=rfl
theorem tw1777545030009416734:1=1:=rfl
theorem tw11646826074482590764:1=1:=rfl
theorem tw3491332818749588091:1=1:=rfl
theorem tw7074144079889050967:1=1:=rfl
theorem tw1270039299266317192:1=1:=rfl
theorem tw8947760058931562597:1=1:=rfl
theorem tw18421580907717582127:1=1:=rfl
theorem tw12343854547171428336:1=1:=rfl
theorem tw14027531716089632829:1=1:=rfl
theorem tw9957550378297406723:1=1:=rfl
theorem tw7698036289167662538:1=1:=rfl
theorem tw341453280667917650:1=1:=rfl
theorem tw4452170602077327944:1=1:=rfl
theorem tw18058344117034437523:1=1:=rfl
theorem tw17057053908230417247:1=1:=rfl
theorem tw18190005008629794160:1=1:=rfl
theorem tw3613476055612923068:1=1:=rfl
theorem tw16641786646906312760:1=1:=rfl
theorem tw10669944970481658594:1=1:=rfl
theorem tw13224007501803129859:1=1:=rfl
theorem tw7699798408344515789:1=1:=rfl
theorem tw16826212616301561204:1=1:=rfl
theorem tw5436791530062809996:1=1:=rfl
theorem tw3454311308915712629:1=1:=rfl
theorem tw9268297945177815525:1=1:=rfl
theorem tw12885673836220544336:1=1:=rfl
theorem tw5473700226181020891:1=1:=rfl
theorem tw16922381011570985944:1=1:=rfl
theorem tw9069182735580402390:1=1:=rfl
theorem tw8729708805864041840:1=1:=rfl
theorem tw5871769198996169552:1=1:=rfl
theorem tw7214478077546791972:1=1:=rfl
theorem tw15955573374722617477:1=1:=rfl
theorem tw9265829497004654079:1=1:=rfl
theorem tw12941917028564957548:1=1:=rfl
theorem tw7186131708394509389:1=1:=rfl
theorem tw6075091234017535682:1=1:=rfl
theorem tw2110754180369666209:1=1:=rfl
theorem tw2007339730380871907:1=1:=rfl
theorem tw17561526911342447988:1=1:=rfl
theorem tw16629339528299215175:1=1:=rfl
theorem tw3557749057250611081:1=1:=rfl
theorem tw17715262827843222689:1=1:=rfl
theorem tw834873547066669988:1=1:=rfl
theorem tw14439473939278146460:1=1:=rfl
theorem tw6222487380544312443:1=1:=rfl
theorem tw1628013610222277130:1=1:=rfl
theorem tw508193945987473028:1=1:=rfl
theorem tw3796207824708393856:1=1:=rfl
theorem tw11221353774195762014:1=1:=rfl
theorem tw9512817274939609580:1=1:=rfl
theorem tw6785657489111691699:1=1:=rfl
theorem tw9670510015898674028:1=1:=rfl
theorem tw13590572293223372214:1=1:=rfl
theorem tw16778611742570070204:1=1:=rfl
theorem tw17450470499104002142:1=1:=rfl
theorem tw6912675738884088206:1=1:=rfl
theorem tw18332899500509843999:1=1:=rfl
theorem tw11373873439333621613:1=1:=rfl
theorem tw1409966394225722968:1=1:=rfl
theorem tw5243159528196176124:1=1:=rfl
theorem tw13503263706703578961:1=1:=rfl
theorem tw16136984950599521427:1=1:=rfl
theorem tw10334261112615635914:1=1:=rfl
theorem tw12483276189755474720:1=1:=rfl
theorem tw1587290215689348708:1=1:=rfl
theorem tw5240536507193477226:1=1:=rfl
theorem tw4297412468100583042:1=1:=rfl
theorem tw3829396358689915599:1=1:=rfl
theorem tw13876859957761632879:1=1:=rfl
theorem tw6877560268529008848:1=1:=rfl
theorem tw8627561154394265716:1=1:=rfl
theorem tw3583811862363856187:1=1:=rfl
theorem tw14064073609400967072:1=1:=rfl
theorem tw12518504611687188807:1=1:=rfl
theorem tw12431731261707249289:1=1:=rfl
theorem tw8478376212529829071:1=1:=rfl
theorem tw11544348965984651327:1=1:=rfl
theorem tw7590696779544312186:1=1:=rfl
theorem tw11501822485730972192:1=1:=rfl
theorem tw9681375758050803366:1=1:=rfl
theorem tw3466206800631347469:1=1:=rfl
theorem tw18302796317244248524:1=1:=rfl
theorem tw11120327062377616369:1=1:=rfl
theorem tw3706830351922483016:1=1:=rfl
theorem tw13350764725976880583:1=1:=rfl
theorem tw4500915450034043215:1=1:=rfl
theorem tw13110577991587790113:1=1:=rfl
theorem tw14874008761501241426:1=1:=rfl
theorem tw3562595001068472590:1=1:=rfl
theorem tw15928290008803537013:1=1:=rfl
theorem tw2496676261509829067:1=1:=rfl
theorem tw6635558491612396129:1=1:=rfl
theorem tw3027586509356016917:1=1:=rfl
theorem tw13402765919934010277:1=1:=rfl
theorem tw10234815189450012239:1=1:=rfl
theorem tw2724176850512262202:1=1:=rfl
theorem tw8988871441479999982:1=1:=rfl
theorem tw17679725944135375923:1=1:=rfl
theorem tw6508729118710982530:1=1:=rfl
theorem tw2702614204127132176:1=1:=rfl
theorem tw17510229520200029679:1=1:=rfl
theorem tw3905226178654972811:1=1:=rfl
theorem tw330327031418712150:1=1:=rfl
theorem tw104360540948158410:1=1:=rfl
theorem tw7293298908176781663:1=1:=rfl
theorem tw15734660467963936456:1=1:=rfl
theorem tw5102693214775723256:1=1:=rfl
theorem tw14635473669698735251:1=1:=rfl
theorem tw3960113756560652017:1=1:=rfl
theorem tw12590340796369385619:1=1:=rfl
theorem tw17650429524786536563:1=1:=rfl
theorem tw11982392923317675503:1=1:=rfl
theorem tw7875838824674609581:1=1:=rfl
theorem tw17223442867436993403:1=1:=rfl
theorem tw14371149721154158424:1=1:=rfl
theorem tw12455012482086183272:1=1:=rfl
theorem tw6655696309031964122:1=1:=rfl
theorem tw15303317825217679618:1=1:=rfl
theorem tw12839114828313443825:1=1:=rfl
theorem tw16519101796099990279:1=1:=rfl
theorem tw9656510801202774680:1=1:=rfl
theorem tw13676971244355772609:1=1:=rfl
theorem tw18325589031809861271:1=1:=rfl
theorem tw12939479104171293914:1=1:=rfl
theorem tw16950194794029067938:1=1:=rfl
theorem tw15135354766812531094:1=1:=rfl
theorem tw52199770228462824:1=1:=rfl
theorem tw73751810991705359:1=1:=rfl
theorem tw716429049611869786:1=1:=rfl
theorem tw1054321117371714560:1=1:=rfl
theorem tw9976160756891316704:1=1:=rfl
theorem tw1439166485080882:1=1:=rfl
theorem tw4044139247061151142:1=1:=rfl
theorem tw961187720498965250:1=1:=rfl
theorem tw2151008862009574835:1=1:=rfl
theorem tw736557859044231402:1=1:=rfl
theorem tw223528310411579522:1=1:=rfl
theorem tw17353955331779342651:1=1:=rfl
theorem tw3779293765908593550:1=1:=rfl
theorem tw11987853993630220354:1=1:=rfl
theorem tw15595112118272840620:1=1:=rfl
theorem tw9360745474812902239:1=1:=rfl
theorem tw7411558596216406370:1=1:=rfl
theorem tw2895952525429962455:1=1:=rfl
theorem tw11815829001073249272:1=1:=rfl
theorem tw2759098988195820126:1=1:=rfl
theorem tw14759895335926876869:1=1:=rfl
theorem tw6418098437765475518:1=1:=rfl
theorem tw4039676971129161736:1=1:=rfl
theorem tw11710404883906591787:1=1:=rfl
theorem tw15514936471743626214:1=1:=rfl
theorem tw18202539571040982480:1=1:=rfl
theorem tw33456957511925785:1=1:=rfl
theorem tw2566753976717531306:1=1:=rfl
theorem tw14909365282108701170:1=1:=rfl
theorem tw17052023290607921161:1=1:=rfl
theorem tw7439787175107056256:1=1:=rfl
theorem tw65644731488775911:1=1:=rfl
theorem tw11003572833241299968:1=1:=rfl
theorem tw6605666738245375177:1=1:=rfl
theorem tw12927740378394474205:1=1:=rfl
theorem tw11785714552879321826:1=1:=rfl
theorem tw18063282731904131703:1=1:=rfl
theorem tw12702744160499308131:1=1:=rfl
theorem tw16251939892948500945:1=1:=rfl
theorem tw16008252555379753968:1=1:=rfl
theorem tw13724616953566380437:1=1:=rfl
theorem tw10665089971535097683:1=1:=rfl
theorem tw9272984997812220495:1=1:=rfl
theorem tw4900431672193113347:1=1:=rfl
theorem tw3532412968194664532:1=1:=rfl
theorem tw13591255225166038476:1=1:=rfl
theorem tw5270908104458285503:1=1:=rfl
theorem tw8467378866343419333:1=1:=rfl
theorem tw15079240505294077160:1=1:=rfl
theorem tw4189750870438640210:1=1:=rfl
theorem tw13777938177461255882:1=1:=rfl
theorem tw16952715711813285254:1=1:=rfl
theorem tw16049902774474827687:1=1:=rfl
theorem tw18284262389922463811:1=1:=rfl
theorem tw302440914744352476:1=1:=rfl
theorem tw1453356044741674121:1=1:=rfl
theorem tw6696893160125735727:1=1:=rfl
theorem tw3343439749351644125:1=1:=rfl
theorem tw17201416709059790184:1=1:=rfl
theorem tw10159738436595150677:1=1:=rfl
theorem tw12732289081945773324:1=1:=rfl
theorem tw2524017781993486291:1=1:=rfl
theorem tw10625486282989778954:1=1:=rfl
theorem tw13293747886898857621:1=1:=rfl
theorem tw13270728482189477470:1=1:=rfl
theorem tw9508770018378322450:1=1:=rfl
theorem tw9190990891756207365:1=1:=rfl
theorem tw2279707942289718827:1=1:=rfl
theorem tw5571399437266216444:1=1:=rfl
theorem tw15465920861327815835:1=1:=rfl
theorem tw12057704586751987240:1=1:=rfl
theorem tw15060185592220127646:1=1:=rfl
theorem tw17272174723667511238:1=1:=rfl
theorem tw15109750227778091905:1=1:=rfl
theorem tw7235775444256392728:1=1:=rfl
theorem tw17737603089517620647:1=1:=rfl
theorem tw9381277316556691805:1=1:=rfl
theorem tw9840939614602229412:1=1:=rfl
theorem tw387501639795913443:1=1:=rfl
theorem tw11181722664286889309:1=1:=rfl
theorem tw11403851563620829512:1=1:=rfl
theorem tw15017983477296125989:1=1:=rfl
theorem tw1504049600530537962:1=1:=rfl
theorem tw18315214858253571532:1=1:=rfl
theorem tw6541472054586571296:1=1:=rfl
theorem tw1850612553970854742:1=1:=rfl
theorem tw1513938828510530698:1=1:=rfl
theorem tw4365514962571936147:1=1:=rfl
theorem tw4038153913678941442:1=1:=rfl
theorem tw18280085339978019747:1=1:=rfl
theorem tw10821422270917381399:1=1:=rfl
theorem tw5160751907100791332:1=1:=rfl
theorem tw2433702464844828792:1=1:=rfl
theorem tw16320729459185622934:1=1:=rfl
theorem tw4397610999060964463:1=1:=rfl
theorem tw4333880214566435006:1=1:=rfl
theorem tw15806524323241146399:1=1:=rfl
theorem tw8079908401900000222:1=1:=rfl
theorem tw14218914174604095658:1=1:=rfl
theorem tw7939164064552038406:1=1:=rfl
theorem tw17974016328880235120:1=1:=rfl
theorem tw16153842264607907944:1=1:=rfl
theorem tw16046730324260685337:1=1:=rfl
theorem tw7761410557224570781:1=1:=rfl
theorem tw10825838108423173272:1=1:=rfl
theorem tw7153082081811710619:1=1:=rfl
theorem tw2921958311620399285:1=1:=rfl
theorem tw2287757881348798766:1=1:=rfl
theorem tw2190695567426971638:1=1:=rfl
theorem tw10913426047420270581:1=1:=rfl
theorem tw18442785490491869365:1=1:=rfl
theorem tw12205347405646519318:1=1:=rfl
theorem tw10391951854915411234:1=1:=rfl
theorem tw14788915703135433725:1=1:=rfl
theorem tw3627144658338631552:1=1:=rfl
theorem tw1157997071576566072:1=1:=rfl
theorem tw17402982504261768225:1=1:=rfl
theorem tw14009396871252706886:1=1:=rfl
theorem tw14639212616227390028:1=1:=rfl
theorem tw6162249291895867263:1=1:=rfl
theorem tw2821470743931037460:1=1:=rfl
theorem tw15768048840197415361:1=1:=rfl
theorem tw6053611964639427726:1=1:=rfl
theorem tw15325265745230064102:1=1:=rfl
theorem tw7514964652732493775:1=1:=rfl
theorem tw2921621734765799159:1=1:=rfl
theorem tw3299218664060906527:1=1:=rfl
theorem tw16411370214107742406:1=1:=rfl
theorem tw7974275031393228247:1=1:=rfl
theorem tw8663697691656813868:1=1:=rfl
theorem tw6511744376749373798:1=1:=rfl
theorem tw17725498274588495791:1=1:=rfl
theorem tw796156627051863958:1=1:=rfl
theorem tw15467891735981029475:1=1:=rfl
theorem tw2906824675625879941:1=1:=rfl
theorem tw832900586485598795:1=1:=rfl
theorem tw12915833801598196605:1=1:=rfl
theorem tw17118054049896295152:1=1:=rfl
theorem tw7173623326730630234:1=1:=rfl
theorem tw15984706205718930553:1=1:=rfl
theorem tw13642826006792871662:1=1:=rfl
theorem tw12900284412222446716:1=1:=rfl
theorem tw4990475226369331113:1=1:=rfl
theorem tw4605139254293405059:1=1:=rfl
theorem tw66260789543402106:1=1:=rfl
theorem tw14662554035588321541:1=1:=rfl
theorem tw8228058824784995430:1=1:=rfl
theorem tw5649967823195072380:1=1:=rfl
theorem tw15485851114877660061:1=1:=rfl
theorem tw8211959896082780389:1=1:=rfl
theorem tw14097447854668400296:1=1:=rfl
theorem tw15554039934745177238:1=1:=rfl
theorem tw4126091431370883743:1=1:=rfl
theorem tw4458048076830672230:1=1:=rfl
end main
end Mine
open PySem PySem.W PyProof.Rows
set_option tactic.hygienic true
set_option Elab.async true
set_option maxRecDepth 100000 in
set_option maxHeartbeats 8000000 in
theorem Mine.main : PySem.Challenge.rw_uf030016_11.Holds := by
  w_on; o_law; k_head; (case hw => w_witness2)
  k_fill
  intro w s₀ s₁ mg mb G Y fa o pm cd doc dV kV ho hd hcd hD hmg hg args vals as hpre hlay hrd hwl hlo
  have KX := kIn_of Y
  have X := (Ground.X G).1
  have V := (Ground.X G).2
  try w_nolog (first | (have GL := glob_more (Ground.glob G (by first | k_qdec | decide +kernel) (by first | k_qdec | decide +kernel)) V) | (have GL := glob_more (Ground.glob G (by decide +kernel)) V))
  refine Ground.open G ?_
  intro T B D TE TW
  try (refine guard_noD D (by decide +kernel) ?_; clear D)
  obtain ⟨_, _, M⟩ := bmod_of_top T
  have TA := at_of_top T
  try (obtain ⟨_, _, he, B0⟩ := based_of_top T rfl hmg ho hd; have he' : cd = _ := he; subst he'; clear he)
  wrow_args hpre hlay hrd hwl hlo
  all_goals first | refine callC_kw (enter_call ?_) | refine enter_call ?_ | refine callC_kw (enter_callW ?_) | refine enter_callW ?_ | w_how
  all_goals w_top on
  all_goals try refine codeAny_mono ?_ (fun ξ ξ g => GoodW.toG g)
  rename_i hL _ _ _ hI _ hcond _
  refine Mine.run_law T _ KX Mine.gint11 Mine.fnA11 Mine.clA11 Mine.ancT Mine.tab11 rfl rfl (by with_unfolding_all rfl) rfl rfl rfl ?c7 ?fin (n := 8) rfl rfl (by decide +kernel) (by decide +kernel) hmg hL (by omega) (Mine.ints_of hI) (Mine.law11_spec (n := 0) fun ξ => rfl) fun h tk hk => ?_
  case c7 =>
    simp only [Mine.clA11, List.mem_cons, List.not_mem_nil, or_false]
    rintro d (rfl | rfl | rfl | rfl | rfl | rfl | rfl | rfl | rfl | rfl | rfl) <;> exact ⟨rfl, rfl, rfl, rfl, rfl, rfl, rfl, rfl, rfl⟩
  case fin =>
    clear GL TA
    refine ⟨rfl, ?_, rfl, ?_, rfl, ?_, rfl, ?_, rfl, ?_, rfl, ?_, rfl, ?_, rfl, ?_, rfl, ?_, rfl, ?_, rfl, ?_, rfl, ?_, rfl, ?_, rfl, ?_, rfl, ?_, rfl, ?_, rfl, ?_, rfl, ?_, rfl, ?_, rfl, ?_, rfl, ?_, rfl, ?_, rfl, ?_, rfl, ?_, rfl, ?_, rfl, ?_, rfl, ?_, rfl, ?_, rfl, ?_, rfl, ?_, rfl, ?_, rfl, ?_, rfl, ?_, rfl, ?_, rfl, ?_, rfl, ?_, rfl, ?_, rfl, ?_, rfl, ?_, rfl, ?_, rfl, ?_, rfl, ?_, trivial⟩
    all_goals exact ⟨by kernel_rfl, (by intro S; (repeat intro _); kernel_rfl), by kernel_rfl, by kernel_rfl⟩
  exact ⟨.inl ⟨_, _, _, rfl, fun ξ => rfl, .bool true, (by with_unfolding_all rfl), fun ξ => ⟨.nil, nofun⟩⟩, hk, rfl, hg⟩
set_option Elab.async false
theorem PySem.Challenge.cw_uf030016_11_holds : PySem.Challenge.rw_uf030016_11.Holds :=
  Mine.main
end
