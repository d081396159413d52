import PyProof.Rows.All
import Wide.All
import OpenK.AllK
import Wide.FinOn
import Open.Row
import PyProof.StationsW
import PyProof.DictStraight
import PyProof.EqKinds
import PyProof.ListOps
import PyProof.CompFree
import PyProof.Cells
import PyProof.Rows.Many
import PyProof.NeKinds
import PyProof.Rows.TupMore
import KE.KIsAll
import PyProof.ExcArgsOwn
import PyProof.ExcAttrAll.ValueError
import KE.KRevSl
import KE.KSortTup
import KE.KDictSum
import OpenK.KRaise
import PyProof.Draws
import PyProof.EnumMake
import PyProof.ZipIter
import PyProof.Rows.ZipGen
import PyProof.DictWalks
import KE.KPar
import PySem.Challenge.RW_uf030016_09
set_option Elab.async false
set_option tactic.hygienic false
set_option linter.all false
set_option bootstrap.genMatcherCode false
set_option genSizeOfSpec false
set_option genSizeOf false
set_option genInjectivity false
set_option genCtorIdx false
section
namespace Mine.Internal
theorem gZ {α:Type}{a:α}{l:List α}:(a :: l)[0]?=some a:=rfl
theorem gS {α:Type}{a:α}{l:List α}{i:Nat}:(a :: l)[i+1]?=l[i]?:=rfl
theorem sZ {α:Type}{a b:α}{l:List α}:(a :: l).set 0 b=b :: l:=rfl
theorem sS {α:Type}{a b:α}{l:List α}{i:Nat}:(a :: l).set (i+1) b=a :: l.set i b:=rfl
noncomputable section
inductive NE where
 | n (i:Nat) | c (k:Nat) | a (x y:NE) | m (k:Nat) (x:NE) | p (x:NE) (k:Nat)
inductive IE where
 | v (i:Nat) | c (k:Int) | a (x y:IE) | s (x y:IE) | m (k:Int) (x:IE) | p (x:IE) (k:Int) | g (x:IE) | t (x:NE)
inductive LF where
 | l (x y:IE) | b (x y:IE) | e (x y:IE) | L (x y:NE) | B (x y:NE) | E (x y:NE)
noncomputable def Ma {α:Type} (d:α) (l:List α):Nat→α:=List.rec (fun ξ=>d) (fun x ξ f i=>Nat.rec x (fun i ξ=>f i) i) l
noncomputable def NE.den (σ:List Nat):NE→Nat
 | .n i=>Ma 0 σ i
 | .c k=>k
 | .a x y=>x.den σ+y.den σ
 | .m k x=>k*x.den σ
 | .p x k=>x.den σ*k
noncomputable def IE.den (ρ:List Int) (σ:List Nat):IE→Int
 | .v i=>Ma 0 ρ i
 | .c k=>k
 | .a x y=>x.den ρ σ+y.den ρ σ
 | .s x y=>x.den ρ σ-y.den ρ σ
 | .m k x=>k*x.den ρ σ
 | .p x k=>x.den ρ σ*k
 | .g x=>- x.den ρ σ
 | .t x=>((x.den σ:Nat):Int)
noncomputable def LF.den (ρ:List Int) (σ:List Nat):LF→Prop
 | .l x y=>x.den ρ σ≤y.den ρ σ
 | .b x y=>x.den ρ σ<y.den ρ σ
 | .e x y=>x.den ρ σ=y.den ρ σ
 | .L x y=>x.den σ≤y.den σ
 | .B x y=>x.den σ<y.den σ
 | .E x y=>x.den σ=y.den σ
noncomputable def Ge (k:Int) (x y:List Int):List Int:=List.rec (fun y=>y.map (k * ·)) (fun a ξ f y=>List.rec (a :: f []) (fun b y ξ=>(a+k*b) :: f y) y) x y
noncomputable def CT (x ρ:List Int):Int:=List.rec (fun ξ=>0) (fun a ξ f ρ=>List.rec 0 (fun y q ξ=>a*y+f q) ρ) x ρ
structure Ls where
 c:Int
 i:List Int
 n:List Int
noncomputable def Oa (i:Nat):List Int:=Nat.rec [1] (fun ξ r=>0 :: r) i
noncomputable def Ls.comb (k:Int) (x y:Ls):Ls:=⟨x.c+k*y.c,Ge k x.i y.i,Ge k x.n y.n⟩
noncomputable def Ls.zero:Ls:=⟨0,[],[]⟩
noncomputable def IP (σ:List Nat):List Int:=σ.map fun (n:Nat)=>(n:Int)
noncomputable def Ls.den (ρ:List Int) (σ:List Nat) (x:Ls):Int:=x.c+(CT x.i ρ+CT x.n (IP σ))
noncomputable def NE.ls:NE→Ls
 | .n i=>⟨0,[],Oa i⟩
 | .c k=>⟨k,[],[]⟩
 | .a x y=>.comb 1 x.ls y.ls
 | .m k x=>.comb k .zero x.ls
 | .p x k=>.comb k .zero x.ls
noncomputable def IE.ls:IE→Ls
 | .v i=>⟨0,Oa i,[]⟩
 | .c k=>⟨k,[],[]⟩
 | .a x y=>.comb 1 x.ls y.ls
 | .s x y=>.comb (-1) x.ls y.ls
 | .m k x=>.comb k .zero x.ls
 | .p x k=>.comb k .zero x.ls
 | .g x=>.comb (-1) .zero x.ls
 | .t x=>x.ls
noncomputable def LF.ls:LF→Ls×Int×Bool
 | .l x y=>(.comb (-1) y.ls x.ls,0,false)
 | .b x y=>(.comb (-1) y.ls x.ls,1,false)
 | .e x y=>(.comb (-1) y.ls x.ls,0,true)
 | .L x y=>(.comb (-1) y.ls x.ls,0,false)
 | .B x y=>(.comb (-1) y.ls x.ls,1,false)
 | .E x y=>(.comb (-1) y.ls x.ls,0,true)
noncomputable def KR (fs:List LF) (ks:List Int):Ls×Int:=List.rec (fun ξ=>(.zero,0)) (fun f ξ r ks=>List.rec (.zero,0) (fun k ks ξ=>(.comb k (r ks).1 f.ls.1,(r ks).2+k*f.ls.2.1)) ks) fs ks
noncomputable def lpos (fs:List LF) (ks:List Int):Bool:=List.rec (fun ξ=>true) (fun f ξ r ks=>List.rec true (fun k ks ξ=>(f.ls.2.2 || decide (0≤k)) && r ks) ks) fs ks
noncomputable def lok (fs:List LF) (ks:List Int):Bool:=lpos fs ks && (decide ((KR fs ks).1.c<(KR fs ks).2) && ((KR fs ks).1.i.all (fun x=>decide (x=0)) && (KR fs ks).1.n.all (fun x=>decide (x≤0))))
noncomputable def Ih (ρ:List Int) (σ:List Nat) (P:Prop):List LF→Prop
 | []=>P
 | f :: fs=>f.den ρ σ→Ih ρ σ P fs
noncomputable def O0 (ρ:List Int) (σ:List Nat):List LF→Prop
 | []=>True
 | f :: fs=>f.den ρ σ∧O0 ρ σ fs

theorem Gd (x:List Int):CT x []=0:=by cases x <;> rfl
theorem Io:∀(i:Nat) (ρ:List Int),CT (Oa i) ρ=Ma 0 ρ i:=by
 intro i
 induction i with
 | zero=>intro ρ;cases ρ with
  | nil=>rfl
  | cons y q=>exact (Int.add_zero _).trans (Int.one_mul y)
 | succ i ih=>intro ρ;cases ρ with
  | nil=>rfl
  | cons y q=>exact (congrArg (0*y + ·) (ih q)).trans ((congrArg (· + _) (Int.zero_mul y)).trans (Int.zero_add _))
theorem Lq (k:Int):∀(x ρ:List Int),CT (x.map (k * ·)) ρ=k*CT x ρ:=by
 intro x
 induction x with
 | nil=>intro ρ;exact (Int.mul_zero k).symm
 | cons a r ih=>intro ρ;cases ρ with
  | nil=>exact (Int.mul_zero k).symm
  | cons y q=>exact (congrArg (k*a*y + ·) (ih q)).trans ((congrArg (· + _) (Int.mul_assoc k a y)).trans (Int.mul_add ..).symm)
theorem GJ (a k b p q:Int):(a+k*b)+(p+k*q)=(a+p)+k*(b+q):=by rw[Int.mul_add];omega
theorem H9 (k:Int):∀(x y ρ:List Int),CT (Ge k x y) ρ=CT x ρ+k*CT y ρ:=by
 intro x
 induction x with
 | nil=>intro y ρ;exact (Lq k y ρ).trans (Int.zero_add _).symm
 | cons a r ih=>intro y ρ;cases ρ with
  | nil=>rw[Gd,Gd,Gd,Int.mul_zero];rfl
  | cons z q=>cases y with
   | nil =>
    show a*z+CT (Ge k r []) q=(a*z+CT r q)+k*0
    rw[ih];show a*z+(CT r q+k*0)=_;rw[Int.mul_zero,Int.add_zero,Int.add_zero]
   | cons b s =>
    show (a+k*b)*z+CT (Ge k r s) q=(a*z+CT r q)+k*(b*z+CT s q)
    rw[ih,Int.add_mul,Int.mul_assoc,GJ]
section
variable (ρ:List Int) (σ:List Nat)
theorem Ls.den_comb (k:Int) (x y:Ls):(Ls.comb k x y).den ρ σ=x.den ρ σ+k*y.den ρ σ:=by
 show (x.c+k*y.c)+(CT (Ge k x.i y.i) ρ+CT (Ge k x.n y.n) (IP σ))=_
 rw[H9,H9,GJ,GJ];rfl
theorem Ls.den_c (k:Int):(Ls.mk k [] []).den ρ σ=k:=Int.add_zero k
theorem Ls.den_zc (k:Int) (y:Ls):(Ls.comb k .zero y).den ρ σ=k*y.den ρ σ:=(Ls.den_comb ρ σ k .zero y).trans (Int.zero_add _)
theorem KS:∀i,Ma 0 (IP σ) i=((Ma 0 σ i:Nat):Int):=by
 induction σ with
 | nil=>intro i;rfl
 | cons y q ih=>intro i;cases i with
  | zero=>rfl
  | succ i=>exact ih i
theorem NE.ok (x:NE):x.ls.den ρ σ=((x.den σ:Nat):Int):=by
 induction x with
 | n i=>exact (Int.zero_add _).trans ((Int.zero_add _).trans ((Io i _).trans (KS σ i)))
 | c k=>exact Ls.den_c ρ σ k
 | a x y h1 h2=>exact (Ls.den_comb ρ σ 1 _ _).trans (by rw[h1,h2,Int.one_mul];rfl)
 | m k x h=>exact (Ls.den_zc ρ σ _ _).trans (by rw[h];rfl)
 | p x k h=>exact (Ls.den_zc ρ σ _ _).trans (by rw[h,Int.mul_comm];rfl)
theorem IE.ok (x:IE):x.ls.den ρ σ=x.den ρ σ:=by
 induction x with
 | v i=>exact (Int.zero_add _).trans ((Int.add_zero _).trans (Io i ρ))
 | c k=>exact Ls.den_c ρ σ k
 | a x y h1 h2=>exact (Ls.den_comb ρ σ 1 _ _).trans (by rw[h1,h2,Int.one_mul];rfl)
 | s x y h1 h2=>exact (Ls.den_comb ρ σ (-1) _ _).trans (by rw[h1,h2,Int.neg_one_mul];rfl)
 | m k x h=>exact (Ls.den_zc ρ σ _ _).trans (by rw[h];rfl)
 | p x k h=>exact (Ls.den_zc ρ σ _ _).trans (by rw[h,Int.mul_comm];rfl)
 | g x h=>exact (Ls.den_zc ρ σ _ _).trans (by rw[h,Int.neg_one_mul];rfl)
 | t x=>exact NE.ok ρ σ x
noncomputable def LSay (s:Ls×Int×Bool):Prop:=s.2.1≤s.1.den ρ σ∧(s.2.2=true→s.1.den ρ σ=s.2.1)
theorem LU {x y:IE}{k:Int} (h:x.den ρ σ+k≤y.den ρ σ):k≤(Ls.comb (-1) y.ls x.ls).den ρ σ:=by
 rw[Ls.den_comb,IE.ok,IE.ok,Int.neg_one_mul];exact Int.le_sub_left_of_add_le h
theorem LT {x y:NE}{k:Int} (h:((x.den σ:Nat):Int)+k≤((y.den σ:Nat):Int)):k≤(Ls.comb (-1) y.ls x.ls).den ρ σ:=by
 rw[Ls.den_comb,NE.ok,NE.ok,Int.neg_one_mul];exact Int.le_sub_left_of_add_le h
theorem LF.ok (f:LF) (h:f.den ρ σ):LSay ρ σ f.ls:=by
 cases f with
 | l x y=>exact⟨LU ρ σ (Int.le_trans (Int.le_of_eq (Int.add_zero _)) h),nofun⟩
 | b x y=>exact⟨LU ρ σ h,nofun⟩
 | e x y=>exact⟨LU ρ σ (Int.le_of_eq ((Int.add_zero _).trans h)),fun ξ=>by show (Ls.comb (-1) y.ls x.ls).den ρ σ=0;rw[Ls.den_comb,IE.ok,IE.ok,Int.neg_one_mul,show x.den ρ σ=_ from h];exact Int.add_right_neg _⟩
 | L x y=>exact⟨LT ρ σ (Int.le_trans (Int.le_of_eq (Int.add_zero _)) (Int.ofNat_le.mpr h)),nofun⟩
 | B x y=>exact⟨LT ρ σ (Int.ofNat_le.mpr h),nofun⟩
 | E x y=>exact⟨LT ρ σ (Int.le_of_eq ((Int.add_zero _).trans (congrArg _ h))),fun ξ=>by show (Ls.comb (-1) y.ls x.ls).den ρ σ=0;rw[Ls.den_comb,NE.ok,NE.ok,Int.neg_one_mul,show x.den σ=_ from h];exact Int.add_right_neg _⟩
theorem Ny:∀(fs:List LF) (ks:List Int),lpos fs ks=true→O0 ρ σ fs→(KR fs ks).2≤(KR fs ks).1.den ρ σ:=by
 intro fs
 induction fs with
 | nil=>intro ks _ _;exact Int.le_refl 0
 | cons f fs ih =>
  intro ks hp hd
  cases ks with
  | nil=>exact Int.le_refl 0
  | cons k ks =>
   have hp:=Bool.and_eq_true_iff.mp hp
   obtain⟨a,b⟩:=LF.ok ρ σ f hd.1
   refine Int.le_trans (Int.add_le_add (ih ks hp.2 hd.2) ?_) (Int.le_of_eq (Ls.den_comb ρ σ k _ _).symm)
   cases e:f.ls.2.2 with
   | true=>exact Int.le_of_eq (congrArg (k * ·) (b e).symm)
   | false=>exact Int.mul_le_mul_of_nonneg_left a (of_decide_eq_true ((Bool.or_eq_true_iff.mp hp.1).resolve_left fun q=>by rw[e] at q;cases q))
theorem Kp:∀x ρ:List Int,x.all (fun x=>decide (x=0))=true→CT x ρ=0:=by
 intro x
 induction x with
 | nil=>intro ρ _;rfl
 | cons a r ih=>intro ρ h;cases ρ with
  | nil=>rfl
  | cons y q =>
   have h:=Bool.and_eq_true_iff.mp h
   show a*y+CT r q=0
   rw[ih q h.2,of_decide_eq_true h.1,Int.zero_mul];rfl
theorem Lp:∀(x:List Int) (σ:List Nat),x.all (fun x=>decide (x≤0))=true→CT x (IP σ)≤0:=by
 intro x
 induction x with
 | nil=>intro σ _;exact Int.le_refl 0
 | cons a r ih=>intro σ h;cases σ with
  | nil=>exact Int.le_refl 0
  | cons y q =>
   have h:=Bool.and_eq_true_iff.mp h
   exact Int.add_nonpos (Int.mul_nonpos_of_nonpos_of_nonneg (of_decide_eq_true h.1) (Int.natCast_nonneg y)) (ih q h.2)
theorem Dy (fs:List LF) (ks:List Int) (h:lok fs ks=true) (hd:O0 ρ σ fs):False:=by
 obtain⟨h1,h⟩:=Bool.and_eq_true_iff.mp h
 obtain⟨h2,h⟩:=Bool.and_eq_true_iff.mp h
 obtain⟨h3,h4⟩:=Bool.and_eq_true_iff.mp h
 have a:=Ny ρ σ fs ks h1 hd
 refine Int.not_le.mpr (of_decide_eq_true h2) (Int.le_trans a ?_)
 show _+(CT _ ρ+CT _ (IP σ))≤_
 rw[Kp _ ρ h3,Int.zero_add]
 exact Int.le_trans (Int.add_le_add_left (Lp _ σ h4) _) (Int.le_of_eq (Int.add_zero _))
theorem Dz {P:Prop} (fs:List LF):(O0 ρ σ fs→P)→Ih ρ σ P fs:=by
 induction fs with
 | nil=>intro h;exact h trivial
 | cons f fs ih=>intro h hf;exact ih fun q=>h ⟨hf,q⟩
end
theorem lf (ρ:List Int) (σ:List Nat) (fs:List LF) (ks:List Int) (h:lok fs ks=true):Ih ρ σ False fs:=Dz ρ σ fs (Dy ρ σ fs ks h)
theorem la (ρ:List Int) (σ:List Nat) (x y:IE) (fs:List LF) (ks:List Int) (h:lok (.b y x :: fs) ks=true):Ih ρ σ (x.den ρ σ≤y.den ρ σ) fs:=Dz ρ σ fs fun q=>Int.not_lt.mp fun n=>Dy ρ σ _ ks h ⟨n,q⟩
theorem lb (ρ:List Int) (σ:List Nat) (x y:IE) (fs:List LF) (ks:List Int) (h:lok (.l y x :: fs) ks=true):Ih ρ σ (x.den ρ σ<y.den ρ σ) fs:=Dz ρ σ fs fun q=>Int.not_le.mp fun n=>Dy ρ σ _ ks h ⟨n,q⟩
theorem lA (ρ:List Int) (σ:List Nat) (x y:NE) (fs:List LF) (ks:List Int) (h:lok (.B y x :: fs) ks=true):Ih ρ σ (x.den σ≤y.den σ) fs:=Dz ρ σ fs fun q=>Nat.not_lt.mp fun n=>Dy ρ σ _ ks h ⟨n,q⟩
theorem lB (ρ:List Int) (σ:List Nat) (x y:NE) (fs:List LF) (ks:List Int) (h:lok (.L y x :: fs) ks=true):Ih ρ σ (x.den σ<y.den σ) fs:=Dz ρ σ fs fun q=>Nat.not_le.mp fun n=>Dy ρ σ _ ks h ⟨n,q⟩
theorem lq (ρ:List Int) (σ:List Nat) (x y:IE) (fs:List LF) (ks js:List Int) (h:(lok (.b x y :: fs) ks && lok (.b y x :: fs) js)=true):Ih ρ σ (x.den ρ σ=y.den ρ σ) fs:=Dz ρ σ fs fun q =>
 have h:=Bool.and_eq_true_iff.mp h
 Int.le_antisymm (Int.not_lt.mp fun n=>Dy ρ σ _ js h.2 ⟨n,q⟩) (Int.not_lt.mp fun n=>Dy ρ σ _ ks h.1 ⟨n,q⟩)
theorem lQ (ρ:List Int) (σ:List Nat) (x y:NE) (fs:List LF) (ks js:List Int) (h:(lok (.B x y :: fs) ks && lok (.B y x :: fs) js)=true):Ih ρ σ (x.den σ=y.den σ) fs:=Dz ρ σ fs fun q =>
 have h:=Bool.and_eq_true_iff.mp h
 Nat.le_antisymm (Nat.not_lt.mp fun n=>Dy ρ σ _ js h.2 ⟨n,q⟩) (Nat.not_lt.mp fun n=>Dy ρ σ _ ks h.1 ⟨n,q⟩)
theorem em0 {a:Int} (k:Int) (h:decide (0<k)=true):0≤a % k:=Int.emod_nonneg a (Int.ne_of_gt (of_decide_eq_true h))
theorem em1 {a:Int} (k:Int) (h:decide (0<k)=true):a % k<k:=Int.emod_lt_of_pos a (of_decide_eq_true h)
theorem ed0 {a:Int} (k:Int) (h:decide (0<k)=true):k*(a / k)≤a:=Int.mul_ediv_self_le (Int.ne_of_gt (of_decide_eq_true h))
theorem ed1 {a:Int} (k:Int) (h:decide (0<k)=true):a<k*(a / k)+k:=Int.lt_mul_ediv_self_add (of_decide_eq_true h)
theorem nd0 {a:Nat} (k:Nat):k*(a / k)≤a:=Nat.mul_div_le a k
theorem nd1 {a:Nat} (k:Nat) (h:decide (0<k)=true):a<k*(a / k)+k:=Nat.lt_mul_div_succ a (of_decide_eq_true h)
theorem tn0 {a:Int}:a≤(a.toNat:Int):=Int.self_le_toNat a
theorem tnE {a:Int} (h:0≤a):(a.toNat:Int)=a:=Int.toNat_of_nonneg h
theorem tnZ {a:Int} (h:a≤0):a.toNat=0:=Int.toNat_of_nonpos h
theorem ns0 {a b:Nat}:a-b≤a:=Nat.sub_le a b
theorem ns1 {a b:Nat}:a≤a-b+b:=Nat.sub_le_iff_le_add.mp (Nat.le_refl _)
theorem nsE {a b:Nat} (h:b≤a):a-b+b=a:=Nat.sub_add_cancel h
end
end Mine.Internal
end

section
namespace Mine.Internal
open PySem (Str Addr)
noncomputable section

set_option genCtorIdx true in
set_option genInjectivity true in
inductive V where
 | none
 | bool (b:Bool)
 | int (i:Int)
 | str (s:Str)
 | tup (vs:List V)
 | ref (a:Addr)
 | ro (xs:List Int)
 | exc (c:String)
 deriving Inhabited

set_option genCtorIdx true in
set_option genInjectivity true in
inductive Ob where
 | list (xs:List V)
 | dict (kvs:List (Int×V))
 deriving Inhabited

abbrev Hp:=Addr→Option Ob
noncomputable def Hp.set (H:Hp) (a:Addr) (o:Ob):Hp:=fun b=>if b=a then some o else H b
abbrev Loc:=List (Option V)

set_option genCtorIdx true in
inductive Op where
 | add | sub | mul | fdiv | mod | pow
set_option genCtorIdx true in
inductive BF where
 | len | min2 | max2 | abs | sum | sorted | list | int
set_option genCtorIdx true in
inductive Mt where
 | append | clear | count | get | pop | reverse | popD
 deriving DecidableEq
set_option genCtorIdx true in
inductive Cm where
 | eq | ne | lt | le | gt | ge | is | isNot | isIn | notIn
inductive Cn where
 | own (c:String) | int | bool | list | tuple | valueError
inductive Tg where
 | one (i:Nat) | two (i j:Nat)
set_option genCtorIdx true in
set_option genInjectivity true in
inductive It where
 | v (x:V) | p (x y:V)

mutual
inductive Ex where
 | none | bool (b:Bool) | int (i:Int) | str (s:String)
 | var (i:Nat)
 | glob (x:String) (n:Int)
 | bin (op:Op) (a b:Ex)
 | neg (a:Ex)
 | nt (a:Ex)
 | cmp (op:Cm) (a b:Ex)
 | cmp2 (o1 o2:Cm) (a b c:Ex)
 | bop (conj:Bool) (es:Exs)
 | list (es:Exs)
 | tup (es:Exs)
 | dict0
 | idx (e i:Ex)
 | slTo (e k:Ex) | slFrom (e k:Ex) | slFT (e j k:Ex) | rev (e:Ex)
 | call (f:String) (es:Exs)
 | bc (f:BF) (es:Exs)
 | mt (m:Mt) (o:Ex) (es:Exs)
 | isi (e:Ex) (cs:List Cn)
 | comp (elt:Ex) (t:Tg) (src:Sr)
 | compIf (elt:Ex) (t:Tg) (src:Sr) (c:Ex)
 | compD (elt:Ex) (t:Tg) (e:Ex)
inductive Exs where
 | nil | cons (e:Ex) (r:Exs)
inductive Sr where
 | ex (e:Ex)
 | range1 (b:Ex) | range3 (a b c:Ex)
 | enum (s:Sr)
 | zip (a b:Ex)
end

mutual
inductive St where
 | asg (i:Nat) (e:Ex)
 | asg2 (i j:Nat) (e:Ex)
 | asg3 (i j k:Nat) (e:Ex)
 | setIt (o i v:Ex)
 | ex (e:Ex)
 | ret (e:Ex)
 | ife (c:Ex) (a b:Sts)
 | whl (c:Ex) (b:Sts)
 | for (t:Tg) (s:Sr) (b:Sts)
 | raise (c:String) (msg:String)
 | tr (b:Sts) (hs:Hs)
 | pass
inductive Sts where
 | nil | cons (s:St) (r:Sts)
inductive Hs where
 | nil | cons (c:String) (x:Option Nat) (b:Sts) (r:Hs)
end

structure Gl where
 call:String→List V→(V→Hp→Prop)→(String→Hp→Prop)→Hp→Prop
 anc:String→List String

noncomputable def Lim:Nat:=16777216
noncomputable def Sm (x:Int):Prop:=-18446744073709551616<x∧x<18446744073709551616
noncomputable def Ix (x:Int):Prop:=-4611686018427387904<x∧x<4611686018427387904

noncomputable def vk {α:Sort 1} (x:V) (d:α) (n:α) (b:Bool→α) (i:Int→α) (t:List V→α) (r:Addr→α):α:=V.casesOn (motive_1:=fun ξ=>α) x n b i (fun ξ=>d) t r (fun ξ=>d) (fun ξ=>d)
noncomputable def B1 (x:V) (K:Int→Prop):Prop:=V.casesOn (motive_1:=fun ξ=>Prop) x False (fun ξ=>False) K (fun ξ=>False) (fun ξ=>False) (fun ξ=>False) (fun ξ=>False) (fun ξ=>False)
noncomputable def MZ (x:V) (K:List V→Prop):Prop:=V.casesOn (motive_1:=fun ξ=>Prop) x False (fun ξ=>False) (fun ξ=>False) (fun ξ=>False) K (fun ξ=>False) (fun ξ=>False) (fun ξ=>False)
noncomputable def DW (x:V) (K:Addr→Prop):Prop:=V.casesOn (motive_1:=fun ξ=>Prop) x False (fun ξ=>False) (fun ξ=>False) (fun ξ=>False) (fun ξ=>False) K (fun ξ=>False) (fun ξ=>False)
noncomputable def H3 {α:Type} (l:List α) (K:α→Prop):Prop:=List.casesOn (motive:=fun ξ=>Prop) l False fun x r=>List.casesOn (motive:=fun ξ=>Prop) r (K x) fun ξ ξ=>False
noncomputable def two1 {α:Type} (l:List α) (K:α→α→Prop):Prop:=List.casesOn (motive:=fun ξ=>Prop) l False fun x r=>H3 r (K x)
noncomputable def thr1 {α:Type} (l:List α) (K:α→α→α→Prop):Prop:=List.casesOn (motive:=fun ξ=>Prop) l False fun x r=>two1 r (K x)
noncomputable def ob1 {α:Sort 1} (o:Option Ob) (d:α) (K:List V→α) (D:List (Int×V)→α):α:=Option.casesOn (motive:=fun ξ=>α) o d fun b=>Ob.casesOn (motive:=fun ξ=>α) b K D
theorem AV {x:V}{K:Int→Prop} (h:B1 x K):∃a,x=.int a∧K a:=by
 cases x with
 | int a=>exact⟨a,rfl,h⟩
 | _=>exact h.elim
theorem Gf {x:V}{K:List V→Prop} (h:MZ x K):∃a,x=.tup a∧K a:=by
 cases x with
 | tup a=>exact⟨a,rfl,h⟩
 | _=>exact h.elim
theorem AU {x:V}{K:Addr→Prop} (h:DW x K):∃a,x=.ref a∧K a:=by
 cases x with
 | ref a=>exact⟨a,rfl,h⟩
 | _=>exact h.elim
theorem BX {α:Type}{l:List α}{K:α→Prop} (h:H3 l K):∃a,l=[a]∧K a:=by
 cases l with
 | nil=>exact h.elim
 | cons a r=>cases r with
  | nil=>exact⟨a,rfl,h⟩
  | cons _ _=>exact h.elim
theorem two1_inv {α:Type}{l:List α}{K:α→α→Prop} (h:two1 l K):∃a b,l=[a,b]∧K a b:=by
 cases l with
 | nil=>exact h.elim
 | cons a r=>obtain⟨b,rfl,h⟩:=BX h;exact⟨a,b,rfl,h⟩
theorem Lz {α:Type}{l:List α}{K:α→α→α→Prop} (h:thr1 l K):∃a b c,l=[a,b,c]∧K a b c:=by
 cases l with
 | nil=>exact h.elim
 | cons a r=>obtain⟨b,c,rfl,h⟩:=two1_inv h;exact⟨a,b,c,rfl,h⟩
theorem Cd {o:Option Ob}{K:List V→Prop}{D:List (Int×V)→Prop} (h:ob1 o False K D):(∃xs,o=some (.list xs)∧K xs)∨(∃kvs,o=some (.dict kvs)∧D kvs):=by
 cases o with
 | none=>exact h.elim
 | some b=>cases b with
  | list xs=>exact .inl ⟨xs,rfl,h⟩
  | dict kvs=>exact .inr ⟨kvs,rfl,h⟩
theorem Hm {o:Option Ob}{K:List V→Prop} (h:ob1 o False K fun ξ=>False):∃xs,o=some (.list xs)∧K xs:=(Cd h).elim id fun h=>h.elim fun ξ h=>h.2.elim

noncomputable def vbN (y:V):Option Bool:=V.casesOn (motive_1:=fun ξ=>Option Bool) y (some true) (fun ξ=>some false) (fun ξ=>some false) (fun ξ=>some false) (fun ξ=>some false) (fun ξ=>none) (fun ξ=>none) (fun ξ=>none)
noncomputable def vbS (y:V) (b:Bool→Option Bool) (i:Int→Option Bool) (s:Str→Option Bool):Option Bool:=V.casesOn (motive_1:=fun ξ=>Option Bool) y (some false) b i s (fun ξ=>none) (fun ξ=>none) (fun ξ=>none) (fun ξ=>none)
noncomputable def vb (x y:V):Option Bool:=V.casesOn (motive_1:=fun ξ=>Option Bool) x (vbN y) (fun a=>vbS y (fun b=>some (a == b)) (fun ξ=>none) fun ξ=>none) (fun a=>vbS y (fun ξ=>none) (fun b=>some (decide (a=b))) fun ξ=>none)
 (fun a=>vbS y (fun ξ=>none) (fun ξ=>none) fun b=>some (decide (a=b))) (fun ξ=>vbS y (fun ξ=>none) (fun ξ=>none) fun ξ=>none) (fun ξ=>none) (fun ξ=>none) (fun ξ=>none)
noncomputable def CM (a b:Option Bool):Option Bool:=Option.casesOn (motive:=fun ξ=>Option Bool) a none fun a=>Option.casesOn (motive:=fun ξ=>Option Bool) b none fun b=>some (a && b)
noncomputable def oor (a b:Option Bool):Option Bool:=Option.casesOn (motive:=fun ξ=>Option Bool) a none fun a=>Option.casesOn (motive:=fun ξ=>Option Bool) b none fun b=>some (a || b)
theorem Gs {a b:Option Bool}{c:Bool} (h:CM a b=some c):∃p q,a=some p∧b=some q∧c=(p && q):=by
 cases a with
 | none=>cases h
 | some p=>cases b with
  | none=>cases h
  | some q=>exact⟨p,q,rfl,rfl,(Option.some.inj h).symm⟩
theorem G5 {a b:Option Bool}{c:Bool} (h:oor a b=some c):∃p q,a=some p∧b=some q∧c=(p || q):=by
 cases a with
 | none=>cases h
 | some p=>cases b with
  | none=>cases h
  | some q=>exact⟨p,q,rfl,rfl,(Option.some.inj h).symm⟩
noncomputable def BE (f:V→V→Option Bool) (xs:List V):List V→Option Bool:=List.rec (motive:=fun ξ=>List V→Option Bool) (fun ys=>List.casesOn (motive:=fun ξ=>Option Bool) ys (some true) fun ξ ξ=>some false)
 (fun x ξ r ys=>List.casesOn (motive:=fun ξ=>Option Bool) ys (some false) fun y ys=>CM (f x y) (r ys)) xs
noncomputable def veq (n:Nat):Hp→V→V→Option Bool:=Nat.rec (motive:=fun ξ=>Hp→V→V→Option Bool) (fun ξ=>vb) (fun ξ f H x y=>V.casesOn (motive_1:=fun ξ=>Option Bool) x
  (V.casesOn (motive_1:=fun ξ=>Option Bool) y (vb x y) (fun ξ=>vb x y) (fun ξ=>vb x y) (fun ξ=>vb x y) (fun ξ=>vb x y) (fun a=>ob1 (H a) none (fun ξ=>some false) fun ξ=>none) (fun ξ=>none) (fun ξ=>none))
  (fun ξ=>vb x y) (fun ξ=>vb x y) (fun ξ=>vb x y)
  (fun xs=>V.casesOn (motive_1:=fun ξ=>Option Bool) y (vb x y) (fun ξ=>none) (fun ξ=>none) (fun ξ=>none) (fun ys=>BE (f H) xs ys) (fun ξ=>none) (fun ξ=>none) (fun ξ=>none))
  (fun a=>V.casesOn (motive_1:=fun ξ=>Option Bool) y (ob1 (H a) none (fun ξ=>some false) fun ξ=>none) (fun ξ=>none) (fun ξ=>none) (fun ξ=>none) (fun ξ=>none) (fun b=>ob1 (H a) none (fun xs=>ob1 (H b) none (fun ys=>BE (f H) xs ys) fun ξ=>none) fun ξ=>none) (fun ξ=>none) (fun ξ=>none))
  (fun ξ=>none) (fun ξ=>none)) n
noncomputable abbrev Bd:Nat:=8

noncomputable def okH (w:List (Addr×Ob)) (H:Hp):Prop:=∀p∈w,H p.1=some p.2

noncomputable def Bb (xs:List V) (Q:V→Hp→Prop) (H:Hp):Prop:=xs.length≤Lim∧∀a,H a=none→Q (.ref a) (H.set a (.list xs))

noncomputable def wadd (x y:V) (Q:V→Hp→Prop) (H:Hp):Prop:=vk x False False (fun ξ=>False) (fun a=>B1 y fun b=>Q (.int (a+b)) H) (fun xs=>MZ y fun ys=>xs.length+ys.length≤Lim∧Q (.tup (xs++ys)) H)
 (fun a=>DW y fun b=>∃xs ys,H a=some (.list xs)∧H b=some (.list ys)∧Bb (xs++ys) Q H)
noncomputable def wmul (x y:V) (Q:V→Hp→Prop) (H:Hp):Prop:=vk x False False (fun ξ=>False) (fun a=>B1 y fun b=>(Sm a∨Sm b)∧Q (.int (a*b)) H) (fun ξ=>False)
 (fun a=>B1 y fun n=>∃x,H a=some (.list [x])∧(Ix n∧n≤16777216)∧Bb (List.replicate n.toNat x) Q H)
noncomputable def EZ (op:Op) (x y:V) (Q:V→Hp→Prop) (H:Hp):Prop:=Op.casesOn (motive:=fun ξ=>Prop) op
 (wadd x y Q H)
 (B1 x fun a=>B1 y fun b=>Q (.int (a-b)) H)
 (wmul x y Q H)
 (B1 x fun a=>B1 y fun b=>(0<b∧b<1073741824)∧Q (.int (a / b)) H)
 (B1 x fun a=>B1 y fun b=>0<b∧Q (.int (a % b)) H)
 (B1 x fun a=>B1 y fun b=>(0≤a∧a≤10∧0≤b∧b≤20)∧Q (.int (a ^ b.toNat)) H)

noncomputable def C6 (k:Int):List (Int×V)→Option V
 | []=>none
 | (j,v) :: r=>if j=k then some v else C6 k r
noncomputable def EF (k:Int) (v:V):List (Int×V)→List (Int×V)
 | []=>[(k,v)]
 | (j,x) :: r=>if j=k then (j,v) :: r else (j,x) :: EF k v r
noncomputable def G0 (k:Int):List (Int×V)→List (Int×V)
 | []=>[]
 | (j,x) :: r=>if j=k then r else (j,x) :: G0 k r

noncomputable def inL (H:Hp) (x:V) (l:List V):Option Bool:=List.rec (motive:=fun ξ=>Option Bool) (some false) (fun y ξ r=>oor (veq Bd H y x) r) l
noncomputable def MI (x y:V):Option Bool:=V.casesOn (motive_1:=fun ξ=>Option Bool) x none (fun a=>vk y none none (fun b=>some (b == a)) (fun ξ=>none) (fun ξ=>none) fun ξ=>none) (fun a=>vk y none none (fun ξ=>none) (fun b=>some (b == a)) (fun ξ=>none) fun ξ=>none)
 (fun ξ=>none) (fun ξ=>none) (fun ξ=>none) (fun ξ=>none) (fun ξ=>none)
noncomputable def H7 (x:V) (l:List V):Option Nat:=List.rec (motive:=fun ξ=>Option Nat) (some 0) (fun y ξ r=>Option.casesOn (motive:=fun ξ=>Option Nat) (MI x y) none fun b=>Option.casesOn (motive:=fun ξ=>Option Nat) r none fun n=>some (if b then n+1 else n)) l

noncomputable def OI (x y:V) (T F:Prop):Prop:=vk y False (vk x False T (fun ξ=>False) (fun ξ=>F) (fun ξ=>F) fun ξ=>F) (fun ξ=>False) (fun ξ=>False) (fun ξ=>False) fun ξ=>False
noncomputable def BC (op:Cm) (x y:V) (Q:Bool→Hp→Prop) (H:Hp):Prop:=Cm.casesOn (motive:=fun ξ=>Prop) op
 (∃b,veq Bd H x y=some b∧Q b H)
 (∃b,veq Bd H x y=some b∧Q (!b) H)
 (B1 x fun a=>B1 y fun b=>Q (decide (a<b)) H)
 (B1 x fun a=>B1 y fun b=>Q (decide (a≤b)) H)
 (B1 x fun a=>B1 y fun b=>Q (decide (b<a)) H)
 (B1 x fun a=>B1 y fun b=>Q (decide (b≤a)) H)
 (OI x y (Q true H) (Q false H))
 (OI x y (Q false H) (Q true H))
 (DW y fun a=>ob1 (H a) False (fun ys=>∃b,inL H x ys=some b∧Q b H) fun kvs=>B1 x fun k=>Q (C6 k kvs).isSome H)
 (DW y fun a=>ob1 (H a) False (fun ys=>∃b,inL H x ys=some b∧Q (!b) H) fun kvs=>B1 x fun k=>Q (C6 k kvs).isNone H)

noncomputable def place (i:Int) (n:Nat):Option Nat:=if 0≤i then (if i.toNat<n then some i.toNat else none) else (if 0≤i+n then some (i+n).toNat else none)

noncomputable def itW {α:Type} (xs:List α) (i:Int) (K:α→Prop):Prop:=∃j z,Ix i∧place i xs.length=some j∧xs[j]?=some z∧K z
noncomputable def Ce (x y:V) (Q:V→Hp→Prop) (H:Hp):Prop:=B1 y fun i=>V.casesOn (motive_1:=fun ξ=>Prop) x False (fun ξ=>False) (fun ξ=>False) (fun ξ=>False) (fun xs=>itW xs i fun z=>Q z H)
 (fun a=>ob1 (H a) False (fun xs=>itW xs i fun z=>Q z H) fun kvs=>∃z,C6 i kvs=some z∧Q z H) (fun xs=>itW xs i fun z=>Q (.int z) H) (fun ξ=>False)

noncomputable def De (i:Int) (n:Nat):Nat:=(max 0 (min (if i<0 then i+n else i) n)).toNat
noncomputable def CE (x:V) (lo hi:Option Int) (Q:V→Hp→Prop) (H:Hp):Prop:=(∀i,lo=some i→Ix i)∧(∀i,hi=some i→Ix i)∧V.casesOn (motive_1:=fun ξ=>Prop) x False (fun ξ=>False) (fun ξ=>False) (fun ξ=>False) (fun xs=>lo=none∧∃i:Int,hi=some i∧(0≤i∧i≤xs.length)∧Q (.tup (xs.take i.toNat)) H)
 (fun a=>∃xs,H a=some (.list xs)∧Bb ((xs.take ((hi.map (De · xs.length)).getD xs.length)).drop ((lo.map (De · xs.length)).getD 0)) Q H)
 (fun xs=>Bb (((xs.take ((hi.map (De · xs.length)).getD xs.length)).drop ((lo.map (De · xs.length)).getD 0)).map .int) Q H) (fun ξ=>False)

noncomputable def Da:List V→Option (List Int)
 | []=>some []
 | .int i :: r=>(Da r).map (i :: ·)
 | _ :: _=>none
noncomputable def Bo (p:Int×Int):V:=.tup [.int p.1,.int p.2]

noncomputable def lenW (x:V) (Q:V→Hp→Prop) (H:Hp):Prop:=V.casesOn (motive_1:=fun ξ=>Prop) x False (fun ξ=>False) (fun ξ=>False) (fun ξ=>False) (fun xs=>Q (.int xs.length) H)
 (fun a=>ob1 (H a) False (fun xs=>Q (.int xs.length) H) fun kvs=>Q (.int kvs.length) H) (fun xs=>Q (.int xs.length) H) (fun ξ=>False)
noncomputable def sortW (o : Option Ob) (Q : V → Hp → Prop) (H : Hp) : Prop := ob1 o False
  (fun xs => xs.length < 64 ∧ ((∃ is, Da xs = some is ∧ ∀ js : List Int, js.Perm is → js.Pairwise (· ≤ ·) → Bb (js.map V.int) Q H) ∨
        (∃ ps : List (Int × Int), xs = ps.map Bo ∧ (ps.map (·.1)).Nodup ∧ ∀ qs : List (Int × Int), qs.Perm ps → (qs.map (·.1)).Pairwise (· ≤ ·) → Bb (qs.map Bo) Q H)))
  fun kvs => kvs.length < 64 ∧ ∀ js : List Int, js.Perm (kvs.map (·.1)) → js.Pairwise (· ≤ ·) → Bb (js.map V.int) Q H
noncomputable def wbc (f:BF) (vs:List V) (Q:V→Hp→Prop) (H:Hp):Prop:=BF.casesOn (motive:=fun ξ=>Prop) f
 (H3 vs fun x=>lenW x Q H)
 (two1 vs fun x y=>B1 x fun a=>B1 y fun b=>Q (.int (if b<a then b else a)) H)
 (two1 vs fun x y=>B1 x fun a=>B1 y fun b=>Q (.int (if b > a then b else a)) H)
 False
 (H3 vs fun x=>DW x fun a=>∃xs is,H a=some (.list xs)∧Da xs=some is∧Q (.int is.sum) H)
 (H3 vs fun x=>DW x fun a=>sortW (H a) Q H)
 (H3 vs fun x=>DW x fun a=>∃xs,H a=some (.list xs)∧Bb xs Q H)
 (H3 vs fun x=>vk x False False (fun b=>Q (.int (if b then 1 else 0)) H) (fun ξ=>False) (fun ξ=>False) fun ξ=>False)

noncomputable def popW (a:Addr) (vs:List V) (Q:V→Hp→Prop) (H:Hp):Prop:=List.casesOn (motive:=fun ξ=>Prop) vs (∃xs x,H a=some (.list (xs++[x]))∧Q x (H.set a (.list xs)))
 fun y r=>List.casesOn (motive:=fun ξ=>Prop) r False fun ξ ξ=>False
noncomputable def OJ {α:Type} (l:List α) (P:Prop):Prop:=List.casesOn (motive:=fun ξ=>Prop) l P fun ξ ξ=>False
noncomputable def wmt (m:Mt) (o:V) (vs:List V) (Q:V→Hp→Prop) (H:Hp):Prop:=DW o fun a=>Mt.casesOn (motive:=fun ξ=>Prop) m
 (H3 vs fun x=>∃xs,H a=some (.list xs)∧xs.length<Lim∧Q .none (H.set a (.list (xs++[x]))))
 (OJ vs (∃xs,H a=some (.list xs)∧Q .none (H.set a (.list []))))
 (H3 vs fun x=>∃xs n,H a=some (.list xs)∧H7 x xs=some n∧Q (.int n) H)
 False
 (popW a vs Q H)
 (OJ vs (∃xs,H a=some (.list xs)∧Q .none (H.set a (.list xs.reverse))))
 (H3 vs fun k=>B1 k fun i=>∃kvs z,H a=some (.dict kvs)∧C6 i kvs=some z∧Q z (H.set a (.dict (G0 i kvs))))
theorem IO {α:Type}{l:List α}{P:Prop} (h:OJ l P):l=[]∧P:=by
 cases l with
 | nil=>exact⟨rfl,h⟩
 | cons _ _=>exact h.elim

noncomputable def Np (m:Mt) (x:V) (H:Hp):Prop:=DW x fun a=>ob1 (H a) False (fun ξ=>m≠.get∧m≠.popD) fun ξ=>m=.get∨m=.popD

noncomputable def EL (H:Hp) (v:V) (n b i s t l d:Bool):Option Bool:=V.casesOn (motive_1:=fun ξ=>Option Bool) v (some n) (fun ξ=>some b) (fun ξ=>some i) (fun ξ=>some s) (fun ξ=>some t) (fun a=>ob1 (H a) none (fun ξ=>some l) fun ξ=>some d) (fun ξ=>none) (fun ξ=>none)
noncomputable def NM (v:V) (K:String→Bool):Option Bool:=V.casesOn (motive_1:=fun ξ=>Option Bool) v none (fun ξ=>none) (fun ξ=>none) (fun ξ=>none) (fun ξ=>none) (fun ξ=>none) (fun ξ=>none) (fun d=>some (K d))
noncomputable def GH (anc:String→List String) (H:Hp) (v:V) (c:Cn):Option Bool:=Cn.casesOn (motive:=fun ξ=>Option Bool) c
 (fun c=>NM v fun d=>(anc d).contains c)
 (EL H v false true true false false false false)
 (EL H v false true false false false false false)
 (EL H v false false false false false true false)
 (EL H v false false false false true false false)
 (NM v fun ξ=>true)
noncomputable def Fx (anc:String→List String) (H:Hp) (v:V) (l:List Cn):Option Bool:=List.rec (motive:=fun ξ=>Option Bool) (some false) (fun c ξ r=>oor (GH anc H v c) r) l

noncomputable def Bt (t:Tg) (it:It) (ρ:Loc):Option Loc:=Tg.casesOn (motive:=fun ξ=>Option Loc) t
 (fun i=>It.casesOn (motive:=fun ξ=>Option Loc) it (fun x=>some (ρ.set i (some x))) fun ξ ξ=>none)
 fun i j=>It.casesOn (motive:=fun ξ=>Option Loc) it (fun v=>V.casesOn (motive_1:=fun ξ=>Option Loc) v none (fun ξ=>none) (fun ξ=>none) (fun ξ=>none)
  (fun vs=>List.casesOn (motive:=fun ξ=>Option Loc) vs none fun x r=>List.casesOn (motive:=fun ξ=>Option Loc) r none fun y q=>List.casesOn (motive:=fun ξ=>Option Loc) q (some ((ρ.set i (some x)).set j (some y))) fun ξ ξ=>none)
  (fun ξ=>none) (fun ξ=>none) fun ξ=>none) fun x y=>some ((ρ.set i (some x)).set j (some y))

noncomputable def Fh (t:Tg) (w:List (Addr×Ob)) (body:Loc→(Loc→Hp→Prop)→Hp→Prop):List It→Loc→(Loc→Hp→Prop)→Hp→Prop
 | [],ρ,N,H=>okH w H∧N ρ H
 | it :: its,ρ,N,H=>okH w H∧∃ρ',Bt t it ρ=some ρ'∧body ρ' (fun ρ'' H''=>Fh t w body its ρ'' N H'') H

noncomputable def AT (t:Tg) (w:List (Addr×Ob)) (ρ:Loc) (elt:Loc→(V→Hp→Prop)→Hp→Prop) (test:Loc→(Bool→Hp→Prop)→Hp→Prop):List It→List V→(List V→Hp→Prop)→Hp→Prop
 | [],acc,Q,H=>okH w H∧Q acc H
 | it :: its,acc,Q,H=>okH w H∧acc.length<Lim∧∃ρ',Bt t it ρ=some ρ'∧test ρ' (fun b H₁=>if b then elt ρ' (fun v H₂=>AT t w ρ elt test its (acc++[v]) Q H₂) H₁ else AT t w ρ elt test its acc Q H₁) H

noncomputable def Bm (lo st:Int) (n:Nat):List It:=(List.range n).map fun (k:Nat)=>It.v (.int (lo+(k:Int)*st))
noncomputable def Eg (k:Int):List It→Option (List It)
 | []=>some []
 | .v x :: r=>(Eg (k+1) r).map (It.p (.int k) x :: ·)
 | .p _ _ :: _=>none
noncomputable def Ga:List V→List V→List It
 | x :: xs,y :: ys=>It.p x y :: Ga xs ys
 | _,_=>[]

noncomputable def asB (Q:Bool→Hp→Prop) (v:V) (H:Hp):Prop:=V.casesOn (motive_1:=fun ξ=>Prop) v False (fun b=>Q b H) (fun ξ=>False) (fun ξ=>False) (fun ξ=>False) (fun ξ=>False) (fun ξ=>False) (fun ξ=>False)
theorem NY {Q:Bool→Hp→Prop}{v:V}{H:Hp} (h:asB Q v H):∃b,v=.bool b∧Q b H:=by
 cases v with
 | bool b=>exact⟨b,rfl,h⟩
 | _=>exact h.elim
noncomputable def un2 (v:V) (K:V→V→Prop):Prop:=MZ v fun l=>two1 l K
noncomputable def un3 (v:V) (K:V→V→V→Prop):Prop:=MZ v fun l=>thr1 l K
noncomputable def KA (z x y:V) (N:Hp→Prop) (H:Hp):Prop:=DW x fun a=>B1 y fun k=>ob1 (H a) False
 (fun xs=>(0≤k∧k<xs.length)∧N (H.set a (.list (xs.set k.toNat z)))) fun kvs=>kvs.length<Lim∧N (H.set a (.dict (EF k z kvs)))
abbrev SK:=List It→List (Addr×Ob)→Hp→Prop
noncomputable def Ku (v:V) (K:SK) (H:Hp):Prop:=DW v fun a=>ob1 (H a) False (fun xs=>K (xs.map It.v) [(a,.list xs)] H) fun ξ=>False
noncomputable def MF (v:V) (K:SK) (H:Hp):Prop:=DW v fun a=>ob1 (H a) False (fun ξ=>False) fun kvs=>K (kvs.map fun p=>It.v (.int p.1)) [(a,.dict kvs)] H
noncomputable def Bj (lo hi st:Int):Nat:=if 0<st then ((hi-lo+st-1) / st).toNat else ((lo-hi-st-1) / (-st)).toNat

noncomputable def r1W (v:V) (K:SK) (H:Hp):Prop:=B1 v fun n=>Ix n∧K (Bm 0 1 n.toNat) [] H
noncomputable def r3W (u v t:V) (K:SK) (H:Hp):Prop:=B1 u fun m=>B1 v fun n=>B1 t fun st=>Ix m∧Ix n∧Ix st∧st≠0∧K (Bm m st (Bj m n st)) [] H
noncomputable def MU (u v:V) (K:SK) (H:Hp):Prop:=DW u fun p=>DW v fun q=>∃xs ys,H p=some (.list xs)∧H q=some (.list ys)∧K (Ga xs ys) [(p,.list xs),(q,.list ys)] H
noncomputable def Iq (o:Option (Option V)) (K:V→Prop):Prop:=Option.casesOn (motive:=fun ξ=>Prop) o False fun o=>Option.casesOn (motive:=fun ξ=>Prop) o False K
theorem Lu {o:Option (Option V)}{K:V→Prop} (h:Iq o K):∃v,o=some (some v)∧K v:=by
 cases o with
 | none=>exact h.elim
 | some o=>cases o with
  | none=>exact h.elim
  | some v=>exact⟨v,rfl,h⟩

noncomputable def hW (x:Option Nat) (a:Prop) (b:Nat→Prop):Prop:=Option.casesOn (motive:=fun ξ=>Prop) x a b
mutual
noncomputable def wpE (G:Gl) (hd:Bool):Ex→Loc→(V→Hp→Prop)→(String→Hp→Prop)→Hp→Prop
 | .none,_,Q,_,H=>Q .none H
 | .bool b,_,Q,_,H=>Q (.bool b) H
 | .int i,_,Q,_,H=>Q (.int i) H
 | .str s,_,Q,_,H=>Q (.str (Str.ofString s)) H
 | .var i,ρ,Q,_,H=>Iq ρ[i]? fun v=>Q v H
 | .glob _ n,_,Q,_,H=>Q (.int n) H
 | .bin op a b,ρ,Q,X,H=>wpE G hd a ρ (fun x H₁=>wpE G hd b ρ (fun y H₂=>EZ op x y Q H₂) X H₁) X H
 | .neg a,ρ,Q,X,H=>wpE G hd a ρ (fun x H₁=>B1 x fun i=>Q (.int (-i)) H₁) X H
 | .nt a,ρ,Q,X,H=>wpE G hd a ρ (asB fun b H₁=>Q (.bool (!b)) H₁) X H
 | .cmp op a b,ρ,Q,X,H=>wpE G hd a ρ (fun x H₁=>wpE G hd b ρ (fun y H₂=>BC op x y (fun c H₃=>Q (.bool c) H₃) H₂) X H₁) X H
 | .cmp2 o1 o2 a b c,ρ,Q,X,H=>wpE G hd a ρ (fun x H₁=>wpE G hd b ρ (fun y H₂=>BC o1 x y (fun r H₃=>if r then wpE G hd c ρ (fun z H₄=>BC o2 y z (fun r' H₅=>Q (.bool r') H₅) H₄) X H₃ else Q (.bool false) H₃) H₂) X H₁) X H
 | .bop conj es,ρ,Q,X,H=>wpB G hd conj es ρ Q X H
 | .list es,ρ,Q,X,H=>ED G hd es ρ (fun vs H₁=>Bb vs Q H₁) X H
 | .tup es,ρ,Q,X,H=>ED G hd es ρ (fun vs H₁=>vs.length≤Lim∧Q (.tup vs) H₁) X H
 | .dict0,_,Q,_,H=>∀a,H a=none→Q (.ref a) (H.set a (.dict []))
 | .idx e i,ρ,Q,X,H=>wpE G hd e ρ (fun x H₁=>wpE G hd i ρ (fun y H₂=>Ce x y Q H₂) X H₁) X H
 | .slTo e k,ρ,Q,X,H=>wpE G hd e ρ (fun x H₁=>wpE G hd k ρ (fun y H₂=>B1 y fun i=>CE x none (some i) Q H₂) X H₁) X H
 | .slFrom e k,ρ,Q,X,H=>wpE G hd e ρ (fun x H₁=>wpE G hd k ρ (fun y H₂=>B1 y fun i=>CE x (some i) none Q H₂) X H₁) X H
 | .slFT e j k,ρ,Q,X,H=>wpE G hd e ρ (fun x H₁=>wpE G hd j ρ (fun z H₂=>wpE G hd k ρ (fun y H₃=>B1 z fun l=>B1 y fun i=>CE x (some l) (some i) Q H₃) X H₂) X H₁) X H
 | .rev e,ρ,Q,X,H=>wpE G hd e ρ (fun x H₁=>DW x fun a=>∃xs,H₁ a=some (.list xs)∧Bb xs.reverse Q H₁) X H
 | .call f es,ρ,Q,X,H=>hd=false∧ED G hd es ρ (fun vs H₁=>G.call f vs Q X H₁) X H
 | .bc f es,ρ,Q,X,H=>hd=false∧ED G hd es ρ (fun vs H₁=>wbc f vs Q H₁) X H
 | .mt m o es,ρ,Q,X,H=>wpE G hd o ρ (fun x H₁=>Np m x H₁∧ED G hd es ρ (fun vs H₂=>wmt m x vs Q H₂) X H₁) X H
 | .isi e cs,ρ,Q,X,H=>wpE G hd e ρ (fun x H₁=>∃b,Fx G.anc H₁ x cs=some b∧Q (.bool b) H₁) X H
 | .comp elt t src,ρ,Q,X,H=>hd=false∧CS G hd src ρ (fun its w H₁=>AT t w ρ (fun ρ' K H₂=>wpE G hd elt ρ' K (fun ξ ξ=>False) H₂) (fun ξ K H₂=>K true H₂) its [] (fun vs H₂=>Bb vs Q H₂) H₁) X H
 | .compIf elt t src c,ρ,Q,X,H=>hd=false∧CS G hd src ρ (fun its w H₁=>AT t w ρ (fun ρ' K H₂=>wpE G hd elt ρ' K (fun ξ ξ=>False) H₂) (fun ρ' K H₂=>wpE G hd c ρ' (asB K) (fun ξ ξ=>False) H₂) its [] (fun vs H₂=>Bb vs Q H₂) H₁) X H
 | .compD elt t e,ρ,Q,X,H=>hd=false∧wpE G hd e ρ (fun v H₁=>MF v (fun its w H₂=>AT t w ρ (fun ρ' K H₃=>wpE G hd elt ρ' K (fun ξ ξ=>False) H₃) (fun ξ K H₃=>K true H₃) its [] (fun vs H₃=>Bb vs Q H₃) H₂) H₁) X H
noncomputable def ED (G:Gl) (hd:Bool):Exs→Loc→(List V→Hp→Prop)→(String→Hp→Prop)→Hp→Prop
 | .nil,_,Q,_,H=>Q [] H
 | .cons e r,ρ,Q,X,H=>wpE G hd e ρ (fun v H₁=>ED G hd r ρ (fun vs H₂=>Q (v :: vs) H₂) X H₁) X H
noncomputable def wpB (G:Gl) (hd:Bool) (conj:Bool):Exs→Loc→(V→Hp→Prop)→(String→Hp→Prop)→Hp→Prop
 | .nil,_,_,_,_=>False
 | .cons e r,ρ,Q,X,H=>match r with
  | .nil=>wpE G hd e ρ Q X H
  | r=>wpE G hd e ρ (asB fun b H₁=>if b=conj then wpB G hd conj r ρ Q X H₁ else Q (.bool b) H₁) X H
noncomputable def CS (G:Gl) (hd:Bool):Sr→Loc→(List It→List (Addr×Ob)→Hp→Prop)→(String→Hp→Prop)→Hp→Prop
 | .ex e,ρ,K,X,H=>wpE G hd e ρ (fun v H₁=>Ku v K H₁) X H
 | .range1 b,ρ,K,X,H=>wpE G hd b ρ (fun v H₁=>r1W v K H₁) X H
 | .range3 a b c,ρ,K,X,H=>wpE G hd a ρ (fun u H₁=>wpE G hd b ρ (fun v H₂=>wpE G hd c ρ (fun t H₃=>r3W u v t K H₃) X H₂) X H₁) X H
 | .enum s,ρ,K,X,H=>CS G hd s ρ (fun its w H₁=>∃js,Eg 0 its=some js∧K js w H₁) X H
 | .zip a b,ρ,K,X,H=>wpE G hd a ρ (fun u H₁=>wpE G hd b ρ (fun v H₂=>MU u v K H₂) X H₁) X H
end

mutual
noncomputable def wpS (G:Gl) (hd:Bool):St→Loc→(Loc→Hp→Prop)→(V→Hp→Prop)→(String→Loc→Hp→Prop)→Hp→Prop
 | .asg i e,ρ,N,_,X,H=>wpE G hd e ρ (fun v H₁=>N (ρ.set i (some v)) H₁) (fun c H₁=>X c ρ H₁) H
 | .asg2 i j e,ρ,N,_,X,H=>hd=false∧wpE G hd e ρ (fun v H₁=>un2 v fun x y=>N ((ρ.set i (some x)).set j (some y)) H₁) (fun c H₁=>X c ρ H₁) H
 | .asg3 i j k e,ρ,N,_,X,H=>hd=false∧wpE G hd e ρ (fun v H₁=>un3 v fun x y z=>N (((ρ.set i (some x)).set j (some y)).set k (some z)) H₁) (fun c H₁=>X c ρ H₁) H
 | .setIt o i v,ρ,N,_,X,H=>wpE G hd v ρ (fun z H₁=>wpE G hd o ρ (fun x H₂=>wpE G hd i ρ (fun y H₃=>KA z x y (fun H'=>N ρ H') H₃) (fun c H'=>X c ρ H') H₂) (fun c H'=>X c ρ H') H₁) (fun c H'=>X c ρ H') H
 | .ex e,ρ,N,_,X,H=>wpE G hd e ρ (fun ξ H₁=>N ρ H₁) (fun c H₁=>X c ρ H₁) H
 | .ret e,ρ,_,R,X,H=>wpE G hd e ρ (fun v H₁=>R v H₁) (fun c H₁=>X c ρ H₁) H
 | .ife c a b,ρ,N,R,X,H=>wpE G hd c ρ (asB fun r H₁=>if r then AH G hd a ρ N R X H₁ else AH G hd b ρ N R X H₁) (fun c H₁=>X c ρ H₁) H
 | .whl c b,ρ,N,R,X,H=>∀P:Loc→Hp→Prop,(∀ρ' H',wpE G hd c ρ' (asB fun r H₁=>if r then AH G hd b ρ' P R X H₁ else N ρ' H₁) (fun c H₁=>X c ρ' H₁) H'→P ρ' H')→P ρ H
 | .for t s b,ρ,N,R,X,H=>hd=false∧CS G hd s ρ (fun its w H₁=>Fh t w (fun ρ' K H₂=>AH G hd b ρ' K R X H₂) its ρ N H₁) (fun c H₁=>X c ρ H₁) H
 | .raise c _,ρ,_,_,X,H=>hd=false∧X c ρ H
 | .tr b hs,ρ,N,R,X,H=>hd=false∧AH G hd b ρ N R (fun c ρ₁ H₁=>Gb G c hs ρ₁ N R (X c ρ₁ H₁) H₁) H
 | .pass,ρ,N,_,_,H=>N ρ H
noncomputable def AH (G:Gl) (hd:Bool):Sts→Loc→(Loc→Hp→Prop)→(V→Hp→Prop)→(String→Loc→Hp→Prop)→Hp→Prop
 | .nil,ρ,N,_,_,H=>N ρ H
 | .cons s r,ρ,N,R,X,H=>wpS G hd s ρ (fun ρ₁ H₁=>AH G hd r ρ₁ N R X H₁) R X H
noncomputable def Gb (G:Gl) (c:String):Hs→Loc→(Loc→Hp→Prop)→(V→Hp→Prop)→Prop→Hp→Prop
 | .nil,_,_,_,no,_=>no
 | .cons d x b r,ρ,N,R,no,H=>if (G.anc c).contains d then hW x (AH G true b ρ N R (fun ξ ξ ξ=>False) H)
   (fun i=>AH G true b (ρ.set i (some (.exc c))) (fun ρ₁ H₁=>N (ρ₁.set i none) H₁) R (fun ξ ξ ξ=>False) H)
  else Gb G c r ρ N R no H
end

structure Fn where
 params:Nat
 nf:Nat
 slots:List String
 body:Sts

noncomputable def Aj (defs:String→Option Fn) (anc:String→List String):Nat→String→List V→(V→Hp→Prop)→(String→Hp→Prop)→Hp→Prop
 | 0,_,_,_,_,_=>False
 | n+1,f,vs,Q,X,H=>Option.casesOn (motive:=fun ξ=>Prop) (defs f) False
  fun d=>vs.length=d.params∧AH ⟨Aj defs anc n,anc⟩ false d.body ((vs.map some)++List.replicate (d.slots.length-d.params) none) (fun ξ H₁=>Q .none H₁) Q (fun c ξ H₁=>X c H₁) H

end
theorem BU {G hd}{ρ Q X H}:wpE G hd (.none) ρ Q X H=(Q .none H):=rfl
theorem CV {G hd}{b ρ Q X H}:wpE G hd (.bool b) ρ Q X H=(Q (.bool b) H):=rfl
theorem A9 {G hd}{i ρ Q X H}:wpE G hd (.int i) ρ Q X H=(Q (.int i) H):=rfl
theorem Af {G hd}{s ρ Q X H}:wpE G hd (.str s) ρ Q X H=(Q (.str (Str.ofString s)) H):=rfl
theorem A3 {G hd}{i ρ Q X H}:wpE G hd (.var i) ρ Q X H=(Iq ρ[i]? fun v=>Q v H):=rfl
theorem El {G hd}{z0 n ρ Q X H}:wpE G hd (.glob z0 n) ρ Q X H=(Q (.int n) H):=rfl
theorem Ah {G hd}{op a b ρ Q X H}:wpE G hd (.bin op a b) ρ Q X H=(wpE G hd a ρ (fun x H₁=>wpE G hd b ρ (fun y H₂=>EZ op x y Q H₂) X H₁) X H):=rfl
theorem Dv {G hd}{a ρ Q X H}:wpE G hd (.neg a) ρ Q X H=(wpE G hd a ρ (fun x H₁=>B1 x fun i=>Q (.int (-i)) H₁) X H):=rfl
theorem BO {G hd}{a ρ Q X H}:wpE G hd (.nt a) ρ Q X H=(wpE G hd a ρ (asB fun b H₁=>Q (.bool (!b)) H₁) X H):=rfl
theorem Ab {G hd}{op a b ρ Q X H}:wpE G hd (.cmp op a b) ρ Q X H=(wpE G hd a ρ (fun x H₁=>wpE G hd b ρ (fun y H₂=>BC op x y (fun c H₃=>Q (.bool c) H₃) H₂) X H₁) X H):=rfl
theorem F9 {G hd}{o1 o2 a b c ρ Q X H}:wpE G hd (.cmp2 o1 o2 a b c) ρ Q X H=(wpE G hd a ρ (fun x H₁=>wpE G hd b ρ (fun y H₂=>BC o1 x y (fun r H₃=>if r then wpE G hd c ρ (fun z H₄=>BC o2 y z (fun r' H₅=>Q (.bool r') H₅) H₄) X H₃ else Q (.bool false) H₃) H₂) X H₁) X H):=rfl
theorem An {G hd}{conj es ρ Q X H}:wpE G hd (.bop conj es) ρ Q X H=(wpB G hd conj es ρ Q X H):=rfl
theorem AE {G hd}{es ρ Q X H}:wpE G hd (.list es) ρ Q X H=(ED G hd es ρ (fun vs H₁=>Bb vs Q H₁) X H):=rfl
theorem AI {G hd}{es ρ Q X H}:wpE G hd (.tup es) ρ Q X H=(ED G hd es ρ (fun vs H₁=>vs.length≤Lim∧Q (.tup vs) H₁) X H):=rfl
theorem F8 {G hd}{ρ Q X H}:wpE G hd (.dict0) ρ Q X H=(∀a,H a=none→Q (.ref a) (H.set a (.dict []))):=rfl
theorem Ac {G hd}{e i ρ Q X H}:wpE G hd (.idx e i) ρ Q X H=(wpE G hd e ρ (fun x H₁=>wpE G hd i ρ (fun y H₂=>Ce x y Q H₂) X H₁) X H):=rfl
theorem G4 {G hd}{e k ρ Q X H}:wpE G hd (.slTo e k) ρ Q X H=(wpE G hd e ρ (fun x H₁=>wpE G hd k ρ (fun y H₂=>B1 y fun i=>CE x none (some i) Q H₂) X H₁) X H):=rfl
theorem Ft {G hd}{e k ρ Q X H}:wpE G hd (.slFrom e k) ρ Q X H=(wpE G hd e ρ (fun x H₁=>wpE G hd k ρ (fun y H₂=>B1 y fun i=>CE x (some i) none Q H₂) X H₁) X H):=rfl
theorem K7 {G hd}{e j k ρ Q X H}:wpE G hd (.slFT e j k) ρ Q X H=(wpE G hd e ρ (fun x H₁=>wpE G hd j ρ (fun z H₂=>wpE G hd k ρ (fun y H₃=>B1 z fun l=>B1 y fun i=>CE x (some l) (some i) Q H₃) X H₂) X H₁) X H):=rfl
theorem LZ {G hd}{e ρ Q X H}:wpE G hd (.rev e) ρ Q X H=(wpE G hd e ρ (fun x H₁=>DW x fun a=>∃xs,H₁ a=some (.list xs)∧Bb xs.reverse Q H₁) X H):=rfl
theorem Ag {G hd}{f es ρ Q X H}:wpE G hd (.call f es) ρ Q X H=(hd=false∧ED G hd es ρ (fun vs H₁=>G.call f vs Q X H₁) X H):=rfl
theorem Ar {G hd}{f es ρ Q X H}:wpE G hd (.bc f es) ρ Q X H=(hd=false∧ED G hd es ρ (fun vs H₁=>wbc f vs Q H₁) X H):=rfl
theorem BV {G hd}{m o es ρ Q X H}:wpE G hd (.mt m o es) ρ Q X H=(wpE G hd o ρ (fun x H₁=>Np m x H₁∧ED G hd es ρ (fun vs H₂=>wmt m x vs Q H₂) X H₁) X H):=rfl
theorem Cq {G hd}{e cs ρ Q X H}:wpE G hd (.isi e cs) ρ Q X H=(wpE G hd e ρ (fun x H₁=>∃b,Fx G.anc H₁ x cs=some b∧Q (.bool b) H₁) X H):=rfl
theorem Cu {G hd}{elt t src ρ Q X H}:wpE G hd (.comp elt t src) ρ Q X H=(hd=false∧CS G hd src ρ (fun its w H₁=>AT t w ρ (fun ρ' K H₂=>wpE G hd elt ρ' K (fun ξ ξ=>False) H₂) (fun ξ K H₂=>K true H₂) its [] (fun vs H₂=>Bb vs Q H₂) H₁) X H):=rfl
theorem Em {G hd}{elt t src c ρ Q X H}:wpE G hd (.compIf elt t src c) ρ Q X H=(hd=false∧CS G hd src ρ (fun its w H₁=>AT t w ρ (fun ρ' K H₂=>wpE G hd elt ρ' K (fun ξ ξ=>False) H₂) (fun ρ' K H₂=>wpE G hd c ρ' (asB K) (fun ξ ξ=>False) H₂) its [] (fun vs H₂=>Bb vs Q H₂) H₁) X H):=rfl
theorem Gp {G hd}{elt t e ρ Q X H}:wpE G hd (.compD elt t e) ρ Q X H=(hd=false∧wpE G hd e ρ (fun v H₁=>MF v (fun its w H₂=>AT t w ρ (fun ρ' K H₃=>wpE G hd elt ρ' K (fun ξ ξ=>False) H₃) (fun ξ K H₃=>K true H₃) its [] (fun vs H₃=>Bb vs Q H₃) H₂) H₁) X H):=rfl
theorem A8 {G hd}{ρ Q X H}:ED G hd (.nil) ρ Q X H=(Q [] H):=rfl
theorem A6 {G hd}{e r ρ Q X H}:ED G hd (.cons e r) ρ Q X H=(wpE G hd e ρ (fun v H₁=>ED G hd r ρ (fun vs H₂=>Q (v :: vs) H₂) X H₁) X H):=rfl
theorem HL {G hd conj}{ρ Q X H}:wpB G hd conj (.nil) ρ Q X H=(False):=rfl
theorem At {G hd conj}{e ρ Q X H}:wpB G hd conj (.cons e .nil) ρ Q X H=wpE G hd e ρ Q X H:=rfl
theorem Ak {G hd conj}{e f r ρ Q X H}:wpB G hd conj (.cons e (.cons f r)) ρ Q X H=wpE G hd e ρ (asB fun b H₁=>if b=conj then wpB G hd conj (.cons f r) ρ Q X H₁ else Q (.bool b) H₁) X H:=rfl
theorem LX {G hd}{e ρ K X H}:CS G hd (.ex e) ρ K X H=(wpE G hd e ρ (fun v H₁=>Ku v K H₁) X H):=rfl
theorem Jp {G hd}{b ρ K X H}:CS G hd (.range1 b) ρ K X H=(wpE G hd b ρ (fun v H₁=>r1W v K H₁) X H):=rfl
theorem Go {G hd}{a b c ρ K X H}:CS G hd (.range3 a b c) ρ K X H=(wpE G hd a ρ (fun u H₁=>wpE G hd b ρ (fun v H₂=>wpE G hd c ρ (fun t H₃=>r3W u v t K H₃) X H₂) X H₁) X H):=rfl
theorem ID {G hd}{s ρ K X H}:CS G hd (.enum s) ρ K X H=(CS G hd s ρ (fun its w H₁=>∃js,Eg 0 its=some js∧K js w H₁) X H):=rfl
theorem Nq {G hd}{a b ρ K X H}:CS G hd (.zip a b) ρ K X H=(wpE G hd a ρ (fun u H₁=>wpE G hd b ρ (fun v H₂=>MU u v K H₂) X H₁) X H):=rfl
theorem HJ {G hd}{i e ρ N R X H}:wpS G hd (.asg i e) ρ N R X H=(wpE G hd e ρ (fun v H₁=>N (ρ.set i (some v)) H₁) (fun c H₁=>X c ρ H₁) H):=rfl
theorem K6 {G hd}{i j e ρ N R X H}:wpS G hd (.asg2 i j e) ρ N R X H=(hd=false∧wpE G hd e ρ (fun v H₁=>un2 v fun x y=>N ((ρ.set i (some x)).set j (some y)) H₁) (fun c H₁=>X c ρ H₁) H):=rfl
theorem K5 {G hd}{i j k e ρ N R X H}:wpS G hd (.asg3 i j k e) ρ N R X H=(hd=false∧wpE G hd e ρ (fun v H₁=>un3 v fun x y z=>N (((ρ.set i (some x)).set j (some y)).set k (some z)) H₁) (fun c H₁=>X c ρ H₁) H):=rfl
theorem IF {G hd}{o i v ρ N R X H}:wpS G hd (.setIt o i v) ρ N R X H=(wpE G hd v ρ (fun z H₁=>wpE G hd o ρ (fun x H₂=>wpE G hd i ρ (fun y H₃=>KA z x y (fun H'=>N ρ H') H₃) (fun c H'=>X c ρ H') H₂) (fun c H'=>X c ρ H') H₁) (fun c H'=>X c ρ H') H):=rfl
theorem O3 {G hd}{e ρ N R X H}:wpS G hd (.ex e) ρ N R X H=(wpE G hd e ρ (fun ξ H₁=>N ρ H₁) (fun c H₁=>X c ρ H₁) H):=rfl
theorem LY {G hd}{e ρ N R X H}:wpS G hd (.ret e) ρ N R X H=(wpE G hd e ρ (fun v H₁=>R v H₁) (fun c H₁=>X c ρ H₁) H):=rfl
theorem Jr {G hd}{c a b ρ N R X H}:wpS G hd (.ife c a b) ρ N R X H=(wpE G hd c ρ (asB fun r H₁=>if r then AH G hd a ρ N R X H₁ else AH G hd b ρ N R X H₁) (fun c H₁=>X c ρ H₁) H):=rfl
theorem Jq {G hd}{c b ρ N R X H}:wpS G hd (.whl c b) ρ N R X H=(∀P:Loc→Hp→Prop,(∀ρ' H',wpE G hd c ρ' (asB fun r H₁=>if r then AH G hd b ρ' P R X H₁ else N ρ' H₁) (fun c H₁=>X c ρ' H₁) H'→P ρ' H')→P ρ H):=rfl
theorem Js {G hd}{t s b ρ N R X H}:wpS G hd (.for t s b) ρ N R X H=(hd=false∧CS G hd s ρ (fun its w H₁=>Fh t w (fun ρ' K H₂=>AH G hd b ρ' K R X H₂) its ρ N H₁) (fun c H₁=>X c ρ H₁) H):=rfl
theorem IG {G hd}{c z0 ρ N R X H}:wpS G hd (.raise c z0) ρ N R X H=(hd=false∧X c ρ H):=rfl
theorem O2 {G hd}{b hs ρ N R X H}:wpS G hd (.tr b hs) ρ N R X H=(hd=false∧AH G hd b ρ N R (fun c ρ₁ H₁=>Gb G c hs ρ₁ N R (X c ρ₁ H₁) H₁) H):=rfl
theorem Nr {G hd}{ρ N R X H}:wpS G hd (.pass) ρ N R X H=(N ρ H):=rfl
theorem K4 {G hd}{ρ N R X H}:AH G hd (.nil) ρ N R X H=(N ρ H):=rfl
theorem CL {G hd}{s r ρ N R X H}:AH G hd (.cons s r) ρ N R X H=(wpS G hd s ρ (fun ρ₁ H₁=>AH G hd r ρ₁ N R X H₁) R X H):=rfl
theorem HK {G c}{ρ N R no H}:Gb G c (.nil) ρ N R no H=(no):=rfl
theorem F7 {G c}{d x b r ρ N R no H}:Gb G c (.cons d x b r) ρ N R no H=(if (G.anc c).contains d then hW x (AH G true b ρ N R (fun ξ ξ ξ=>False) H)
   (fun i=>AH G true b (ρ.set i (some (.exc c))) (fun ρ₁ H₁=>N (ρ₁.set i none) H₁) R (fun ξ ξ ξ=>False) H)
  else Gb G c r ρ N R no H):=rfl
end Mine.Internal
end

section
namespace Mine.Internal
theorem DX (lo st:Int) (n:Nat):Bm lo st (n+1)=It.v (.int lo) :: Bm (lo+st) st n:=by
 unfold Bm
 rw[List.range_succ_eq_map,List.map_cons,List.map_map]
 congr 1
 ·simp
 ·apply List.map_congr_left
  intro k _
  simp only[Function.comp,It.v.injEq,V.int.injEq]
  rw[Int.natCast_succ,Int.add_mul];exact lq [_,_,_] [] (.a (.v 0) (.a (.v 1) (.m 1 (.v 2)))) (.a (.a (.v 0) (.v 2)) (.v 1)) [] [1] [1] rfl
theorem FN (a st:Int):∀(n:Nat) (k:Int),Eg k (Bm a st n)=some ((List.range n).map fun (j:Nat)=>It.p (.int (k+j)) (.int (a+(j:Int)*st))):=by
 intro n
 induction n generalizing a with
 | zero=>intro k;rfl
 | succ n ih =>
  intro k
  rw[DX,Eg,ih,Option.map_some,List.range_succ_eq_map,List.map_cons,List.map_map]
  congr 2
  ·simp
  ·apply List.map_congr_left
   intro j _
   simp only[Function.comp,It.p.injEq,V.int.injEq,Int.natCast_succ,Int.add_mul]
   constructor <;> (first | exact lq [_] [_] (.a (.a (.v 0) (.c 1)) (.t (.n 0))) (.a (.v 0) (.a (.t (.n 0)) (.c 1))) [] [1] [1] rfl | exact lq [_,_,_] [] (.a (.a (.v 0) (.v 1)) (.v 2)) (.a (.v 0) (.a (.v 2) (.m 1 (.v 1)))) [] [1] [1] rfl)
end Mine.Internal
end

section
namespace Mine.Internal
open PySem PySem.Calls PyProof.Rows

noncomputable def dcB (d:Data) (a b:Bool):Bool:=match d with
 | .dict _ _=>a
 | .cell _=>b
 | _=>false
theorem Ap {d d':Data} (q:d=d') (h:dcB d' true false=false):∀es n,d≠.dict es n:=by
 rintro es n rfl;subst q;cases h
theorem Aq {d d':Data} (q:d=d') (h:dcB d' false true=false):∀v,d≠.cell v:=by
 rintro v rfl;subst q;cases h

structure Wd where
 prog:Program
 w:World
 base:Heap
 s₀:Shared
 cls:String→Option Addr
 scr:Addr→Prop
 fz:Addr→Obj→Prop
abbrev FZ:=Addr→Obj→Prop
noncomputable def nf:FZ:=fun ξ ξ=>False
noncomputable abbrev Wd.z (W:Wd) (z:Addr→Prop) (F:FZ:=W.fz):Wd:=⟨W.prog,W.w,W.base,W.s₀,W.cls,z,F⟩

structure Cx where
 A:Around
 env:Env
 fenvs:List Env
 names:List String
 vis:Nat→Bool
 own:List Addr
 outer:List (Addr×(Str→Option Value))
noncomputable def Cx.frs (c:Cx):List Addr:=c.fenvs.filterMap (·.frame)
noncomputable def Cx.all (c:Cx):List Addr:=c.own++c.frs++c.outer.map (·.1)

inductive ConsR {α:Type} (us:List α) (A:α→Prop) (B:List α→Prop):Prop
 | mk (x:α) (xs:List α) (hu:us=x :: xs) (a:A x) (b:B xs)
noncomputable def EH (is:List Int):List Value→Prop:=List.rec (motive:=fun ξ=>List Value→Prop) (fun us=>us=[]) (fun i ξ r us=>ConsR us (fun u=>∃t,u=.int i t) r) is
theorem EH.nil:EH [] []:=rfl
theorem EH.cons {i:Int}{t:Tok}{is:List Int}{vs:List Value} (h:EH is vs):EH (i :: is) (.int i t :: vs):=⟨_,_,rfl,⟨t,rfl⟩,h⟩
inductive TupR (W:Wd) (h:Heap) (u:Value) (k:Nat) (R:List Value→Prop):Prop
 | mk (a:Addr) (o:Obj) (items:Array Value) (n:Nat) (hu:u=.ref a) (e:h.get? a=some o) (c:o.cls=.type "tuple") (d:o.data=.seq items n) (l:k≤Lim) (r:R items.toList) (z:¬W.scr a)
inductive RoR (W:Wd) (u:Value) (xs:List Int):Prop
 | mk (a:Addr) (items:Array Value) (hu:u=.ref a) (b:W.base.IsList a items) (l:xs.length≤1000) (i:EH xs items.toList)
inductive ExcR (W:Wd) (h:Heap) (u:Value) (c:String):Prop
 | mk (a C:Addr) (o:Obj) (ws:Array Value) (hu:u=.ref a) (e:h.get? a=some o) (k:o.cls=.ref C) (d:o.data=.fields ws) (q:W.cls c=some C)
noncomputable def Rep (W:Wd) (h:Heap) (v:V):Value→Prop:=V.rec (motive_1:=fun ξ=>Value→Prop) (motive_2:=fun ξ=>List Value→Prop)
 (fun u=>u=.none) (fun b u=>u=.bool b) (fun i u=>∃t,u=.int i t) (fun s u=>∃t,u=.str s t) (fun vs r u=>TupR W h u vs.length r) (fun a u=>u=.ref a) (fun xs u=>RoR W u xs) (fun c u=>ExcR W h u c)
 (fun us=>us=[]) (fun ξ ξ a b us=>ConsR us a b) v
noncomputable def As (W:Wd) (h:Heap) (l:List V):List Value→Prop:=List.rec (motive:=fun ξ=>List Value→Prop) (fun us=>us=[]) (fun v ξ r us=>ConsR us (Rep W h v) r) l
section
variable {W:Wd}{h:Heap}
theorem No (l:List V):V.rec_1 (motive_1:=fun ξ=>Value→Prop) (motive_2:=fun ξ=>List Value→Prop)
 (fun u=>u=.none) (fun b u=>u=.bool b) (fun i u=>∃t,u=.int i t) (fun s u=>∃t,u=.str s t) (fun vs r u=>TupR W h u vs.length r) (fun a u=>u=.ref a) (fun xs u=>RoR W u xs) (fun c u=>ExcR W h u c)
 (fun us=>us=[]) (fun ξ ξ a b us=>ConsR us a b) l=As W h l:=by
 induction l with
 | nil=>rfl
 | cons v l ih=>exact congrArg (fun r us=>ConsR us (Rep W h v) r) ih
theorem Rep.none:Rep W h .none .none:=rfl
theorem Rep.bool (b:Bool):Rep W h (.bool b) (.bool b):=rfl
theorem Rep.int (i:Int) (t:Tok):Rep W h (.int i) (.int i t):=⟨t,rfl⟩
theorem Rep.str (s:Str) (t:Tok):Rep W h (.str s) (.str s t):=⟨t,rfl⟩
theorem Rep.ref (a:Addr):Rep W h (.ref a) (.ref a):=rfl
theorem Rep.tup_iff {vs:List V}{u:Value}:Rep W h (.tup vs) u=TupR W h u vs.length (As W h vs):=congrArg (TupR W h u vs.length) (No vs)
theorem Rep.tup {a:Addr}{o:Obj}{items:Array Value}{n:Nat}{vs:List V} (e:h.get? a=some o) (c:o.cls=.type "tuple") (d:o.data=.seq items n) (l:vs.length≤Lim) (r:As W h vs items.toList) (z:¬W.scr a):Rep W h (.tup vs) (.ref a) :=
 Rep.tup_iff.mpr ⟨a,o,items,n,rfl,e,c,d,l,r,z⟩
theorem Rep.tupR {vs:List V}{u:Value} (r:Rep W h (.tup vs) u):TupR W h u vs.length (As W h vs):=Rep.tup_iff.mp r
theorem Rep.ro {a:Addr}{items:Array Value}{xs:List Int} (b:W.base.IsList a items) (l:xs.length≤1000) (i:EH xs items.toList):Rep W h (.ro xs) (.ref a):=⟨a,items,rfl,b,l,i⟩
theorem Rep.exc {a C:Addr}{o:Obj}{ws:Array Value}{c:String} (e:h.get? a=some o) (k:o.cls=.ref C) (d:o.data=.fields ws) (q:W.cls c=some C):Rep W h (.exc c) (.ref a):=⟨a,C,o,ws,rfl,e,k,d,q⟩
theorem As.nil:As W h [] []:=rfl
theorem As.cons {v:V}{x:Value}{vs:List V}{xs:List Value} (a:Rep W h v x) (b:As W h vs xs):As W h (v :: vs) (x :: xs):=⟨x,xs,rfl,a,b⟩
end

structure KeepR (W:Wd) (h h':Heap):Prop where
 tup:∀b o items n,h.get? b=some o→o.cls=.type "tuple" → o.data=.seq items n→¬W.scr b→h'.get? b=some o
 exc:∀b o C ws,h.get? b=some o→o.cls=.ref C→o.data=.fields ws→∃o' ws',h'.get? b=some o'∧o'.cls=.ref C∧o'.data=.fields ws'

theorem KeepR.refl {W:Wd} (h:Heap):KeepR W h h:=⟨fun ξ ξ ξ ξ e ξ ξ ξ=>e,fun ξ o ξ ws e c d=>⟨o,ws,e,c,d⟩⟩
theorem KeepR.of_keeps {W:Wd}{h h':Heap} (k:∀b o,h.get? b=some o→h'.get? b=some o):KeepR W h h':=⟨fun b o ξ ξ e ξ ξ ξ=>k b o e,fun b o ξ ws e c d=>⟨o,ws,k b o e,c,d⟩⟩
theorem KeepR.trans {W:Wd}{h₁ h₂ h₃:Heap} (x:KeepR W h₁ h₂) (y:KeepR W h₂ h₃):KeepR W h₁ h₃ :=
 ⟨fun b o i n e c d z=>y.tup b o i n (x.tup b o i n e c d z) c d z,fun b o C ws e c d=>let ⟨o',ws',e',c',d'⟩:=x.exc b o C ws e c d;y.exc b o' C ws' e' c' d'⟩

theorem ConsR.imp {α:Type}{us:List α}{A A':α→Prop}{B B':List α→Prop} (r:ConsR us A B) (f:∀x,A x→A' x) (g:∀l,B l→B' l):ConsR us A' B':=by
 obtain⟨x,xs,e,a,b⟩:=r
 exact⟨x,xs,e,f x a,g xs b⟩
noncomputable def Ie (W:Wd) (z:Addr→Prop) (h:Heap):Prop:=∀b o i n,h.get? b=some o→o.cls=.type "tuple" → o.data=.seq i n→¬W.scr b→¬z b
theorem Ie.same {W:Wd}{h:Heap}:Ie W W.scr h:=fun ξ ξ ξ ξ ξ ξ ξ q=>q
theorem Fs {W W':Wd}{h h':Heap}{l:List V} (k:∀v∈l,∀x,Rep W h v x→Rep W' h' v x):∀us,As W h l us→As W' h' l us:=by
 induction l with
 | nil=>intro us r;exact r
 | cons v l ih=>intro us r;exact r.imp (k v (.head _)) (ih fun w m=>k w (.tail _ m))
theorem Rep.monoZ {W:Wd}{z:Addr→Prop}{F:FZ}{h h':Heap} (k:KeepR W h h') (hz:Ie W z h) {v:V}:∀ {x:Value},Rep W h v x→Rep (W.z z F) h' v x:=by
 refine V.rec (motive_1:=fun v=>∀ {x:Value},Rep W h v x→Rep (W.z z F) h' v x) (motive_2:=fun l=>∀v∈l,∀x,Rep W h v x→Rep (W.z z F) h' v x) ?_ ?_ ?_ ?_ ?_ ?_ ?_ ?_ ?_ ?_ v
 ·intro x r;exact r
 ·intro b x r;exact r
 ·intro b x r;exact r
 ·intro b x r;exact r
 ·intro vs ih x r
  obtain⟨a,o,items,n,rfl,e,c,d,l,q,z⟩:=r.tupR
  exact .tup (k.tup _ _ _ _ e c d z) c d l (Fs ih _ q) (hz _ _ _ _ e c d z)
 ·intro b x r;exact r
 ·intro b x ⟨a,i,hu,b',l,n⟩;exact⟨a,i,hu,b',l,n⟩
 ·intro c x r
  obtain⟨a,C,o,ws,rfl,e,c,d,q⟩:=r
  obtain⟨_,_,e',c',d'⟩:=k.exc _ _ _ _ e c d
  exact .exc e' c' d' q
 ·intro v m;cases m
 ·intro v l a b w m x r
  cases m with
  | head=>exact a r
  | tail _ m=>exact b w m x r
theorem Rep.mono {W:Wd}{h h':Heap} (k:KeepR W h h') {v:V}{x:Value} (r:Rep W h v x):Rep W h' v x:=Rep.monoZ (z:=W.scr) k .same r
theorem As.monoZ {W:Wd}{z:Addr→Prop}{F:FZ}{h h':Heap} (k:KeepR W h h') (hz:Ie W z h) {v:List V}{x:List Value} (r:As W h v x):As (W.z z F) h' v x:=Fs (fun ξ ξ ξ r=>r.monoZ k hz) _ r
theorem As.mono {W:Wd}{h h':Heap} (k:KeepR W h h') {v:List V}{x:List Value} (r:As W h v x):As W h' v x:=Fs (fun ξ ξ ξ r=>r.mono k) _ r

theorem As.length {W:Wd}{h:Heap}{vs:List V}:∀ {xs:List Value},As W h vs xs→vs.length=xs.length:=by
 induction vs with
 | nil=>intro xs r;cases r;rfl
 | cons v vs ih=>intro us r;obtain⟨x,xs,rfl,a,b⟩:=r;exact congrArg (· + 1) (ih b)
theorem As.append {W:Wd}{h:Heap}{vs vs':List V}{xs':List Value}:∀ {xs:List Value},As W h vs xs→As W h vs' xs'→As W h (vs++vs') (xs++xs'):=by
 induction vs with
 | nil=>intro xs r r';cases r;exact r'
 | cons v vs ih=>intro us r r';obtain⟨x,xs,rfl,a,b⟩:=r;exact .cons a (ih b r')
theorem As.get {W:Wd}{h:Heap}{vs:List V}:∀ {xs:List Value}{i:Nat}{v:V},As W h vs xs→vs[i]?=some v→∃x,xs[i]?=some x∧Rep W h v x:=by
 induction vs with
 | nil=>intro xs i v r e;cases e
 | cons w vs ih =>
  intro us i v r e
  obtain⟨x,xs,rfl,a,b⟩:=r
  cases i with
  | zero=>cases e;exact⟨x,rfl,a⟩
  | succ i=>exact ih (xs:=xs) (i:=i) b e

noncomputable def B9 (W:Wd) (h:Heap) (l:List (Int×V)):List (Int×Value)→Prop:=List.rec (motive:=fun ξ=>List (Int×Value)→Prop) (fun us=>us=[]) (fun p ξ r us=>ConsR us (fun u=>u.1=p.1∧Rep W h p.2 u.2) r) l
theorem B9.nil {W:Wd}{h:Heap}:B9 W h [] []:=rfl
theorem B9.cons {W:Wd}{h:Heap}{k:Int}{v:V}{x:Value}{kvs:List (Int×V)}{ys:List (Int×Value)} (a:Rep W h v x) (b:B9 W h kvs ys):B9 W h ((k,v) :: kvs) ((k,x) :: ys):=⟨_,_,rfl,⟨rfl,a⟩,b⟩
theorem B9.monoZ {W:Wd}{z:Addr→Prop}{F:FZ}{h h':Heap} (k:KeepR W h h') (hz:Ie W z h) {v:List (Int×V)}:∀ {x:List (Int×Value)},B9 W h v x→B9 (W.z z F) h' v x:=by
 induction v with
 | nil=>intro x r;exact r
 | cons p v ih=>intro x r;exact r.imp (fun u a=>⟨a.1,a.2.monoZ k hz⟩) fun l b=>ih b
theorem B9.mono {W:Wd}{h h':Heap} (k:KeepR W h h') {v:List (Int×V)}{x:List (Int×Value)} (r:B9 W h v x):B9 W h' v x:=B9.monoZ (z:=W.scr) k .same r

inductive ListR (W:Wd) (h:Heap) (a:Addr) (vs:List V):Prop
 | mk (l:vs.length≤Lim) (items:Array Value) (n:Nat) (g:h.get? a=some { cls:=.type "list",data:=.seq items n }) (r:As W h vs items.toList)
inductive DictR (W:Wd) (h:Heap) (a:Addr) (kvs:List (Int×V)):Prop
 | mk (l:kvs.length≤Lim∧(a == sysModules)=false) (ys:List (Int×Value)) (d:h.DictOf (intKind W.prog W.w) a ys) (r:B9 W h kvs ys) (z:∀o,W.fz a o→h.get? a=some o)
noncomputable def DP (W:Wd) (h:Heap) (a:Addr) (o:Ob):Prop:=Ob.casesOn (motive:=fun ξ=>Prop) o (ListR W h a) (DictR W h a)

theorem DP.obj {W:Wd}{h:Heap}{a:Addr}{o:Ob} (r:DP W h a o):∃ob,h.get? a=some ob∧(ob.cls=.type "list" ∨ ob.cls=.type "dict")∧(∀v,ob.data≠.cell v):=by
 cases o with
 | list vs=>obtain⟨_,items,n,e,_⟩:=r;exact⟨_,e,.inl rfl,fun v q=>by cases q⟩
 | dict kvs=>obtain⟨_,ys,⟨o,es,ep,e,x,d,_⟩,_⟩:=r;exact⟨o,e,.inr x.1,fun v q=>by rw[d] at q;cases q⟩

theorem DP.atZ {W:Wd}{z:Addr→Prop}{F:FZ}{h h':Heap}{a:Addr}{o:Ob} (r:DP W h a o) (k:KeepR W h h') (hz:Ie W z h) (e:∀ob,h.get? a=some ob→h'.get? a=some ob) (hF:∀o,F a o→W.fz a o∨h'.get? a=some o):DP (W.z z F) h' a o:=by
 cases o with
 | list vs=>obtain⟨l,items,n,q,r⟩:=r;exact⟨l,items,n,e _ q,r.monoZ k hz⟩
 | dict kvs=>obtain⟨l,ys,⟨o,es,ep,q,x⟩,r,zz⟩:=r;exact⟨l,ys,⟨o,es,ep,e _ q,x⟩,r.monoZ k hz,fun o w=>(hF o w).elim (fun w=>e _ (zz o w)) id⟩
theorem DP.at {W:Wd}{h h':Heap}{a:Addr}{o:Ob} (r:DP W h a o) (k:KeepR W h h') (e:∀ob,h.get? a=some ob→h'.get? a=some ob):DP W h' a o:=r.atZ (z:=W.scr) k .same e fun ξ q=>.inl q

inductive HasVar (W:Wd) (env:Env) (h:Heap) (m:Str→Option Value) (x:Str) (v:V):Prop
 | loc (k:env.kindOf x=some .local) (u:Value) (e:m x=some u) (r:Rep W h v u)
 | cel (k:env.kindOf x=some .cell) (cl:Addr) (o:Obj) (u:Value) (e:env.cells.lookup x=some cl) (ho:h.get? cl=some o) (hd:o.data=.cell (some u)) (r:Rep W h v u)

inductive LocOk (W:Wd) (c:Cx) (ρ:Loc) (h:Heap):Prop
 | mk (m:Str→Option Value) (n:h.Ns c.env.locals m) (v:∀i x v,c.vis i=true→c.names[i]?=some x→ρ[i]?=some (some v)→HasVar W c.env h m (Str.ofString x) v)

inductive TupAt (h:Heap) (b:Addr):Prop
 | mk (o:Obj) (items:Array Value) (n:Nat) (e:h.get? b=some o) (c:o.cls=.type "tuple") (d:o.data=.seq items n)
theorem TupAt.at {h h':Heap}{b:Addr} (t:TupAt h b) (k:∀o,h.get? b=some o→o.cls=.type "tuple" → (∃i n,o.data=.seq i n)→h'.get? b=some o):TupAt h' b:=by
 obtain⟨o,i,n,e,c,d⟩:=t;exact⟨o,i,n,k o e c ⟨i,n,d⟩,c,d⟩
structure Sim (W:Wd) (c:Cx) (P:Addr→Obj→Prop) (ρ:Loc) (H:Hp) (s:Shared):Prop where
 rest:∃h tk,s={ W.s₀ with heap:=h,toks:=tk }
 base:W.base.StaysIn s.heap
 frames:s.heap.FunFrames W.base c.fenvs
 outer:∀p∈c.outer,s.heap.Ns p.1 p.2
 loc:LocOk W c ρ s.heap
 locOwn:c.env.locals∈c.own
 ownNew:∀b∈c.own,W.base.get? b=none
 ownOut:∀b∈c.own,∀p∈c.outer,p.1≠b
 heap:∀a o,H a=some o→DP W s.heap a o
 new:∀a o,H a=some o→W.base.get? a=none
 apart:∀a o,H a=some o→a∉c.all
 prot:∀b o,P b o→s.heap.get? b=some o
 protH:∀b o,P b o→H b=none
 protF:∀b o,P b o→b∉c.own∧b∉c.frs
 cells:∀x a,c.env.cells.lookup x=some a→∃u,s.heap.IsCell a u
 ownD:∀b,b∈c.own∨b∈c.frs→∃o,s.heap.get? b=some o∧((∃es n,o.data=.dict es n)∨(∃v,o.data=.cell v))
 scr:∀b,W.scr b→TupAt s.heap b

theorem Sim.weaken {W:Wd}{c:Cx}{P P':Addr→Obj→Prop}{ρ:Loc}{H:Hp}{s:Shared} (S:Sim W c P' ρ H s) (k:∀b o,P b o→P' b o):Sim W c P ρ H s :=
 { S with prot:=fun b o p=>S.prot b o (k b o p),protH:=fun b o p=>S.protH b o (k b o p),protF:=fun b o p=>S.protF b o (k b o p) }

noncomputable def P8 (c:Cx) (H:Hp) (h:Heap):Addr→Obj→Prop:=fun b o=>h.get? b=some o∧H b=none∧b∉c.own∧b∉c.frs

theorem Sim.max {W:Wd}{c:Cx}{P:Addr→Obj→Prop}{ρ:Loc}{H:Hp}{s:Shared} (S:Sim W c P ρ H s):Sim W c (P8 c H s.heap) ρ H s :=
 { S with prot:=fun ξ ξ p=>p.1,protH:=fun ξ ξ p=>p.2.1,protF:=fun ξ ξ p=>p.2.2 }
theorem Sim.le_max {W:Wd}{c:Cx}{P:Addr→Obj→Prop}{ρ:Loc}{H:Hp}{s:Shared} (S:Sim W c P ρ H s) (b:Addr) (o:Obj) (p:P b o):P8 c H s.heap b o :=
 ⟨S.prot b o p,S.protH b o p,S.protF b o p⟩

theorem Sim.keepR {W:Wd}{c:Cx}{P:Addr→Obj→Prop}{ρ ρ':Loc}{H H':Hp}{s s':Shared} (S:Sim W c P ρ H s) (S':Sim W c (P8 c H s.heap) ρ' H' s'):KeepR W s.heap s'.heap:=by
 have nH:∀b o,s.heap.get? b=some o→o.cls≠.type "list" → o.cls≠.type "dict" → H b=none:=fun b o e h1 h2=>by
  cases q:H b with
  | none=>rfl
  | some x =>
   obtain⟨ob,e',k,_⟩:=(S.heap b x q).obj
   rw[e] at e';cases e'
   rcases k with k | k
   ·exact absurd k h1
   ·exact absurd k h2
 refine⟨fun b o items n e k d ξ=>S'.prot b o ⟨e,nH b o e (by rw[k];decide) (by rw[k];decide),fun m=>?_,fun m=>?_⟩,fun b o C ws e k d=>⟨o,ws,S'.prot b o ⟨e,nH b o e (by first | exact Ap k rfl | exact Aq k rfl | (rw[k];exact nofun)) (by first | exact Ap k rfl | exact Aq k rfl | (rw[k];exact nofun)),fun m=>?_,fun m=>?_⟩,k,d⟩⟩
 all_goals (obtain⟨o',e',q⟩:=S.ownD b (by first | exact .inl m | exact .inr m);rw[e] at e';cases e';rcases q with ⟨_,_,q⟩ | ⟨_,q⟩ <;> rw[d] at q <;> cases q)

theorem AM {base h h':Heap}:∀ {l:List Env},h.FunFrames base l→(∀b∈l.filterMap (·.frame),∀o,h.get? b=some o→(∀vs,o.data≠.fields vs)→∃o',h'.get? b=some o'∧∀vs,o'.data≠.fields vs)→h'.FunFrames base l
 | [],_,_=>trivial
 | env :: r,⟨hk,⟨L,o,hf,hn,ho,hd⟩,hr⟩,k=>by
  have hm:∀b,b∈r.filterMap (·.frame)→b∈(env :: r).filterMap (·.frame):=fun b hb=>by rw[List.filterMap_cons,hf];exact .tail _ hb
  obtain⟨o',e,q⟩:=k L (by rw[List.filterMap_cons,hf];exact .head _) o ho hd
  exact⟨hk,⟨L,o',hf,hn,e,q⟩,AM hr fun b hb=>k b (hm b hb)⟩

theorem HasVar.monoZ {W:Wd}{z:Addr→Prop}{F:FZ}{env:Env}{h h':Heap}{m:Str→Option Value}{x:Str}{v:V} (hv:HasVar W env h m x v) (kr:KeepR W h h') (hz:Ie W z h)
  (kc:∀cl o u,env.cells.lookup x=some cl→h.get? cl=some o→o.data=.cell (some u)→∃o',h'.get? cl=some o'∧o'.data=o.data):HasVar (W.z z F) env h' m x v:=by
 rcases hv with ⟨k,u,e,r⟩ | ⟨k,cl,o,u,e,ho,hd,r⟩
 ·exact .loc k u e (r.monoZ kr hz)
 ·obtain⟨o',ho',hd'⟩:=kc cl o u e ho hd
  exact .cel k cl o' u e ho' (hd'.trans hd) (r.monoZ kr hz)
theorem HasVar.mono {W:Wd}{env:Env}{h h':Heap}{m:Str→Option Value}{x:Str}{v:V} (hv:HasVar W env h m x v) (kr:KeepR W h h')
  (kc:∀cl o u,env.cells.lookup x=some cl→h.get? cl=some o→o.data=.cell (some u)→∃o',h'.get? cl=some o'∧o'.data=o.data):HasVar W env h' m x v:=hv.monoZ (z:=W.scr) kr .same kc

theorem Cx.mem_all_own {c:Cx}{b:Addr} (h:b∈c.own):b∈c.all:=by simp only[Cx.all,List.mem_append];exact .inl (.inl h)
theorem Cx.mem_all_frs {c:Cx}{b:Addr} (h:b∈c.frs):b∈c.all:=by simp only[Cx.all,List.mem_append];exact .inl (.inr h)
theorem Cx.mem_all_outer {c:Cx}{p:Addr×(Str→Option Value)} (h:p∈c.outer):p.1∈c.all:=by simp only[Cx.all,List.mem_append];exact .inr (List.mem_map_of_mem h)

theorem Sim.change {W:Wd}{c:Cx}{P:Addr→Obj→Prop}{ρ:Loc}{H H':Hp}{s:Shared}{h':Heap}{tk:Nat} (S:Sim W c P ρ H s) (d:Addr)
  (hd:∀o,s.heap.get? d=some o→o.cls≠.type "tuple" ∧ (∀C,o.cls≠.ref C)∧(∀v,o.data≠.cell v))
  (hnew:W.base.get? d=none) (hall:d∉c.all) (hP:∀o,¬P d o)
  (hk:∀b o,b≠d→s.heap.get? b=some o→h'.get? b=some o)
  (hH:∀b,b≠d→H' b=H b) (hO:∀o,H' d=some o→DP W h' d o):Sim W c P ρ H' { s with heap:=h',toks:=tk }:=by
 have kr:KeepR W s.heap h':=⟨fun b o ξ ξ e k ξ ξ=>hk b o (by rintro rfl;exact (hd o e).1 k) e,fun b o C ws e k q=>⟨o,ws,hk b o (by rintro rfl;exact (hd o e).2.1 C k) e,k,q⟩⟩
 have hne:∀b,b∈c.all→b≠d:=fun b hb q=>hall (q▸hb)
 have hloc:d≠c.env.locals:=fun q=>hall (q▸Cx.mem_all_own S.locOwn)
 refine⟨?_,fun b o e=>hk b o (by rintro rfl;rw[hnew] at e;cases e) (S.base b o e),AM S.frames fun b hb o e d=>⟨o,hk b o (hne b (Cx.mem_all_frs hb)) e,d⟩,fun p hp=>?_,?_,S.locOwn,S.ownNew,S.ownOut,
  fun a o e=>?_,fun a o e=>?_,fun a o e=>?_,fun b o p=>hk b o (by rintro rfl;exact hP o p) (S.prot b o p),fun b o p=>?_,S.protF,fun x a e=>?_,fun b hb=>?_,fun b hb=>(S.scr b hb).at fun o e k ξ=>hk b o (by rintro rfl;exact (hd o e).1 k) e⟩
 ·obtain⟨h,tk',rfl⟩:=S.rest;exact⟨h',tk,rfl⟩
 ·obtain⟨o,es,ep,e,r⟩:=S.outer p hp
  exact⟨o,es,ep,hk _ _ (hne _ (Cx.mem_all_outer hp)) e,r⟩
 ·obtain⟨m,⟨o,es,ep,e,r⟩,hv⟩:=S.loc
  refine⟨m,⟨o,es,ep,hk _ _ (Ne.symm hloc) e,r⟩,fun i x v h1 h2 h3=>(hv i x v h1 h2 h3).mono kr fun cl o u ξ ho hq=>⟨o,hk _ _ (by rintro rfl;exact (hd o ho).2.2 _ hq) ho,rfl⟩⟩
 ·by_cases q:a=d
  ·subst q;exact hO o e
  ·rw[hH a q] at e;exact (S.heap a o e).at kr fun ob h=>hk a ob q h
 ·by_cases q:a=d
  ·subst q;exact hnew
  ·rw[hH a q] at e;exact S.new a o e
 ·by_cases q:a=d
  ·subst q;exact hall
  ·rw[hH a q] at e;exact S.apart a o e
 ·have q:b≠d:=by rintro rfl;exact hP o p
  rw[hH b q];exact S.protH b o p
 ·obtain⟨u,o,e1,e2⟩:=S.cells x a e
  exact⟨u,o,hk a o (by rintro rfl;exact (hd o e1).2.2 _ e2) e1,e2⟩
 ·obtain⟨o,e,q⟩:=S.ownD b hb
  exact⟨o,hk b o (hne b (hb.elim Cx.mem_all_own Cx.mem_all_frs)) e,q⟩

theorem Sim.growZ {W:Wd}{c:Cx}{P:Addr→Obj→Prop}{ρ:Loc}{H:Hp}{s:Shared}{h':Heap}{tk:Nat}{z:Addr→Prop}{F:FZ} (S:Sim W c P ρ H s) (hz:Ie W z s.heap) (ht:∀b,z b→TupAt h' b) (hk:∀b o,s.heap.get? b=some o→h'.get? b=some o) (hF:∀a o,F a o→W.fz a o∨h'.get? a=some o):Sim (W.z z F) c P ρ H { s with heap:=h',toks:=tk }:=by
 have kr:KeepR W s.heap h':=.of_keeps hk
 refine⟨?_,fun b o e=>hk b o (S.base b o e),AM S.frames fun b hb o e d=>⟨o,hk b o e,d⟩,fun p hp=>?_,?_,S.locOwn,S.ownNew,S.ownOut,
  fun a o e=>(S.heap a o e).atZ kr hz (fun ob h=>hk a ob h) (hF a),S.new,S.apart,fun b o p=>hk b o (S.prot b o p),S.protH,S.protF,fun x a e=>?_,fun b hb=>?_,ht⟩
 ·obtain⟨h,tk',rfl⟩:=S.rest;exact⟨h',tk,rfl⟩
 ·obtain⟨o,es,ep,e,r⟩:=S.outer p hp;exact⟨o,es,ep,hk _ _ e,r⟩
 ·obtain⟨m,⟨o,es,ep,e,r⟩,hv⟩:=S.loc
  exact⟨m,⟨o,es,ep,hk _ _ e,r⟩,fun i x v h1 h2 h3=>(hv i x v h1 h2 h3).monoZ kr hz fun cl o u ξ ho hq=>⟨o,hk _ _ ho,rfl⟩⟩
 ·obtain⟨u,o,e1,e2⟩:=S.cells x a e;exact⟨u,o,hk a o e1,e2⟩
 ·obtain⟨o,e,q⟩:=S.ownD b hb;exact⟨o,hk b o e,q⟩
theorem Sim.grow {W:Wd}{c:Cx}{P:Addr→Obj→Prop}{ρ:Loc}{H:Hp}{s:Shared}{h':Heap}{tk:Nat} (S:Sim W c P ρ H s) (hk:∀b o,s.heap.get? b=some o→h'.get? b=some o):Sim W c P ρ H { s with heap:=h',toks:=tk } :=
 S.growZ (z:=W.scr) .same (fun b hb=>(S.scr b hb).at fun o e ξ ξ=>hk b o e) hk fun ξ ξ q=>.inl q
theorem Sim.down {W:Wd}{c:Cx}{P:Addr→Obj→Prop}{ρ:Loc}{H:Hp}{s:Shared}{z:Addr→Prop}{F:FZ} (hz:∀b,W.scr b→z b) (S:Sim (W.z z F) c P ρ H s) (hF:∀a o,W.fz a o→F a o):Sim W c P ρ H s :=
 S.growZ (z:=W.scr) (F:=W.fz) (h':=s.heap) (tk:=s.toks) (fun ξ ξ ξ ξ ξ ξ ξ q w=>q (hz _ w)) (fun b hb=>S.scr b (hz b hb)) (fun ξ ξ e=>e) fun a o q=>.inl (hF a o q)
theorem Sim.toks {W:Wd}{c:Cx}{P:Addr→Obj→Prop}{ρ:Loc}{H:Hp}{s:Shared} (S:Sim W c P ρ H s) (tk:Nat):Sim W c P ρ H { s with toks:=tk }:=S.grow fun ξ ξ e=>e

theorem AD (h:Heap):h.get? h.objs.size=none:=by
 cases q:h.get? h.objs.size with
 | none=>rfl
 | some o=>exact absurd (Heap.lt_size q) (Nat.lt_irrefl _)
theorem Sim.hsize {W:Wd}{c:Cx}{P:Addr→Obj→Prop}{ρ:Loc}{H:Hp}{s:Shared} (S:Sim W c P ρ H s) {a:Addr} (h:s.heap.get? a=none):H a=none:=by
 cases q:H a with
 | none=>rfl
 | some o=>obtain⟨ob,e,_⟩:=(S.heap a o q).obj;rw[h] at e;cases e
theorem Sim.all_there {W:Wd}{c:Cx}{P:Addr→Obj→Prop}{ρ:Loc}{H:Hp}{s:Shared} (S:Sim W c P ρ H s) {a:Addr} (h:s.heap.get? a=none):a∉c.all:=fun m=>by
 simp only[Cx.all,List.mem_append] at m
 rcases m with m | m
 ·obtain⟨o,e,_⟩:=S.ownD a m;rw[h] at e;cases e
 ·obtain⟨p,hp,rfl⟩:=List.mem_map.mp m
  obtain⟨o,es,ep,e,_⟩:=S.outer p hp;rw[h] at e;cases e

theorem Sim.noScr {W:Wd}{c:Cx}{P:Addr→Obj→Prop}{ρ:Loc}{H:Hp}{s:Shared} (S:Sim W c P ρ H s) {a:Addr} (h:s.heap.get? a=none):¬W.scr a:=fun q=>by obtain⟨o,i,n,e,_⟩:=S.scr a q;rw[h] at e;cases e

theorem Sim.alloc {W:Wd}{c:Cx}{P:Addr→Obj→Prop}{ρ:Loc}{H:Hp}{s:Shared}{h':Heap}{tk:Nat}{a:Addr}{o:Ob} (S:Sim W c P ρ H s) (ha:s.heap.get? a=none)
  (hk:∀b o,s.heap.get? b=some o→h'.get? b=some o) (hO:DP W h' a o):Sim W c P ρ (H.set a o) { s with heap:=h',toks:=tk }:=by
 refine S.change a (fun o e=>by rw[ha] at e;cases e) ?_ (S.all_there ha) (fun o p=>by rw[S.prot a o p] at ha;cases ha) (fun b o ξ e=>hk b o e) (fun b hb=>by simp [Hp.set,hb]) fun o' e=>?_
 ·cases q:W.base.get? a with
  | none=>rfl
  | some x=>rw[S.base a x q] at ha;cases ha
 ·simp only[Hp.set,if_true,Option.some.injEq] at e;subst e;exact hO

theorem Sim.write {W:Wd}{c:Cx}{P:Addr→Obj→Prop}{ρ:Loc}{H:Hp}{s:Shared}{h':Heap}{tk:Nat}{a:Addr}{o₀ o:Ob} (S:Sim W c P ρ H s) (ha:H a=some o₀)
  (hk:∀b o,b≠a→s.heap.get? b=some o→h'.get? b=some o) (hO:DP W h' a o):Sim W c P ρ (H.set a o) { s with heap:=h',toks:=tk }:=by
 obtain⟨ob,e,k,nc⟩:=(S.heap a o₀ ha).obj
 refine S.change a (fun o' e'=>?_) (S.new a _ ha) (S.apart a _ ha) (fun o' p=>by rw[S.protH a o' p] at ha;cases ha) hk (fun b hb=>by simp [Hp.set,hb]) fun o' e'=>?_
 ·rw[e] at e';cases e'
  exact⟨by rcases k with k | k <;> rw[k] <;> decide,by rcases k with k | k <;> rw[k] <;> exact nofun,nc⟩
 ·simp only[Hp.set,if_true,Option.some.injEq] at e';subst e';exact hO

end Mine.Internal
end

section
namespace Mine.Internal
open PySem PySem.Calls PyProof.Rows PySem.SeqAt

inductive VbS (y:V) (B:Bool→Option Bool) (I:Int→Option Bool) (T:Str→Option Bool) (b:Bool):Prop
 | n (e:y=.none) (q:b=false)
 | b (c:Bool) (e:y=.bool c) (q:B c=some b)
 | i (c:Int) (e:y=.int c) (q:I c=some b)
 | s (c:Str) (e:y=.str c) (q:T c=some b)
theorem G3 {y:V}{B:Bool→Option Bool}{I:Int→Option Bool}{T:Str→Option Bool}{b:Bool} (h:vbS y B I T=some b):VbS y B I T b:=by
 cases y with
 | none=>exact .n rfl (Option.some.inj h).symm
 | bool c=>exact .b c rfl h
 | int c=>exact .i c rfl h
 | str c=>exact .s c rfl h
 | _=>cases h
inductive VeqI (n:Nat) (H:Hp) (x y:V) (b:Bool):Prop
 | tt (xs ys:List V) (hx:x=.tup xs) (hy:y=.tup ys) (e:BE (veq n H) xs ys=some b)
 | rr (a c:Addr) (xs ys:List V) (hx:x=.ref a) (hy:y=.ref c) (h1:H a=some (.list xs)) (h2:H c=some (.list ys)) (e:BE (veq n H) xs ys=some b)
 | nr (a:Addr) (xs:List V) (hx:x=.none) (hy:y=.ref a) (h1:H a=some (.list xs)) (e:b=false)
 | rn (a:Addr) (xs:List V) (hx:x=.ref a) (hy:y=.none) (h1:H a=some (.list xs)) (e:b=false)
 | pl (e:vb x y=some b)
inductive VbI (x y:V) (b:Bool):Prop
 | n (hx:x=.none) (e:vbN y=some b)
 | bn (a:Bool) (hx:x=.bool a) (hy:y=.none) (e:b=false)
 | i0 (a:Int) (hx:x=.int a) (hy:y=.none) (e:b=false)
 | sn (a:Str) (hx:x=.str a) (hy:y=.none) (e:b=false)
 | tn (a:List V) (hx:x=.tup a) (hy:y=.none) (e:b=false)
 | bb (a c:Bool) (hx:x=.bool a) (hy:y=.bool c) (e:b=(a == c))
 | ii (a c:Int) (hx:x=.int a) (hy:y=.int c) (e:b=decide (a=c))
 | ss (a c:Str) (hx:x=.str a) (hy:y=.str c) (e:b=decide (a=c))
theorem En {o:Option Ob}{K:List V→Option Bool}{b:Bool} (h:ob1 o none K (fun ξ=>none)=some b):∃xs,o=some (.list xs)∧K xs=some b:=by
 cases o with
 | none=>cases h
 | some o=>cases o with
  | list xs=>exact⟨xs,rfl,h⟩
  | dict _=>cases h
theorem Im {n:Nat}{H:Hp}{x y:V}{b:Bool} (h:veq (n+1) H x y=some b):VeqI n H x y b:=by
 cases x with
 | none=>cases y with
  | ref a=>obtain⟨xs,h1,h2⟩:=En h;exact .nr a xs rfl rfl h1 (Option.some.inj h2).symm
  | _=>exact .pl h
 | tup xs=>cases y with
  | tup ys=>exact .tt xs ys rfl rfl h
  | none=>exact .pl h
  | _=>cases h
 | ref a=>cases y with
  | none=>obtain⟨xs,h1,h2⟩:=En h;exact .rn a xs rfl rfl h1 (Option.some.inj h2).symm
  | ref c =>
   obtain⟨xs,h1,h2⟩:=En h
   obtain⟨ys,h3,h4⟩:=En h2
   exact .rr a c xs ys rfl rfl h1 h3 h4
  | _=>cases h
 | ro _=>cases h
 | exc _=>cases h
 | _=>exact .pl h
theorem Lr {x y:V}{b:Bool} (h:vb x y=some b):VbI x y b:=by
 cases x with
 | none=>exact .n rfl h
 | bool a =>
  cases G3 h with
  | n e q=>exact .bn a rfl e q
  | b c e q=>exact .bb a c rfl e (Option.some.inj q).symm
  | i c e q=>cases q
  | s c e q=>cases q
 | int a =>
  cases G3 h with
  | n e q=>exact .i0 a rfl e q
  | i c e q=>exact .ii a c rfl e (Option.some.inj q).symm
  | b c e q=>cases q
  | s c e q=>cases q
 | str a =>
  cases G3 h with
  | n e q=>exact .sn a rfl e q
  | s c e q=>exact .ss a c rfl e (Option.some.inj q).symm
  | b c e q=>cases q
  | i c e q=>cases q
 | tup a =>
  cases G3 h with
  | n e q=>exact .tn a rfl e q
  | b c e q=>cases q
  | i c e q=>cases q
  | s c e q=>cases q
 | _=>cases h
theorem EW {f:V→V→Option Bool} (k:∀x b,f x x=some b→b=true) (xs:List V):∀ {b:Bool},BE f xs xs=some b→b=true:=by
 induction xs with
 | nil=>intro b e;exact (Option.some.inj e).symm
 | cons z zs ih =>
  intro b e
  obtain⟨p,q,h1,h2,rfl⟩:=Gs e
  rw[k z p h1,ih h2];rfl
theorem F1 {x:V}{b:Bool} (h:vb x x=some b):b=true:=by
 cases x with
 | none=>exact (Option.some.inj h).symm
 | bool a=>exact (Option.some.inj h).symm.trans (beq_self_eq_true a)
 | int a=>exact (Option.some.inj h).symm.trans (decide_eq_true rfl)
 | str a=>exact (Option.some.inj h).symm.trans (decide_eq_true rfl)
 | _=>cases h
theorem Ll (n:Nat):∀(H:Hp) (x:V) (b:Bool),veq n H x x=some b→b=true:=by
 induction n with
 | zero=>intro H x b h;exact F1 h
 | succ n ih =>
  intro H x b h
  cases x with
  | none=>exact F1 (x:=.none) h
  | bool a=>exact F1 (x:=.bool a) h
  | int a=>exact F1 (x:=.int a) h
  | str a=>exact F1 (x:=.str a) h
  | tup xs=>exact EW (ih H) xs h
  | ref a =>
   obtain⟨xs,h1,h2⟩:=En h
   obtain⟨ys,h3,h4⟩:=En h2
   cases h1.symm.trans h3
   exact EW (ih H) xs h4
  | _=>cases h
section
variable {W:Wd}{h:Heap}
theorem JZ {x y:V}{u:Value}{b:Bool} (r:Rep W h x u) (r':Rep W h y u) (e:vb x y=some b):b=true:=by
 cases Lr e with
 | n hx q =>
  subst hx
  have r:u=.none:=r
  subst r
  cases y with
  | none=>exact (Option.some.inj q).symm
  | bool c=>cases r'
  | int c=>obtain⟨_,r'⟩:=r';cases r'
  | str c=>obtain⟨_,r'⟩:=r';cases r'
  | tup c=>obtain⟨_,_,_,_,r',_⟩:=r'.tupR;cases r'
  | _=>cases q
 | bn a hx hy q=>subst hx hy;cases r;cases r'
 | i0 a hx hy q=>subst hx hy;cases r';obtain⟨_,r⟩:=r;cases r
 | sn a hx hy q=>subst hx hy;cases r';obtain⟨_,r⟩:=r;cases r
 | tn a hx hy q=>subst hx hy;cases r';obtain⟨_,_,_,_,r',_⟩:=r.tupR;cases r'
 | bb a c hx hy q=>subst hx hy q;cases r;cases r';exact beq_self_eq_true a
 | ii a c hx hy q=>subst hx hy q;obtain⟨t,rfl⟩:=r;obtain⟨_,r'⟩:=r';cases r';exact decide_eq_true rfl
 | ss a c hx hy q=>subst hx hy q;obtain⟨t,rfl⟩:=r;obtain⟨_,r'⟩:=r';cases r';exact decide_eq_true rfl
theorem Lm:∀(n:Nat) (H:Hp) (x y:V) (u:Value) (b:Bool),Rep W h x u→Rep W h y u→veq n H x y=some b→b=true:=by
 intro n
 induction n with
 | zero=>intro H x y u b r r' e;exact JZ r r' e
 | succ n ih =>
  intro H x y u b r r' e
  have hl:∀ {us:List Value}{xs ys:List V}{b:Bool},As W h xs us→As W h ys us→BE (veq n H) xs ys=some b→b=true:=by
   intro us xs
   induction xs generalizing us with
   | nil=>intro ys b r r' e;cases r;cases ys with
    | nil=>exact (Option.some.inj e).symm
    | cons y ys=>obtain⟨_,_,q,_,_⟩:=r';cases q
   | cons x xs ihx =>
    intro ys b r r' e
    obtain⟨z,zs,rfl,a,r⟩:=r
    cases ys with
    | nil=>cases r'
    | cons y ys =>
     obtain⟨_,_,q,a',r'⟩:=r'
     cases q
     obtain⟨p,q,h1,h2,rfl⟩:=Gs e
     rw[ih H x y z p a a' h1,ihx r r' h2];rfl
  cases Im e with
  | tt xs ys hx hy e' =>
   subst hx hy
   obtain⟨a1,o1,i1,n1,rfl,e1,c1,d1,l1,r1⟩:=r.tupR
   obtain⟨a2,o2,i2,n2,q,e2,c2,d2,l2,r2⟩:=r'.tupR
   cases q;cases e1.symm.trans e2;cases d1.symm.trans d2
   exact hl r1 r2 e'
  | rr a c xs ys hx hy h1 h2 e'=>subst hx hy;cases r;cases r';cases h1.symm.trans h2;exact EW (Ll n H) xs e'
  | nr a xs hx hy=>subst hx hy;cases r;cases r'
  | rn a xs hx hy=>subst hx hy;cases r;cases r'
  | pl e'=>exact JZ r r' e'
end
theorem J8 {f:V→V→Option Bool}{xs:List V}:∀ {ys:List V}{b:Bool},BE f xs ys=some b→∃g:Nat→Bool,(∀(j:Nat) (x y:V),xs[j]?=some x→ys[j]?=some y→f x y=some (g j)) ∧
  b=((List.range (min xs.length ys.length)).all g && xs.length == ys.length):=by
 induction xs with
 | nil=>intro ys b h;cases ys with
  | nil=>exact⟨fun ξ=>true,(fun j x y e=>by cases e),(Option.some.inj h).symm⟩
  | cons y ys=>exact⟨fun ξ=>true,(fun j x y e=>by cases e),(Option.some.inj h).symm.trans (Bool.and_false _).symm⟩
 | cons x xs ih=>intro ys b h;cases ys with
  | nil=>exact⟨fun ξ=>true,(fun j x y ξ e=>by cases e),(Option.some.inj h).symm.trans (Bool.and_false _).symm⟩
  | cons y ys =>
   obtain⟨p,q,h1,h2,rfl⟩:=Gs h
   obtain⟨g,i1,i2⟩:=ih h2
   refine⟨fun j=>Nat.casesOn j p g,fun j u v hu hv=>?_,?_⟩
   ·cases j with
    | zero=>cases hu;cases hv;exact h1
    | succ j=>exact i1 j u v hu hv
   ·rw[i2,List.length_cons,List.length_cons,Nat.succ_min_succ,List.range_succ_eq_map,List.all_cons,List.all_map,←Bool.and_assoc,show (xs.length+1 == ys.length+1)=(xs.length == ys.length) from decide_eq_decide.mpr Nat.add_right_cancel_iff];rfl

section
variable {W:Wd}{A:Around}{s:Shared}{H:Hp}
theorem As.at {h:Heap}{xs:List V}{items:Array Value} (r:As W h xs items.toList) {j:Nat} (hj:j<items.size):∃x,xs[j]?=some x∧Rep W h x items[j]:=by
 have hl:j<xs.length:=by rw[r.length,Array.length_toList];exact hj
 obtain⟨u,e,q⟩:=r.get (List.getElem?_eq_getElem hl)
 cases (List.getElem?_eq_getElem (l:=items.toList) (i:=j) hj).symm.trans e
 exact⟨_,List.getElem?_eq_getElem hl,q⟩
theorem As.size {h:Heap}{xs:List V}{items:Array Value} (r:As W h xs items.toList):items.size=xs.length:=r.length.symm

theorem Rep.isTuple {h:Heap}{xs:List V}{u:Value} (r:Rep W h (.tup xs) u):∃a items,u=.ref a∧h.IsTuple a items∧xs.length≤Lim∧As W h xs items.toList:=by
 obtain⟨a,o,items,n,e,g,c,d,l,r⟩:=r.tupR
 exact⟨a,items,e,⟨o,g,c,n,d⟩,l,r⟩
theorem Rep.isTuple_ne {h:Heap}{xs:List V}{u:Value} (r:Rep W h (.tup xs) u):∃a,u=.ref a:=by
 obtain⟨a,_,_,_,e,_⟩:=r.tupR
 exact⟨a,e⟩

structure Eq3 (A:Around) (s:Shared) (u v:Value) (b:Bool):Prop where
 rc:RcAt A s u v b
 ne:RcNeAt A s u v (!b)
 eq:EqAt A s u v b
theorem Ip {x y:V}{u v:Value}{b:Bool} (r:Rep W s.heap x u) (r':Rep W s.heap y v) (e:vb x y=some b) (hu:A.units<cLine):Eq3 A s u v b:=by
 cases Lr e with
 | n hx q =>
  subst hx
  cases r
  cases y with
  | none=>cases q;cases r';exact⟨RcAt.none_none,RcNeAt.none_none,.same _⟩
  | bool c=>cases q;cases r';exact⟨RcAt.none_bool c,RcNeAt.none_bool c,.none_bool c⟩
  | int c=>cases q;obtain⟨t,rfl⟩:=r';exact⟨RcAt.none_int c t,RcNeAt.none_int c t,.none_int c t⟩
  | str c=>cases q;obtain⟨t,rfl⟩:=r';exact⟨RcAt.none_str c t,RcNeAt.none_str c t,.none_str c t⟩
  | tup c=>cases q;obtain⟨a,it,rfl,ht,_,_⟩:=r'.isTuple;exact⟨RcAt.none_tuple ht hu,RcNeAt.none_tuple ht hu,.none_tuple ht hu⟩
  | _=>cases q
 | bn a hx hy q=>subst hx hy q;cases r;cases r';exact⟨RcAt.bool_none a,RcNeAt.bool_none a,.bool_none a⟩
 | i0 a hx hy q=>subst hx hy q;cases r';obtain⟨t,rfl⟩:=r;exact⟨RcAt.int_none a t,RcNeAt.int_none a t,.int_none a t⟩
 | sn a hx hy q=>subst hx hy q;cases r';obtain⟨t,rfl⟩:=r;exact⟨RcAt.str_none a t,RcNeAt.str_none a t,.str_none a t⟩
 | tn a hx hy q=>subst hx hy q;cases r';obtain⟨p,it,rfl,ht,_,_⟩:=r.isTuple;exact⟨RcAt.tuple_none ht hu,RcNeAt.tuple_none ht hu,.tuple_none ht hu⟩
 | bb a c hx hy q=>subst hx hy q;cases r;cases r';exact⟨RcAt.bool_bool a c,RcNeAt.bool_bool a c,.bool_bool a c⟩
 | ii a c hx hy q =>
  subst hx hy q
  obtain⟨t,rfl⟩:=r;obtain⟨t',rfl⟩:=r'
  exact⟨RcAt.int_int a t c t',RcNeAt.int_int a t c t',.int_int a t c t'⟩
 | ss a c hx hy q =>
  subst hx hy q
  obtain⟨t,rfl⟩:=r;obtain⟨t',rfl⟩:=r'
  exact⟨RcAt.str_str a t c t',RcNeAt.str_str a t c t',.str_str a t c t'⟩
theorem G2 (hH:∀a o,H a=some o→DP W s.heap a o):∀(n:Nat) (A:Around) (x y:V) (u v:Value) (b:Bool),Rep W s.heap x u→Rep W s.heap y v→veq n H x y=some b→A.units+n<cLine→Eq3 A s u v b:=by
 intro n
 induction n with
 | zero=>intro A x y u v b r r' e hu;exact Ip r r' e hu
 | succ n ih =>
  intro A x y u v b r r' e hu
  have hx:∀ {xs ys:List V}{it jt:Array Value}{b:Bool},As W s.heap xs it.toList→As W s.heap ys jt.toList→BE (veq n H) xs ys=some b →
    ∃f:Nat→Bool,(∀j (h1:j<it.size) (h2:j<jt.size),EqAt A.in1 s it[j] jt[j] (f j))∧b=((List.range (min it.size jt.size)).all f && it.size == jt.size):=by
   intro xs ys it jt b r1 r2 e
   obtain⟨g,i1,i2⟩:=J8 e
   refine⟨g,fun j h1 h2=>?_,by rw[i2,r1.size,r2.size]⟩
   obtain⟨p,e1,q1⟩:=r1.at h1
   obtain⟨q,e2,q2⟩:=r2.at h2
   exact (ih A.in1 p q _ _ _ q1 q2 (i1 j p q e1 e2) (by show A.units+1+n<cLine;exact lB [] [_,_,_] (.a (.a (.n 0) (.c 1)) (.n 1)) (.n 2) [.B (.a (.n 0) (.a (.n 1) (.c 1))) (.n 2)] [1,1] rfl hu)).eq
  have hu':A.units<cLine:=by exact lB [] [_,_,_] (.n 0) (.n 1) [.B (.a (.n 0) (.a (.n 2) (.c 1))) (.n 1)] [1,1] rfl hu
  have fin:∀ {p q:Addr},u=.ref p→v=.ref q→RcAt A s u v b→EqAt A s u v b:=fun h1 h2 R=>by
   by_cases huv:u=v
   ·subst huv;rw[Lm (n+1) H x y u b r r' e];exact .same _
   ·subst h1;subst h2;exact .of_refs (fun z=>huv (by rw[z])) R
  cases Im e with
  | tt xs ys hx' hy e' =>
   subst hx' hy
   obtain⟨p,it,hp,t1,_,r1⟩:=r.isTuple
   obtain⟨q,jt,hq,t2,_,r2⟩:=r'.isTuple
   obtain⟨f,hf,z⟩:=hx r1 r2 e'
   have R:RcAt A s u v b:=by rw[z,hp,hq];exact RcAt.tuples t1 t2 hu' hf
   exact⟨R,by rw[z,hp,hq];exact RcNeAt.tuples t1 t2 hu' hf,fin hp hq R⟩
  | rr a c xs ys hx' hy h1 h2 e' =>
   subst hx' hy
   have r:u=.ref a:=r
   have r':v=.ref c:=r'
   obtain⟨_,it,m,g1,q1⟩:=hH _ _ h1
   obtain⟨_,jt,m',g2,q2⟩:=hH _ _ h2
   obtain⟨f,hf,q⟩:=hx q1 q2 e'
   have l1:s.heap.IsList a it:=⟨_,g1,rfl,_,rfl⟩
   have l2:s.heap.IsList c jt:=⟨_,g2,rfl,_,rfl⟩
   have R:RcAt A s u v b∧RcNeAt A s u v (!b):=by
    rw[r,r']
    by_cases hs:it.size=jt.size
    ·rw[hs,beq_self_eq_true,Bool.and_true,Nat.min_self] at q
     rw[q,←hs];exact⟨RcAt.lists l1 l2 hs hu' hf,RcNeAt.lists l1 l2 hs hu' hf⟩
    ·rw[show b=false by rw[q,beq_false_of_ne hs,Bool.and_false]];exact⟨RcAt.lists_lengths l1 l2 (bne_iff_ne.mpr hs) hu',RcNeAt.lists_lengths l1 l2 (bne_iff_ne.mpr hs) hu'⟩
   exact⟨R.1,R.2,fin r r' R.1⟩
  | nr a xs hx' hy h1 q =>
   subst hx' hy q;cases r;cases r'
   obtain⟨_,it,m,g1,q1⟩:=hH _ _ h1
   have l1:s.heap.IsList a it:=⟨_,g1,rfl,_,rfl⟩
   exact⟨RcAt.none_list l1 hu',RcNeAt.none_list l1 hu',.none_list l1 hu'⟩
  | rn a xs hx' hy h1 q =>
   subst hx' hy q;cases r;cases r'
   obtain⟨_,it,m,g1,q1⟩:=hH _ _ h1
   have l1:s.heap.IsList a it:=⟨_,g1,rfl,_,rfl⟩
   exact⟨RcAt.list_none l1 hu',RcNeAt.list_none l1 hu',.list_none l1 hu'⟩
  | pl e'=>exact Ip r r' e' hu'
theorem H8 (hH:∀a o,H a=some o→DP W s.heap a o) (n:Nat) (A:Around) (x y:V) (u v:Value) (b:Bool) (r:Rep W s.heap x u) (r':Rep W s.heap y v) (e:veq n H x y=some b) (hu:A.units+n<cLine):RcAt A s u v b∧EqAt A s u v b :=
 ⟨(G2 hH n A x y u v b r r' e hu).rc,(G2 hH n A x y u v b r r' e hu).eq⟩
end
end Mine.Internal
end

section
namespace Mine.Internal
open PySem PySem.Calls PyProof.Rows PySem.SeqAt

noncomputable def GX (h:Heap) (L:Addr):List (Addr×Obj):=(List.range h.objs.size).filterMap fun a=>if a=L then none else (h.get? a).map fun o=>(a,o)
theorem DZ {h:Heap}{L b:Addr}{o:Obj}:(b,o)∈GX h L ↔ h.get? b=some o∧b≠L:=by
 unfold GX
 rw[List.mem_filterMap]
 constructor
 ·rintro⟨a,ha,e⟩
  split at e
  ·cases e
  ·rename_i q
   cases ho:h.get? a with
   | none=>rw[ho] at e;cases e
   | some o'=>rw[ho] at e;cases e;exact⟨ho,q⟩
 ·rintro⟨e,q⟩
  exact⟨b,List.mem_range.mpr (Heap.lt_size e),by rw[if_neg q,e];rfl⟩
noncomputable def noH:Heap:={ objs:=#[] }
theorem HM (b:Addr):noH.get? b=none:=by
 cases q:noH.get? b with
 | none=>rfl
 | some o=>exact absurd (Heap.lt_size q) (Nat.not_lt_zero _)
theorem FM {h:Heap}{L:Addr}{m:Str→Option Value} (hn:h.Ns L m):Fr noH L h m:=⟨hn,(fun b o e=>by rw[HM] at e;exact nomatch e),Nat.zero_le _⟩
theorem Eo (h:Heap) (L:Addr):News noH L h (GX h L):=fun p hp=>by
 obtain⟨b,o⟩:=p
 obtain⟨e,q⟩:=DZ.mp hp
 exact⟨e,q,HM _⟩

section
variable {W:Wd}{c:Cx}{P:Addr→Obj→Prop}{ρ:Loc}{H:Hp}{s:Shared}{Q:V→Hp→Prop}{E:Value→Shared→Prop}

theorem Sim.names {ρ':Loc}{h':Heap}{tk:Nat}{m m':Str→Option Value} (S:Sim W c P ρ H s) (hm:s.heap.Ns c.env.locals m) (hn:h'.Ns c.env.locals m')
  (hk:∀b o,b≠c.env.locals→s.heap.get? b=some o→h'.get? b=some o)
  (hv:KeepR W s.heap h'→(∀b o v,s.heap.get? b=some o→o.data=.cell v→h'.get? b=some o)→∀i x v,c.vis i=true→c.names[i]?=some x→ρ'[i]?=some (some v)→HasVar W c.env h' m' (Str.ofString x) v) :
  Sim W c P ρ' H { s with heap:=h',toks:=tk }:=by
 obtain⟨oL,esL,epL,eL,dL,kL,fL⟩:=hm
 obtain⟨oN,esN,epN,eN,dN,kN,fN⟩:=id hn
 have nt:∀b o,s.heap.get? b=some o→(∀es n,o.data≠.dict es n)→b≠c.env.locals:=fun b o e d q=>by rw[q,eL] at e;cases e;exact d _ _ dL
 have kr:KeepR W s.heap h':=⟨fun b o i n e k d ξ=>hk b o (nt b o e (by first | exact Ap d rfl | exact Aq d rfl | (rw[d];exact nofun))) e,fun b o C ws e k d=>⟨o,ws,hk b o (nt b o e (by first | exact Ap d rfl | exact Aq d rfl | (rw[d];exact nofun))) e,k,d⟩⟩
 have nH:∀a o,H a=some o→a≠c.env.locals:=fun a o e q=>S.apart a o e (q▸Cx.mem_all_own S.locOwn)
 refine⟨?_,fun b o e=>hk b o (fun q=>by rw[q,S.ownNew _ S.locOwn] at e;cases e) (S.base b o e),AM S.frames fun b hb o e d=>?_,fun p hp=>?_,⟨m',hn,hv kr fun b o v e d=>hk b o (nt b o e (by first | exact Ap d rfl | exact Aq d rfl | (rw[d];exact nofun))) e⟩,S.locOwn,S.ownNew,S.ownOut,
  fun a o e=>(S.heap a o e).at kr fun ob h=>hk a ob (nH a o e) h,S.new,S.apart,fun b o p=>hk b o (fun q=>(S.protF b o p).1 (q▸S.locOwn)) (S.prot b o p),S.protH,S.protF,fun x a e=>?_,fun b hb=>?_,fun b hb=>(S.scr b hb).at fun o e ξ hPt=>by obtain⟨i,n,d⟩:=hPt;exact hk b o (nt b o e (by first | exact Ap d rfl | exact Aq d rfl | (rw[d];exact nofun))) e⟩
 ·obtain⟨h,tk',rfl⟩:=S.rest;exact⟨h',tk,rfl⟩
 ·by_cases q:b=c.env.locals
  ·subst q;exact⟨oN,eN,by first | exact Ap dN rfl | exact Aq dN rfl | (rw[dN];exact nofun)⟩
  ·exact⟨o,hk b o q e,d⟩
 ·obtain⟨o,es,ep,e,r⟩:=S.outer p hp
  exact⟨o,es,ep,hk _ _ (S.ownOut _ S.locOwn p hp) e,r⟩
 ·obtain⟨u,o,e1,e2⟩:=S.cells x a e
  exact⟨u,o,hk a o (nt a o e1 (by first | exact Ap e2 rfl | exact Aq e2 rfl | (rw[e2];exact nofun))) e1,e2⟩
 ·by_cases q:b=c.env.locals
  ·subst q;exact⟨oN,eN,.inl ⟨_,_,dN⟩⟩
  ·obtain⟨o,e,z⟩:=S.ownD b hb;exact⟨o,hk b o q e,z⟩

theorem Sim.growL {h':Heap}{tk:Nat}{m:Str→Option Value} (S:Sim W c P ρ H s) (hm:s.heap.Ns c.env.locals m) (hv:∀i x v,c.vis i=true→c.names[i]?=some x→ρ[i]?=some (some v)→HasVar W c.env s.heap m (Str.ofString x) v)
  (F:Fr noH c.env.locals h' m) (N:News noH c.env.locals h' (GX s.heap c.env.locals)):Sim W c P ρ H { s with heap:=h',toks:=tk } :=
 S.names hm F.ns (fun b o q e=>(N (b,o) (DZ.mpr ⟨e,q⟩)).1) fun kr kc i x v h1 h2 h3=>(hv i x v h1 h2 h3).mono kr fun cl o u ξ ho hd=>⟨o,kc cl o _ ho hd,rfl⟩
theorem GW {h h':Heap}{L:Addr} (N:News noH L h' (GX h L)):∀b o,b≠L→h.get? b=some o→h'.get? b=some o:=fun b o q e=>(N (b,o) (DZ.mpr ⟨e,q⟩)).1

theorem Sim.adopt {a:Addr}{o:Ob} (S:Sim W c P ρ H s) (hb:W.base.get? a=none) (hall:a∉c.all) (hP:∀o,¬P a o) (r:DP W s.heap a o):Sim W c P ρ (H.set a o) s:=by
 obtain⟨ob,e,k,nc⟩:=r.obj
 refine (S.change (H':=H.set a o) (h':=s.heap) (tk:=s.toks) a (fun o' e'=>?_) hb hall hP (fun ξ ξ ξ e=>e) (fun b hb=>by simp [Hp.set,hb]) fun o' e'=>?_ :)
 ·rw[e] at e';cases e'
  exact⟨by rcases k with k | k <;> rw[k] <;> decide,by rcases k with k | k <;> rw[k] <;> exact nofun,nc⟩
 ·simp only[Hp.set,if_true,Option.some.injEq] at e';subst e';exact r
theorem Sim.fresh {a:Addr} (S:Sim W c P ρ H s) (h:s.heap.get? a=none):W.base.get? a=none∧a∉c.all∧(∀o,¬P a o)∧H a=none:=by
 refine⟨?_,S.all_there h,fun o p=>?_,S.hsize h⟩
 ·cases q:W.base.get? a with
  | none=>rfl
  | some x=>rw[S.base a x q] at h;cases h
 ·rw[S.prot a o p] at h;cases h

inductive PE (W:Wd) (c:Cx) (P:Addr→Obj→Prop) (ρ:Loc) (Q:V→Hp→Prop) (x:Value) (s':Shared):Prop
 | mk (v:V) (H':Hp) (S:Sim W c P ρ H' s') (r:Rep W s'.heap v x) (q:Q v H')

theorem Cf {h:Heap}{a:Addr}{items:Array Value}{n:Nat}{vs:List V} (l:vs.length≤Lim) (e:h.get? a=some { cls:=.type "list",data:=.seq items n }) (r:As W h vs items.toList):DP W h a (.list vs):=⟨l,items,n,e,r⟩

theorem GZ {xs:List V}{us:List Value} (S:Sim W c P ρ H s) (r:As W s.heap xs us) (h:Bb xs Q H):wpAny (model W.prog W.w) c.A (newList us) (PE W c P ρ Q) E s:=by
 have hl:us.length≤sizeLine:=by have:=r.length;have:=h.1;rw[sizeLine_eq];unfold Lim at this;omega
 refine wpAny_newObj_type ?_ (by show us.toArray.size≤sizeLine;rw[List.size_toArray];exact hl)
 have hk:∀b o,s.heap.get? b=some o→(s.heap.push { cls:=.type "list",data:=.seq us.toArray }).get? b=some o:=fun b o e=>Heap.get?_push_of_some _ e
 have hn:=AD s.heap
 exact⟨.ref s.heap.objs.size,H.set s.heap.objs.size (.list xs),S.alloc (tk:=s.toks) hn hk (Cf h.1 (Heap.get?_push_size _ rfl) (by simpa using r.mono (.of_keeps hk))),.ref _,h.2 _ (S.hsize hn)⟩
theorem Gi {xs:List V}{us:List Value} (S:Sim W c P ρ H s) (r:As W s.heap xs us) (hl0:xs.length≤Lim) (h:Q (.tup xs) H):wpAny (model W.prog W.w) c.A (newTuple us) (PE W c P ρ Q) E s:=by
 have hl:us.length≤sizeLine:=by have:=r.length;rw[sizeLine_eq];unfold Lim at hl0;exact lA [] [_,_] (.n 0) (.c 16777216) [.L (.n 1) (.c 16777216),.E (.n 1) (.n 0)] [1,1,-1] rfl hl0 this
 refine wpAny_newObj_type ?_ (by show us.toArray.size≤sizeLine;rw[List.size_toArray];exact hl)
 have hk:∀b o,s.heap.get? b=some o→(s.heap.push { cls:=.type "tuple",data:=.seq us.toArray }).get? b=some o:=fun b o e=>Heap.get?_push_of_some _ e
 exact⟨.tup xs,H,S.grow (tk:=s.toks) hk,Rep.tup (Heap.get?_push_size _ rfl) rfl rfl hl0 (by simpa using r.mono (.of_keeps hk)) (S.noScr (AD _)),h⟩
end
end Mine.Internal
end

section
namespace Mine.Internal
open PySem PySem.Calls PyProof.Rows PySem.SeqAt
section
variable {W:Wd}{c:Cx}{P:Addr→Obj→Prop}{ρ:Loc}{H:Hp}{s:Shared}{Q:V→Hp→Prop}{E:Value→Shared→Prop}

noncomputable def M1:Op→Operator
 | .add=>.Add | .sub=>.Sub | .mul=>.Mult | .fdiv=>.FloorDiv | .mod=>.Mod | .pow=>.Pow

theorem Dw {i:Int} (S:Sim W c P ρ H s) (h:Q (.int i) H):PE W c P ρ Q (.int i s.toks) { s with toks:=s.toks+1 }:=⟨.int i,H,S.toks _,.int i _,h⟩
theorem Fb {b:Bool} (S:Sim W c P ρ H s) (h:Q (.bool b) H):PE W c P ρ Q (.bool b) s:=⟨.bool b,H,S,.bool b,h⟩
theorem BW {v:V}{x:Value} (S:Sim W c P ρ H s) (r:Rep W s.heap v x) (h:Q v H):PE W c P ρ Q x s:=⟨v,H,S,r,h⟩

theorem N9 {a b:Int} (h:Sm a∨Sm b):IntMulOk a b:=by
 rcases h with h | h
 ·exact .of_left (intBits_le_64 (by have:=h.1;exact lb [_] [] (.c (-(2 ^ 64))) (.v 0) [.b (.c (-18446744073709551616)) (.v 0)] [1,1] rfl this) (by have:=h.2;exact lb [_] [] (.v 0) (.c (2 ^ 64)) [.b (.v 0) (.c 18446744073709551616)] [1,1] rfl this))
 ·exact .of_right (intBits_le_64 (by have:=h.1;exact lb [_] [] (.c (-(2 ^ 64))) (.v 0) [.b (.c (-18446744073709551616)) (.v 0)] [1,1] rfl this) (by have:=h.2;exact lb [_] [] (.v 0) (.c (2 ^ 64)) [.b (.v 0) (.c 18446744073709551616)] [1,1] rfl this))

inductive Int2 (u v:Value) (K:Int→Int→Prop):Prop
 | mk (a b:Int) (t t':Tok) (hu:u=.int a t) (hv:v=.int b t') (k:K a b)
theorem Bc {h:Heap}{x y:V}{u v:Value}{K:Int→Int→Prop} (k:B1 x fun a=>B1 y fun b=>K a b) (hx:Rep W h x u) (hy:Rep W h y v):Int2 u v K:=by
 obtain⟨a,rfl,k1⟩:=AV k
 obtain⟨b,rfl,k2⟩:=AV k1
 obtain⟨t,hx⟩:=hx
 obtain⟨t',hy⟩:=hy
 exact⟨a,b,t,t',hx,hy,k2⟩
theorem L7 (x:Value) (n:Nat):∀acc:Array Value,(List.foldl (fun x1 x2=>x1++x2) acc (List.replicate n #[x])).toList=acc.toList++List.replicate n x:=by
 induction n with
 | zero=>intro acc;exact (List.append_nil _).symm
 | succ n ih=>intro acc;rw[List.replicate_succ,List.foldl_cons,ih,Array.toList_append,List.append_assoc];rfl
theorem Gn {h:Heap}{v:V}{x:Value} (r:Rep W h v x) (n:Nat):As W h (List.replicate n v) (List.replicate n x):=by
 induction n with
 | zero=>exact .nil
 | succ n ih=>exact .cons r ih

theorem MQ {xs ys:List V}{u v:Value} (S:Sim W c P ρ H s) (hx:Rep W s.heap (.tup xs) u) (hy:Rep W s.heap (.tup ys) v) (h0:xs.length+ys.length≤Lim) (h:Q (.tup (xs++ys)) H) :
  wpAny (model W.prog W.w) c.A (binaryOp .Add u v) (PE W c P ρ Q) E s:=by
 obtain⟨a,it,rfl,⟨oa,ea,ca,na,da⟩,la',ra⟩:=hx.isTuple
 obtain⟨b,jt,rfl,⟨ob,eb,cb,nb,db⟩,lb',rb⟩:=hy.isTuple
 obtain⟨m,hm,hv⟩:=id S.loc
 refine add_tuples (vs:=it.toList) (ws:=jt.toList) (FM hm) (Eo s.heap c.env.locals) ⟨oa,ea,ca,na,da⟩ ⟨ob,eb,cb,nb,db⟩ (fun q=>?_) (fun ξ q=>?_) (fun ξ ξ h' F' N'=>?_) ?_
 ·have z:=ra;rw[q] at z
  cases xs with
  | nil=>exact BW S hy h
  | cons _ _=>obtain⟨_,_,z,_,_⟩:=z;cases z
 ·have z:=rb;rw[q] at z
  cases ys with
  | nil=>rw[List.append_nil] at h;exact BW S hx h
  | cons _ _=>obtain⟨_,_,z,_,_⟩:=z;cases z
 ·have N'':News noH c.env.locals h' (GX s.heap c.env.locals):=fun p hp=>N' p (.tail _ hp)
  have S':=S.growL (tk:=s.toks) hm hv F' N''
  refine⟨_,H,S',.tup (N' _ (.head _)).1 rfl rfl (by rw[List.length_append];exact h0) ?_ (S.noScr (AD _)),h⟩
  have kr:KeepR W s.heap h':=S.keepR ((S.max).growL (tk:=s.toks) hm hv F' N'')
  exact (ra.append rb).mono kr
 ·have l1:=ra.length;have l2:=rb.length;rw[sizeLine_eq];unfold Lim at h0;exact lA [] [_,_,_,_] (.a (.n 0) (.n 1)) (.c 16777216) [.L (.a (.n 2) (.n 3)) (.c 16777216),.E (.n 2) (.n 0),.E (.n 3) (.n 1)] [1,1,-1,-1] rfl h0 l1 l2
theorem MR {a b:Addr}{xs ys:List V} (S:Sim W c P ρ H s) (e1:H a=some (.list xs)) (e2:H b=some (.list ys)) (h:Bb (xs++ys) Q H) :
  wpAny (model W.prog W.w) c.A (binaryOp .Add (.ref a) (.ref b)) (PE W c P ρ Q) E s:=by
 obtain⟨_,it,n,g1,r1⟩:=S.heap _ _ e1
 obtain⟨_,jt,m,g2,r2⟩:=S.heap _ _ e2
 have hk:∀b o,s.heap.get? b=some o→(s.heap.push { cls:=.type "list",data:=.seq (it++jt) }).get? b=some o:=fun b o e=>Heap.get?_push_of_some _ e
 have hn:=AD s.heap
 refine _root_.PySem.P.add_list g1 g2 ⟨.ref s.heap.objs.size,H.set s.heap.objs.size (.list (xs++ys)),S.alloc (tk:=s.toks) hn hk (Cf h.1 (Heap.get?_push_size _ rfl) ?_),.ref _,h.2 _ (S.hsize hn)⟩ ?_
 ·rw[Array.toList_append];exact (r1.append r2).mono (.of_keeps hk)
 ·have:=h.1;rw[List.length_append] at this;rw[r1.size,r2.size,sizeLine_eq];exact this
theorem MO {a:Addr}{n:Int}{t:Tok}{x:V} (S:Sim W c P ρ H s) (e1:H a=some (.list [x])) (hn:Ix n∧n≤16777216) (h:Bb (List.replicate n.toNat x) Q H) :
  wpAny (model W.prog W.w) c.A (binaryOp .Mult (.ref a) (.int n t)) (PE W c P ρ Q) E s:=by
 obtain⟨_,it,k,g1,r1⟩:=S.heap _ _ e1
 obtain⟨m,hm,hv⟩:=id S.loc
 have hit:∃z,it=#[z]∧Rep W s.heap x z:=by
  obtain⟨l⟩:=it
  obtain⟨z,_,rfl,p,q⟩:=r1
  cases q
  exact⟨z,rfl,p⟩
 obtain⟨z,rfl,rz⟩:=hit
 have hlow:-(2 ^ 63:Int)≤n:=by have h1:=hn.1.1;exact la [_] [] (.c (-(2 ^ 63))) (.v 0) [.b (.c (-4611686018427387904)) (.v 0)] [1,1] rfl h1
 have hn:=hn.2
 refine mul_list (FM hm) (Eo s.heap c.env.locals) g1 hlow (by exact lb [_] [] (.v 0) (.c (2 ^ 63)) [.l (.v 0) (.c 16777216)] [1,1] rfl hn) (by show 1*n.toNat≤16777216;omega) fun h' F' N'=>?_
 have N'':News noH c.env.locals h' (GX s.heap c.env.locals):=fun p hp=>N' p (.tail _ hp)
 have kr:KeepR W s.heap h':=S.keepR ((S.max).growL (tk:=s.toks) hm hv F' N'')
 have S':=S.growL (tk:=s.toks) hm hv F' N''
 refine⟨.ref s.heap.objs.size,H.set s.heap.objs.size (.list (List.replicate n.toNat x)),?_,.ref _,h.2 _ (S.hsize (AD _))⟩
 obtain⟨f1,f2,f3,f4⟩:=S.fresh (AD s.heap)
 refine S'.adopt f1 f2 f3 ⟨h.1,_,0,(N' _ (.head _)).1,?_⟩
 have e:(if (#[z]:Array Value).isEmpty=true then 0 else n.toNat)=n.toNat:=rfl
 rw[e,L7]
 exact Gn (rz.mono kr) _
theorem MP {a b:Int}{t t':Tok} (S:Sim W c P ρ H s) (h:(0<b∧b<1073741824)∧Q (.int (a / b)) H):wpAny (model W.prog W.w) c.A (binaryOp .FloorDiv (.int a t) (.int b t')) (PE W c P ρ Q) E s:=by
 obtain⟨⟨h1,h2⟩,h⟩:=h
 refine floordiv_int (Int.ne_of_gt h1) (Dw S ?_) (.inl (PyProof.noPylong_small (by omega)))
 rwa [Int.fdiv_eq_ediv_of_nonneg _ (Int.le_of_lt h1)]
theorem NV {a b:Int}{t t':Tok} (S:Sim W c P ρ H s) (h:0<b∧Q (.int (a % b)) H):wpAny (model W.prog W.w) c.A (binaryOp .Mod (.int a t) (.int b t')) (PE W c P ρ Q) E s:=by
 obtain⟨h1,h⟩:=h
 refine mod_int' (Int.ne_of_gt h1) (Dw S ?_)
 rwa [Int.fmod_eq_emod_of_nonneg _ (Int.le_of_lt h1)]
theorem NU {a b:Int}{t t':Tok} (S:Sim W c P ρ H s) (h:(0≤a∧a≤10∧0≤b∧b≤20)∧Q (.int (a ^ b.toNat)) H):wpAny (model W.prog W.w) c.A (binaryOp .Pow (.int a t) (.int b t')) (PE W c P ρ Q) E s:=by
 obtain⟨⟨h1,h2,h3,h4⟩,h⟩:=h
 refine pow_int h3 ?_ (Dw S h)
 have hb:Builtin.Int.intBits a≤64:=intBits_le_64 (by exact lb [_] [] (.c (-(2 ^ 64))) (.v 0) [.l (.c 0) (.v 0)] [1,1] rfl h1) (by exact lb [_] [] (.v 0) (.c (2 ^ 64)) [.l (.v 0) (.c 10)] [1,1] rfl h2)
 have hc:(Builtin.Int.intBits a:Int)*b≤64*20:=Int.mul_le_mul (by exact la [] [_] (.t (.n 0)) (.c 64) [.L (.n 0) (.c 64)] [1,1] rfl hb) h4 h3 (by exact la [] [] (.c 0) (.c 64) [] [1] rfl)
 exact la [_] [] (.v 0) (.c (2 ^ 27)) [.l (.v 0) (.m 64 (.c 20))] [1,1] rfl hc
theorem Ky {op:Op}{x y:V}{u v:Value} (S:Sim W c P ρ H s) (hx:Rep W s.heap x u) (hy:Rep W s.heap y v) (h:EZ op x y Q H) :
  wpAny (model W.prog W.w) c.A (binaryOp (M1 op) u v) (PE W c P ρ Q) E s:=by
 cases op with
 | add =>
  cases x with
  | int a =>
   obtain⟨b,rfl,k⟩:=AV h
   obtain⟨t,rfl⟩:=hx
   obtain⟨t',rfl⟩:=hy
   exact wpAny_add_int (Dw S k)
  | tup xs =>
   obtain⟨ys,rfl,k⟩:=Gf h
   exact MQ S hx hy k.1 k.2
  | ref a =>
   obtain⟨b,rfl,xs,ys,e1,e2,k⟩:=AU h
   cases hx;cases hy
   exact MR S e1 e2 k
  | _=>exact h.elim
 | sub=>obtain⟨a,b,t,t',rfl,rfl,h⟩:=Bc h hx hy;exact sub_int' (Dw S h)
 | mul =>
  cases x with
  | int a =>
   obtain⟨b,rfl,k⟩:=AV h
   obtain⟨t,rfl⟩:=hx
   obtain⟨t',rfl⟩:=hy
   exact mul_int (Dw S k.2) (N9 k.1)
  | ref a =>
   obtain⟨n,rfl,x,e1,hn,k⟩:=AV h
   cases hx
   obtain⟨t',rfl⟩:=hy
   exact MO S e1 hn k
  | _=>exact h.elim
 | fdiv=>obtain⟨a,b,t,t',rfl,rfl,h⟩:=Bc h hx hy;exact MP S h
 | mod=>obtain⟨a,b,t,t',rfl,rfl,h⟩:=Bc h hx hy;exact NV S h
 | pow=>obtain⟨a,b,t,t',rfl,rfl,h⟩:=Bc h hx hy;exact NU S h
end
end Mine.Internal
end

section
namespace Mine.Internal
open PySem PySem.Calls PyProof.Rows PySem.SeqAt
section
variable {W:Wd}{c:Cx}{P:Addr→Obj→Prop}{ρ:Loc}{H:Hp}{s:Shared}{Q:V→Hp→Prop}{B:Bool→Hp→Prop}{E:Value→Shared→Prop}

noncomputable def CU:Cm→CmpOp
 | .eq=>.Eq | .ne=>.NotEq | .lt=>.Lt | .le=>.LtE | .gt=>.Gt | .ge=>.GtE | .is=>.Is | .isNot=>.IsNot | .isIn=>.In | .notIn=>.NotIn

inductive PB (W:Wd) (c:Cx) (P:Addr→Obj→Prop) (ρ:Loc) (B:Bool→Hp→Prop) (x:Value) (s':Shared):Prop
 | mk (b:Bool) (H':Hp) (e:x=.bool b) (S:Sim W c P ρ H' s') (q:B b H')
theorem pb {b:Bool} (S:Sim W c P ρ H s) (h:B b H):PB W c P ρ B (.bool b) s:=⟨b,H,rfl,S,h⟩

theorem HT {x:V}{ys:List V}:∀ {b:Bool},inL H x ys=some b→(∀v∈ys,∃k,veq Bd H v x=some k)∧(b=true ↔ ∃v∈ys,veq Bd H v x=some true):=by
 induction ys with
 | nil=>intro b h;cases h;exact⟨nofun,nofun,fun hPt=>by obtain⟨_,h,_⟩:=hPt;exact nomatch h⟩
 | cons y ys ih =>
  intro b h
  obtain⟨p,q,h1,h2,rfl⟩:=G5 h
  obtain⟨i1,i2⟩:=ih h2
  refine⟨fun v hv=>?_,?_⟩
  ·cases hv with
   | head=>exact⟨p,h1⟩
   | tail _ hv=>exact i1 v hv
  ·rw[Bool.or_eq_true,i2]
   constructor
   ·rintro (e | ⟨v,m,e⟩)
    ·exact⟨y,.head _,e▸h1⟩
    ·exact⟨v,.tail _ m,e⟩
   ·rintro⟨v,m,e⟩
    cases m with
    | head=>exact .inl (Option.some.inj (h1.symm.trans e))
    | tail _ m=>exact .inr ⟨v,m,e⟩
theorem As.mem_left {h:Heap}{xs:List V}:∀ {us:List Value}{u:Value},As W h xs us→u∈us→∃x∈xs,Rep W h x u:=by
 induction xs with
 | nil=>intro us u r m;cases r;cases m
 | cons x xs ih =>
  intro us u r m
  obtain⟨z,zs,rfl,a,b⟩:=r
  cases m with
  | head=>exact⟨_,.head _,a⟩
  | tail _ m=>obtain⟨x,q,r⟩:=ih b m;exact⟨x,.tail _ q,r⟩
theorem As.mem_right {h:Heap}{xs:List V}:∀ {us:List Value}{x:V},As W h xs us→x∈xs→∃u∈us,Rep W h x u:=by
 induction xs with
 | nil=>intro us u r m;cases m
 | cons x xs ih =>
  intro us u r m
  obtain⟨z,zs,rfl,a,b⟩:=r
  cases m with
  | head=>exact⟨_,.head _,a⟩
  | tail _ m=>obtain⟨x,q,r⟩:=ih b m;exact⟨x,.tail _ q,r⟩

open Classical in
noncomputable def Ef (W:Wd) (h:Heap) (H:Hp) (ys:List V) (x:V) (y:Value):Bool:=decide (∃v∈ys,Rep W h v y∧veq Bd H v x=some true)
open Classical in
theorem D7 {h:Heap}{ys:List V}{x:V}{y:Value}:Ef W h H ys x y=true ↔ ∃v∈ys,Rep W h v y∧veq Bd H v x=some true:=by unfold Ef;exact decide_eq_true_iff
theorem Hq {ys:List V}{x:V}{u:Value}{A:Around} (hH:∀a o,H a=some o→DP W s.heap a o) (hx:Rep W s.heap x u) (hu:A.units+8<cLine) (hk:∀v∈ys,∃k,veq Bd H v x=some k) {us:List Value} (r:As W s.heap ys us) :
  ∀y∈us,EqAt A s y u (Ef W s.heap H ys x y):=fun y hy=>by
 obtain⟨v,hv,rv⟩:=r.mem_left hy
 obtain⟨k,hk⟩:=hk v hv
 by_cases q:∃v∈ys,Rep W s.heap v y∧veq Bd H v x=some true
 ·obtain⟨w,hw,rw',ew⟩:=id q
  have:Ef W s.heap H ys x y=true:=D7.mpr q
  rw[this];exact (H8 hH Bd A w x y u true rw' hx ew hu).2
 ·have:Ef W s.heap H ys x y=false:=Bool.eq_false_iff.mpr fun z=>q (D7.mp z)
  rw[this]
  cases k with
  | true=>exact absurd ⟨v,hv,rv,hk⟩ q
  | false=>exact (H8 hH Bd A v x y u false rv hx hk hu).2
theorem GO {ys:List V}{x:V}{b:Bool} (e:inL H x ys=some b) {it:Array Value}{h:Heap} (r:As W h ys it.toList):it.any (Ef W h H ys x)=b:=by
 obtain⟨i1,i2⟩:=HT e
 rw[←Array.any_toList]
 cases b with
 | true =>
  obtain⟨v,hv,ev⟩:=i2.mp rfl
  obtain⟨u,hu,ru⟩:=r.mem_right hv
  exact List.any_eq_true.mpr ⟨u,hu,D7.mpr ⟨v,hv,ru,ev⟩⟩
 | false =>
  refine List.any_eq_false.mpr fun u hu=>?_
  intro q
  obtain⟨v,hv,_,ev⟩:=D7.mp q
  have:=i2.mpr ⟨v,hv,ev⟩
  cases this

theorem B9.get {h:Heap}{k:Int}{kvs:List (Int×V)}:∀ {ys:List (Int×Value)},B9 W h kvs ys→(∀v,C6 k kvs=some v→∃u,valueAt ys k=some u∧Rep W h v u)∧(C6 k kvs).isSome=(valueAt ys k).isSome:=by
 induction kvs with
 | nil=>intro ys r;cases r;exact⟨nofun,rfl⟩
 | cons p kvs ih =>
  intro ys r
  obtain⟨⟨j,x⟩,zs,rfl,⟨e,a⟩,b⟩:=r
  obtain⟨i,v⟩:=p
  cases (show j=i from e)
  obtain⟨i1,i2⟩:=ih b
  by_cases q:j=k
  ·subst q;simp only[C6,valueAt,List.find?_cons,if_true,decide_true,Option.map_some]
   exact⟨fun v e=>by cases e;exact⟨_,rfl,a⟩,rfl⟩
  ·simp only[C6,valueAt,List.find?_cons,q,if_false,decide_false]
   exact⟨i1,i2⟩

theorem BZ (S:Sim W c P ρ H s) {a:Addr}{kvs:List (Int×V)} (e:H a=some (.dict kvs)) (hb:(W.base.get? cStatics).isSome=true):(a == sysModules)=false:=(S.heap _ _ e).1.2
theorem Gu {x y:V}{u v:Value}{T F:Prop} (hx:Rep W s.heap x u) (hy:Rep W s.heap y v) (h:OI x y T F):v=.none∧((u=.none∧T)∨((∃i t,u=.int i t)∨∃a,u=.ref a)∧F):=by
 cases y with
 | none =>
  refine⟨hy,?_⟩
  cases x with
  | none=>exact .inl ⟨hx,h⟩
  | int i=>obtain⟨t,e⟩:=hx;exact .inr ⟨.inl ⟨i,t,e⟩,h⟩
  | tup xs=>exact .inr ⟨.inr hx.isTuple_ne,h⟩
  | ref a=>exact .inr ⟨.inr ⟨a,hx⟩,h⟩
  | _=>exact h.elim
 | _=>exact h.elim
theorem NR {x:V}{u:Value}{a:Addr}{ys:List V}{b:Bool} (S:Sim W c P ρ H s) (hu:c.A.units+20<cLine) (hx:Rep W s.heap x u) (ea:H a=some (.list ys)) (e:inL H x ys=some b) (h:B b H) :
  wpAny (model W.prog W.w) c.A (compareOp .In u (.ref a)) (PB W c P ρ B) E s:=by
 obtain⟨_,it,n,g,r⟩:=S.heap _ _ ea
 refine in_listAt (Ef W s.heap H _ _) ⟨_,g,rfl,_,rfl⟩ (fun z hz=>Hq S.heap hx (by show c.A.units+1+8<cLine;exact lB [] [_,_] (.a (.a (.n 0) (.c 1)) (.c 8)) (.n 1) [.B (.a (.n 0) (.c 20)) (.n 1)] [1,1] rfl hu) (HT e).1 r z (by simpa using hz)) ?_
 rw[GO e r];exact pb S h
theorem JS {x:V}{u:Value}{a:Addr}{ys:List V}{b:Bool} (S:Sim W c P ρ H s) (hu:c.A.units+20<cLine) (hx:Rep W s.heap x u) (ea:H a=some (.list ys)) (e:inL H x ys=some b) (h:B (!b) H) :
  wpAny (model W.prog W.w) c.A (compareOp .NotIn u (.ref a)) (PB W c P ρ B) E s:=by
 obtain⟨_,it,n,g,r⟩:=S.heap _ _ ea
 refine notIn_listAt (Ef W s.heap H _ _) ⟨_,g,rfl,_,rfl⟩ (fun z hz=>Hq S.heap hx (by show c.A.units+1+8<cLine;exact lB [] [_,_] (.a (.a (.n 0) (.c 1)) (.c 8)) (.n 1) [.B (.a (.n 0) (.c 20)) (.n 1)] [1,1] rfl hu) (HT e).1 r z (by simpa using hz)) ?_
 rw[GO e r];exact pb S h
theorem NS {k:Int}{t:Tok}{a:Addr}{kvs:List (Int×V)} (S:Sim W c P ρ H s) (hb:(W.base.get? cStatics).isSome=true) (ea:H a=some (.dict kvs)) (h:B (C6 k kvs).isSome H) :
  wpAny (model W.prog W.w) c.A (compareOp .In (.int k t) (.ref a)) (PB W c P ρ B) E s:=by
 obtain⟨_,ys,hD,r⟩:=S.heap _ _ ea
 rw[(r.get (k:=k)).2] at h
 exact wpAny_in_of (intKind_is _ _ _ _) (BZ S ea hb) hD.mapOf (pb (S.toks _) h)
theorem JT {k:Int}{t:Tok}{a:Addr}{kvs:List (Int×V)} (S:Sim W c P ρ H s) (hb:(W.base.get? cStatics).isSome=true) (ea:H a=some (.dict kvs)) (h:B (C6 k kvs).isNone H) :
  wpAny (model W.prog W.w) c.A (compareOp .NotIn (.int k t) (.ref a)) (PB W c P ρ B) E s:=by
 obtain⟨_,ys,hD,r⟩:=S.heap _ _ ea
 refine wpAny_notIn_of (intKind_is _ _ _ _) (BZ S ea hb) hD.mapOf ?_
 rw[←(r.get (k:=k)).2,Option.not_isSome] at *
 exact pb (S.toks _) h
theorem Cz {op:Cm}{x y:V}{u v:Value} (S:Sim W c P ρ H s) (hu:c.A.units+20<cLine) (hb:(W.base.get? cStatics).isSome=true) (hx:Rep W s.heap x u) (hy:Rep W s.heap y v) (h:BC op x y B H) :
  wpAny (model W.prog W.w) c.A (compareOp (CU op) u v) (PB W c P ρ B) E s:=by
 cases op with
 | eq =>
  obtain⟨b,e,h⟩:=h
  exact (G2 S.heap Bd c.A x y u v b hx hy e (by unfold Bd;exact lB [] [_,_] (.a (.n 0) (.c 8)) (.n 1) [.B (.a (.n 0) (.c 20)) (.n 1)] [1,1] rfl hu)).rc W.prog W.w E _ (pb S h)
 | ne =>
  obtain⟨b,e,h⟩:=h
  exact (G2 S.heap Bd c.A x y u v b hx hy e (by unfold Bd;exact lB [] [_,_] (.a (.n 0) (.c 8)) (.n 1) [.B (.a (.n 0) (.c 20)) (.n 1)] [1,1] rfl hu)).ne W.prog W.w E _ (pb S h)
 | lt=>obtain⟨a,b,t,t',rfl,rfl,k⟩:=Bc h hx hy;exact _root_.PySem.P.lt_int (pb S k)
 | le=>obtain⟨a,b,t,t',rfl,rfl,k⟩:=Bc h hx hy;exact _root_.PySem.P.le_int (pb S k)
 | gt=>obtain⟨a,b,t,t',rfl,rfl,k⟩:=Bc h hx hy;exact _root_.PySem.P.gt_int (pb S k)
 | ge=>obtain⟨a,b,t,t',rfl,rfl,k⟩:=Bc h hx hy;exact _root_.PySem.P.ge_int (pb S k)
 | is =>
  obtain⟨rfl,⟨rfl,k⟩ | ⟨⟨i,t,rfl⟩ | ⟨a,rfl⟩,k⟩⟩:=Gu hx hy h
  ·exact is_none_none (pb S k)
  ·exact is_int_none (pb S k)
  ·exact is_ref_none (pb S k)
 | isNot =>
  obtain⟨rfl,⟨rfl,k⟩ | ⟨⟨i,t,rfl⟩ | ⟨a,rfl⟩,k⟩⟩:=Gu hx hy h
  ·exact isnot_none_none (pb S k)
  ·exact isnot_int_none (pb S k)
  ·exact isnot_ref_none (pb S k)
 | isIn =>
  obtain⟨a,rfl,k⟩:=AU h
  cases hy
  rcases Cd k with ⟨ys,ea,b,e,k⟩ | ⟨kvs,ea,k⟩
  ·exact NR S hu hx ea e k
  ·obtain⟨i,rfl,k⟩:=AV k
   obtain⟨t,rfl⟩:=hx
   exact NS S hb ea k
 | notIn =>
  obtain⟨a,rfl,k⟩:=AU h
  cases hy
  rcases Cd k with ⟨ys,ea,b,e,k⟩ | ⟨kvs,ea,k⟩
  ·exact JS S hu hx ea e k
  ·obtain⟨i,rfl,k⟩:=AV k
   obtain⟨t,rfl⟩:=hx
   exact JT S hb ea k
end
end Mine.Internal
end

section
namespace Mine.Internal
open PySem PySem.Calls PyProof.Rows PySem.SeqAt
section
variable {prog:Program}{w:World}{A:Around}{E:Value→Shared→Prop}{s:Shared}
theorem P6 (k n:Nat) (hk:k≤n):Builtin.Slice.sliceAdjust none (some (k:Int)) 1 (n:Int)=(0,(k:Int)):=by
 unfold Builtin.Slice.sliceAdjust
 simp only[show ¬((1:Int)<0) by decide,show ¬((k:Int)<0) from Int.not_lt.mpr (Int.natCast_nonneg k),if_false]
 rw[Int.min_eq_left (Int.ofNat_le.mpr hk)]
theorem pl_to (k:Nat):Builtin.Slice.slicePlaces 0 (k:Int) 1=k:=by
 unfold Builtin.Slice.slicePlaces
 simp only[show (1:Int) > 0 by decide,if_true,Int.ediv_one]
 cases k with
 | zero=>rfl
 | succ k=>rw[if_pos (show (0:Int)<((k+1:Nat):Int) from Int.ofNat_lt.mpr (Nat.succ_pos k)),Int.sub_zero,Int.sub_add_cancel];rfl
theorem sl_to {sl:Addr}{k n:Nat}{u:Tok}{Q:Int×Int×Nat→Shared→Prop} (hs:s.heap.IsSliceOf sl .none (.int k u) .none) (hk:k≤n) (h:Q (0,1,k) s) :
  wpAny (model prog w) A (Builtin.Slice.sliceApplied (.ref sl) (pure (n:Int))) Q E s:=by
 obtain⟨os,hos,hcs,hds⟩:=id hs
 unfold Builtin.Slice.sliceApplied Builtin.Slice.sliceFields
 refine wpAny_bind (wpAny_bind (wpAny_field hos hds (x:=.none) rfl (wpAny_bind (wpAny_field hos hds (x:=.int k u) rfl (wpAny_bind (wpAny_field hos hds (x:=.none) rfl (wpAny_pure ?_)))))))
 refine wpAny_bind (slicePart_none ?_)
 show wpAny _ _ (if ((1:Int) == 0)=true then _ else _) _ _ s
 rw[if_neg (by decide)]
 refine wpAny_bind (slicePart_none (wpAny_bind (slicePart_int (wpAny_bind (wpAny_pure ?_)))))
 show wpAny _ _ (match Builtin.Slice.sliceAdjust none (some (k:Int)) 1 (n:Int) with | (lo,hi)=>pure (lo,(1:Int),Builtin.Slice.slicePlaces lo hi 1)) _ _ s
 rw[P6 k n hk]
 show wpAny _ _ (pure ((0:Int),(1:Int),Builtin.Slice.slicePlaces 0 (k:Int) 1)) _ _ s
 rw[pl_to]
 exact wpAny_pure h
theorem Nt (xs:Array Value):∀k,k≤xs.size→((List.range k).filterMap fun (j:Nat)=>xs[((0:Int)+(j:Int)*1).toNat]?)=xs.toList.take k:=by
 intro k
 induction k with
 | zero=>intro _;rfl
 | succ k ih =>
  intro h
  rw[List.range_succ,List.filterMap_append,ih (Nat.le_of_succ_le h)]
  have e:((0:Int)+(k:Int)*1).toNat=k:=by rw[Int.zero_add,Int.mul_one];rfl
  simp only[List.filterMap_cons,List.filterMap_nil,e,Array.getElem?_eq_getElem (Nat.lt_of_succ_le h)]
  rw[List.take_add_one]
  simp [Nat.lt_of_succ_le h]
theorem FB {t sl:Addr}{items:Array Value}{k:Nat}{u:Tok}{Q:Value→Shared→Prop} (ht:IsTup s.heap t items) (hs:s.heap.IsSliceOf sl .none (.int k u) .none) (hk:k≤items.size)
  (h1:k=items.size→Q (.ref t) s) (h2:Q (.ref s.heap.objs.size) { s with heap:=s.heap.push { cls:=.type "tuple",data:=.seq (items.toList.take k).toArray } })
  (hsz:items.size≤sizeLine):wpAny (model prog w) A (getItem (.ref t) (.ref sl)) Q E s:=by
 have hd:sizeOk (.seq (items.toList.take k).toArray):=by
  show (items.toList.take k).toArray.size≤sizeLine
  rw[List.size_toArray,List.length_take,Array.length_toList]
  exact Nat.le_trans (Nat.min_le_right _ _) hsz
 obtain⟨os,hos,hcs,hds⟩:=id hs
 have hTs:s.TypeIs (.ref sl) "slice" := ⟨os,hos,hcs⟩
 unfold getItem
 try with_reducible refine wpAny_holding ?_
 first | refine wpAny_bind (wpAny_pure ?_) | skip
 refine wpAny_bind (wpAny_sequenceKey ht.typeIs (by decide) ?_)
 refine wpAny_bind (wpAny_callSpecial?_slot (name:=Str.ofString "__getitem__") ht.typeIs slot_tuple_getitem
  (wpAny_call_entry slot_tuple_getitem ht.typeIs entry_tuple_getitem ?_ (args_tuple_getitem _ _)))
 show wpAny _ _ (Builtin.Tuple.tupleItemsOf (.ref t) >>= _) _ _ s
 refine wpAny_bind (tupleItemsOf_ ht ?_)
 refine wpAny_bind (wpAny_typeOf hTs ?_)
 rw[if_pos (by decide)]
 refine wpAny_bind (sl_to hs hk ?_)
 show wpAny _ _ (if (((0:Int) == 0) && ((1:Int) == 1) && (k == items.size))=true then _ else _) _ _ s
 by_cases e:k=items.size
 ·rw[if_pos (by simp [e])]
  refine wpAny_bind (wpAny_bind (wpAny_typeOf ht.typeIs (wpAny_pure ?_)))
  rw[if_pos (by decide)]
  first | exact wpAny_bind (wpAny_rule (wpAny_pure ⟨_,rfl,wpAny_pure (h1 e)⟩)) | exact wpAny_bind (wpAny_bind (wpAny_rule (wpAny_pure ⟨_,rfl,wpAny_pure (h1 e)⟩))) | exact wpAny_bind (wpAny_rule (wpAny_bind (wpAny_pure ⟨_,rfl,wpAny_pure (h1 e)⟩)))
 ·rw[if_neg (by simp [e]),Nt items k hk]
  first
   | exact wpAny_bind (m:=Builtin.Tuple.tupleExact _) (wpAny_newObj_type (wpAny_pure ⟨_,rfl,wpAny_pure h2⟩) hd)
   | exact wpAny_bind (m:=Builtin.Tuple.tupleExact _) (wpAny_newObj_type (wpAny_bind (wpAny_pure (wpAny_pure ⟨_,rfl,wpAny_pure h2⟩))) hd)
   | exact wpAny_bind (wpAny_bind (m:=Builtin.Tuple.tupleExact _) (wpAny_newObj_type (wpAny_pure (wpAny_pure ⟨_,rfl,wpAny_pure h2⟩)) hd))
   | exact wpAny_bind (wpAny_bind (m:=Builtin.Tuple.tupleExact _) (wpAny_newObj_type (wpAny_pure ⟨_,rfl,wpAny_pure h2⟩) hd))
end
end Mine.Internal
end

section
namespace Mine.Internal
open PySem PySem.Calls PyProof.Rows PySem.SeqAt
section
variable {W:Wd}{c:Cx}{P:Addr→Obj→Prop}{ρ:Loc}{H:Hp}{s:Shared}{Q:V→Hp→Prop}{B:Bool→Hp→Prop}{E:Value→Shared→Prop}

inductive Place (i:Int) (n j:Nat):Prop
 | pos (h0:0≤i) (h1:i.toNat<n) (e:j=i.toNat)
 | neg (h0:i<0) (h1:0≤i+n) (e:j=(i+n).toNat)
theorem Hj {i:Int}{n j:Nat} (h:place i n=some j):Place i n j:=by
 by_cases h0:0≤i
 ·by_cases h1:i.toNat<n
  ·rw[place,if_pos h0,if_pos h1] at h;exact .pos h0 h1 (Option.some.inj h).symm
  ·rw[place,if_pos h0,if_neg h1] at h;cases h
 ·by_cases h1:0≤i+n
  ·rw[place,if_neg h0,if_pos h1] at h;exact .neg (Int.not_le.mp h0) h1 (Option.some.inj h).symm
  ·rw[place,if_neg h0,if_neg h1] at h;cases h
theorem KM {i:Int}{n j:Nat} (h:place i n=some j):seqIndex? i n=some j:=by
 unfold seqIndex?
 cases Hj h with
 | pos h0 h1 e =>
  have e':¬i<0:=Int.not_lt.mpr h0
  simp only[e',if_false]
  rw[if_pos (by simp;exact⟨h0,lb [_] [_,_] (.v 0) (.t (.n 0)) [.B (.n 1) (.n 0),.l (.v 0) (.t (.n 1))] [1,1,1] rfl h1 (tn0 (a:=i))⟩),e]
 | neg h0 h1 e =>
  simp only[h0,if_true]
  rw[if_pos (by simp;exact⟨h1,lb [_] [_] (.a (.v 0) (.t (.n 0))) (.t (.n 0)) [.b (.v 0) (.c 0)] [1,1] rfl h0⟩),e]
theorem EH.get {xs:List Int}:∀ {us:List Value}{j:Nat}{z:Int},EH xs us→xs[j]?=some z→∃t,us[j]?=some (.int z t):=by
 induction xs with
 | nil=>intro us j z r e;cases e
 | cons x xs ih =>
  intro us j z r e
  obtain⟨u,vs,rfl,⟨t,rfl⟩,b⟩:=r
  cases j with
  | zero=>cases e;exact⟨t,rfl⟩
  | succ j=>exact ih (us:=vs) (j:=j) b e
theorem EH.reps {h:Heap}{xs:List Int}:∀ {us:List Value},EH xs us→As W h (xs.map .int) us:=by
 induction xs with
 | nil=>intro us r;exact r
 | cons x xs ih=>intro us r;exact r.imp (fun u a=>a) fun l b=>ih b
theorem EH.length {xs:List Int}:∀ {us:List Value},EH xs us→xs.length=us.length:=by
 induction xs with
 | nil=>intro us r;cases r;rfl
 | cons x xs ih=>intro us r;obtain⟨u,vs,rfl,a,b⟩:=r;exact congrArg (· + 1) (ih b)
theorem As.take {h:Heap}{xs:List V}:∀ {us:List Value} (n:Nat),As W h xs us→As W h (xs.take n) (us.take n):=by
 induction xs with
 | nil=>intro us n r;cases r;rw[List.take_nil,List.take_nil];rfl
 | cons x xs ih =>
  intro us n r
  obtain⟨u,vs,rfl,a,b⟩:=r
  cases n with
  | zero=>exact .nil
  | succ n=>exact .cons a (ih n b)
theorem As.drop {h:Heap}{xs:List V}:∀ {us:List Value} (n:Nat),As W h xs us→As W h (xs.drop n) (us.drop n):=by
 induction xs with
 | nil=>intro us n r;cases r;rw[List.drop_nil,List.drop_nil];rfl
 | cons x xs ih =>
  intro us n r
  cases n with
  | zero=>exact r
  | succ n =>
   obtain⟨u,vs,rfl,a,b⟩:=r
   exact ih n b
theorem As.reverse {h:Heap}{xs:List V}:∀ {us:List Value},As W h xs us→As W h xs.reverse us.reverse:=by
 induction xs with
 | nil=>intro us r;cases r;exact .nil
 | cons x xs ih =>
  intro us r
  obtain⟨u,vs,rfl,a,b⟩:=r
  rw[List.reverse_cons,List.reverse_cons];exact (ih b).append (.cons a .nil)

theorem Dl {l:Addr}{items:Array Value}{i:Int}{t:Tok}{j:Nat}{x:Value}{Q:Value→Shared→Prop} (hl:s.heap.IsList l items) (hi:Ix i) (hj:place i items.size=some j) (hx:items[j]?=some x) (h:Q x s) :
  wpAny (model W.prog W.w) c.A (getItem (.ref l) (.int i t)) Q E s:=by
 cases Hj hj with
 | pos h0 h1 e=>subst e;exact wpAny_getItem_list hl h0 (by have h2:=hi.2;exact lb [_] [] (.v 0) (.c (2 ^ 63)) [.b (.v 0) (.c 4611686018427387904)] [1,1] rfl h2) hx h
 | neg h0 h1 e=>subst e;exact wpAny_getItem_list_neg hl h0 (by exact la [_] [_] (.g (.t (.n 0))) (.v 0) [.l (.c 0) (.a (.v 0) (.t (.n 0)))] [1,1] rfl h1) (by have h2:=hi.1;exact la [_] [] (.c (-(2 ^ 63))) (.v 0) [.b (.c (-4611686018427387904)) (.v 0)] [1,1] rfl h2) hx h

theorem Kw {value slice:Expr}{x y:V}{u v:Value} (S:Sim W c P ρ H s) (hx:Rep W s.heap x u) (hy:Rep W s.heap y v) (h:Ce x y Q H)
  (hs:∀o i,subscripted slice false o i=operate [o,i] (getItem o i)) :
  wpAny (model W.prog W.w) c.A (subscriptTail value slice u v) (PE W c P ρ Q) E s:=by
 obtain⟨i,rfl,k⟩:=AV h
 obtain⟨t,rfl⟩:=hy
 cases x with
 | ro xs =>
  obtain⟨j,z,hi,hj,hz,k⟩:=k
  obtain⟨a,items,rfl,⟨o,g0,g1⟩,hl,r⟩:=hx
  obtain⟨t',e⟩:=r.get hz
  have hl':s.heap.IsList a items:=⟨o,S.base _ _ g0,g1⟩
  refine tail_any hl'.typeIs slot_list_getitem.lookup (Dl hl' hi (j:=j) ?_ (by rw[←Array.getElem?_toList];exact e) (BW S (.int z t') k)) (hs _ _)
  rw[←Array.length_toList,←r.length];exact hj
 | tup xs =>
  obtain⟨j,z,hi,hj,hz,k⟩:=k
  obtain⟨a,items,rfl,ht,hl,r⟩:=hx.isTuple
  obtain⟨w,e,rw'⟩:=r.get hz
  refine item_tupleT (l:=items.toList) ht (by have h1:=hi.1;exact la [_] [] (.c (-(2 ^ 63))) (.v 0) [.b (.c (-4611686018427387904)) (.v 0)] [1,1] rfl h1) (by have h1:=hi.2;exact lb [_] [] (.v 0) (.c (2 ^ 63)) [.b (.v 0) (.c 4611686018427387904)] [1,1] rfl h1) (j:=j) ?_ e (BW S rw' k) (hs _ _)
  rw[←r.length];exact KM hj
 | ref a =>
  cases hx
  rcases Cd k with ⟨xs,ea,j,z,hi,hj,hz,k⟩ | ⟨kvs,ea,z,hz,k⟩
  ·obtain⟨_,items,n,g,r⟩:=S.heap _ _ ea
   obtain⟨w,e,rw'⟩:=r.get hz
   have hl':s.heap.IsList a items:=⟨_,g,rfl,_,rfl⟩
   refine tail_any hl'.typeIs slot_list_getitem.lookup (Dl hl' hi (j:=j) ?_ (by rw[←Array.getElem?_toList];exact e) (BW S rw' k)) (hs _ _)
   rw[r.size];exact hj
  ·obtain⟨_,ys,hD,r⟩:=S.heap _ _ ea
   obtain⟨w,e,rw'⟩:=(r.get (k:=i)).1 z hz
   exact tail_any hD.typeIs slot_dict_getitem.lookup (wpAny_getItem_of (intKind_is _ _ _ _) hD.mapOf e (BW (S.toks _) rw' k)) (hs _ _)
 | _=>exact k.elim

theorem Hr (i:Int) (n:Nat):clipAt n i=De i n:=rfl
theorem Jt {h:Heap}{xs:List V}{it:Array Value} (r:As W h xs it.toList) (lo hi:Option Int) :
  As W h ((xs.take ((hi.map (De · xs.length)).getD xs.length)).drop ((lo.map (De · xs.length)).getD 0)) (slicePick it lo hi none).toList:=by
 rw[slicePick_plain,←List.drop_take,r.size]
 have e1:lo.elim 0 (clipAt xs.length)=(lo.map (De · xs.length)).getD 0:=by cases lo <;> simp [Hr]
 have e2:hi.elim xs.length (clipAt xs.length)=(hi.map (De · xs.length)).getD xs.length:=by cases hi <;> simp [Hr]
 rw[e1,e2]
 exact (r.take _).drop _

theorem DT {value slice:Expr}{x:V}{u vl vu:Value}{lo hi:Option Int} (S:Sim W c P ρ H s) (hx:Rep W s.heap x u) (pl:IsPart vl lo) (pu:IsPart vu hi) (h:CE x lo hi Q H)
  (hs:∀o i,subscripted slice false o i=operate [i,o] (getItem o i)) :
  wpAny (model W.prog W.w) c.A (subscriptTail value slice u (.ref s.heap.objs.size)) (PE W c P ρ Q) E { s with heap:=s.heap.push { cls:=.type "slice",data:=.fields #[vl,vu,.none] } }:=by
 obtain⟨_,_,h⟩:=h
 have hk:∀b o,s.heap.get? b=some o→(s.heap.push { cls:=.type "slice",data:=.fields #[vl,vu,.none] }).get? b=some o:=fun b o e=>Heap.get?_push_of_some _ e
 have S':Sim W c P ρ H { s with heap:=s.heap.push { cls:=.type "slice",data:=.fields #[vl,vu,.none] } }:=S.grow (tk:=s.toks) hk
 have fin:∀(a:Addr) (it:Array Value) (xs:List V),(s.heap.push { cls:=.type "slice",data:=.fields #[vl,vu,.none] }).IsList a it→xs.length≤Lim→As W s.heap xs it.toList→Bb ((xs.take ((hi.map (De · xs.length)).getD xs.length)).drop ((lo.map (De · xs.length)).getD 0)) Q H →
   wpAny (model W.prog W.w) c.A (subscriptTail value slice (.ref a) (.ref s.heap.objs.size)) (PE W c P ρ Q) E { s with heap:=s.heap.push { cls:=.type "slice",data:=.fields #[vl,vu,.none] } }:=by
  intro a it xs hl hz r hn
  refine tail_any (s:={ s with heap:=s.heap.push { cls:=.type "slice",data:=.fields #[vl,vu,.none] } }) hl.typeIs slot_list_getitem.lookup (wpAny_getItem_list_slice (s:={ s with heap:=s.heap.push { cls:=.type "slice",data:=.fields #[vl,vu,.none] } }) hl (Heap.IsSliceOf.new ..) pl pu .none (by simp) ?_ ?_) (hs _ _)
  ·have hn':=AD (s.heap.push { cls:=.type "slice",data:=.fields #[vl,vu,.none] })
   have hk':∀b o,(s.heap.push { cls:=.type "slice",data:=.fields #[vl,vu,.none] }).get? b=some o→((s.heap.push { cls:=.type "slice",data:=.fields #[vl,vu,.none] }).push { cls:=.type "list",data:=.seq (slicePick it lo hi none) }).get? b=some o:=fun b o e=>Heap.get?_push_of_some _ e
   exact⟨.ref _,H.set _ _,S'.alloc (tk:=s.toks) hn' hk' (Cf hn.1 (Heap.get?_push_size _ rfl) ((Jt r lo hi).mono (.of_keeps fun b o e=>hk' b o (hk b o e)))),.ref _,hn.2 _ (S'.hsize hn')⟩
  ·rw[r.size,sizeLine_eq];exact hz
 cases x with
 | ro xs =>
  obtain⟨a,items,rfl,⟨o,g0,g1⟩,hl,r⟩:=hx
  refine fin _ _ _ ⟨o,hk _ _ (S.base _ _ g0),g1⟩ ?_ r.reps ?_
  ·rw[List.length_map];unfold Lim;exact lA [] [_] (.n 0) (.c 16777216) [.L (.n 0) (.c 1000)] [1,1] rfl hl
  ·rw[List.length_map,←List.map_take,←List.map_drop];exact h
 | tup xs =>
  obtain⟨rfl,i,rfl,⟨h0,h1⟩,q⟩:=h
  obtain⟨a,items,rfl,ht,hl,r⟩:=hx.isTuple
  cases pl
  cases pu with
  | int _ t =>
  obtain⟨k,rfl⟩:=Int.eq_ofNat_of_zero_le h0
  have hsz:items.size=xs.length:=r.size
  have hk':k≤items.size:=by rw[hsz];exact Int.ofNat_le.mp h1
  have ht':(s.heap.push { cls:=.type "slice",data:=.fields #[.none,.int k t,.none] }).IsTuple a items:=by obtain⟨o,g,x⟩:=ht;exact⟨o,hk _ _ g,x⟩
  have rx:=hx.mono (.of_keeps hk)
  refine tail_any (s:={ s with heap:=s.heap.push { cls:=.type "slice",data:=.fields #[.none,.int k t,.none] } }) ht'.typeIs slot_tuple_getitem.lookup (FB (s:={ s with heap:=s.heap.push { cls:=.type "slice",data:=.fields #[.none,.int k t,.none] } }) ht' (Heap.IsSliceOf.new ..) hk' (fun e=>?_) ?_ ?_) (hs _ _)
  ·refine⟨.tup xs,H,S',rx,?_⟩
   rwa [show (k:Int).toNat=xs.length by rw[Int.toNat_natCast,e,hsz],List.take_length] at q
  ·have hn':=AD (s.heap.push { cls:=.type "slice",data:=.fields #[.none,.int k t,.none] })
   have hk2:∀b o,(s.heap.push { cls:=.type "slice",data:=.fields #[.none,.int k t,.none] }).get? b=some o→((s.heap.push { cls:=.type "slice",data:=.fields #[.none,.int k t,.none] }).push { cls:=.type "tuple",data:=.seq (items.toList.take k).toArray }).get? b=some o:=fun b o e=>Heap.get?_push_of_some _ e
   exact⟨.tup (xs.take k),H,S'.grow (tk:=s.toks) hk2,Rep.tup (Heap.get?_push_size _ rfl) rfl rfl (Nat.le_trans (List.length_take_le' _ _) hl) (by simpa using (r.take k).mono (.of_keeps fun b o e=>hk2 b o (hk b o e))) (S'.noScr hn'),q⟩
  ·rw[hsz,sizeLine_eq];exact hl
 | ref a =>
  cases hx
  obtain⟨xs,ea,h⟩:=h
  obtain⟨hz,it,n,g,r⟩:=S.heap _ _ ea
  exact fin _ _ _ ⟨_,hk _ _ g,rfl,_,rfl⟩ hz r h
 | _=>exact h.elim
end
end Mine.Internal
end

section
namespace Mine.Internal
open PySem PySem.Calls PyProof.Rows PySem.SeqAt
section
variable {W:Wd}{c:Cx}{P:Addr→Obj→Prop}{ρ:Loc}{H:Hp}{s:Shared}{Q:V→Hp→Prop}{B:Bool→Hp→Prop}{E:Value→Shared→Prop}

noncomputable def Li:BF→Value
 | .len=>.builtin "len" | .min2=>.builtin "min" | .max2=>.builtin "max" | .abs=>.builtin "abs" | .sum=>.builtin "sum" | .sorted=>.builtin "sorted" | .list=>.type "list" | .int=>.type "int"

theorem As.one {h:Heap}{x:V}{us:List Value} (r:As W h [x] us):∃u,us=[u]∧Rep W h x u:=by
 obtain⟨u,vs,rfl,a,b⟩:=r
 cases b
 exact⟨u,rfl,a⟩
theorem As.two {h:Heap}{x y:V}{us:List Value} (r:As W h [x,y] us):∃u v,us=[u,v]∧Rep W h x u∧Rep W h y v:=by
 obtain⟨u,vs,rfl,a,b⟩:=r
 obtain⟨v,rfl,q⟩:=As.one b
 exact⟨u,v,rfl,a,q⟩
theorem As.zero {h:Heap}{us:List Value} (r:As W h [] us):us=[]:=r

theorem GI {h:Heap}{xs:List V}:∀ {is:List Int}{us:List Value},As W h xs us→Da xs=some is→IntsAre us is:=by
 induction xs with
 | nil=>intro is us r e;cases r;cases e;exact .nil
 | cons x xs ih =>
  intro is us r e
  obtain⟨u,vs,rfl,a,b⟩:=r
  cases x with
  | int i =>
   obtain⟨t,rfl⟩:=a
   obtain⟨js,e1,rfl⟩:=Option.map_eq_some_iff.mp e
   exact .cons i _ (ih b e1)
  | _=>cases e
theorem B9.length {h:Heap}{kvs:List (Int×V)}:∀ {ys:List (Int×Value)},B9 W h kvs ys→ys.length=kvs.length:=by
 induction kvs with
 | nil=>intro ys r;cases r;rfl
 | cons p kvs ih=>intro ys r;obtain⟨u,vs,rfl,a,b⟩:=r;exact congrArg (· + 1) (ih b)

theorem P2 {x:V}{u:Value} (S:Sim W c P ρ H s) (hb:(W.base.get? cStatics).isSome=true) (rx:Rep W s.heap x u) (h:lenW x Q H) :
  wpAny (model W.prog W.w) c.A (call (.builtin "len") [u]) (PE W c P ρ Q) E s:=by
 cases x with
 | ro xs =>
  obtain⟨a,items,rfl,⟨o,g0,g1⟩,l,i⟩:=rx
  have hl:xs.length=items.size:=i.length
  refine len_list ⟨o,S.base _ _ g0,g1⟩ (by exact lb [] [_,_] (.t (.n 0)) (.c (2 ^ 63)) [.L (.n 1) (.c 1000),.E (.n 1) (.n 0)] [1,1,-1] rfl l hl) ⟨.int _,H,S.toks _,?_,h⟩
  rw[←hl];exact .int _ _
 | tup xs =>
  obtain⟨a,it,rfl,ht,hl,ri⟩:=rx.isTuple
  have hz:=ri.size
  refine PyProof.Rows.len_tuple (items:=it) ht ?_ ⟨.int _,H,S.toks _,?_,h⟩
  ·unfold Lim at hl;exact lb [] [_,_] (.t (.n 0)) (.c (2 ^ 63)) [.L (.n 1) (.c 16777216),.E (.n 0) (.n 1)] [1,1,1] rfl hl hz
  ·rw[hz];exact .int _ _
 | ref a =>
  cases rx
  rcases Cd h with ⟨xs,ea,h⟩ | ⟨kvs,ea,h⟩
  ·obtain⟨hl,it,n,g,ri⟩:=S.heap _ _ ea
   have hz:=ri.size
   refine len_list ⟨_,g,rfl,_,rfl⟩ ?_ ⟨.int _,H,S.toks _,?_,h⟩
   ·unfold Lim at hl;exact lb [] [_,_] (.t (.n 0)) (.c (2 ^ 63)) [.L (.n 1) (.c 16777216),.E (.n 0) (.n 1)] [1,1,1] rfl hl hz
   ·rw[hz];exact .int _ _
  ·obtain⟨⟨hl,_⟩,ys,hD,ri⟩:=S.heap _ _ ea
   have hz:=ri.length
   refine call_len_dict (BZ S ea hb) hD ?_ ⟨.int _,H,S.toks _,?_,h⟩
   ·unfold Lim at hl;exact lb [] [_,_] (.t (.n 0)) (.c (2 ^ 63)) [.L (.n 1) (.c 16777216),.E (.n 0) (.n 1)] [1,1,1] rfl hl hz
   ·rw[hz];exact .int _ _
 | _=>exact h.elim
theorem OZ {a:Addr}{xs:List V}{is:List Int} (S:Sim W c P ρ H s) (hh:c.A.handled=none) (ea:H a=some (.list xs)) (ei:Da xs=some is) (h:Q (.int is.sum) H) :
  wpAny (model W.prog W.w) c.A (call (.builtin "sum") [.ref a]) (PE W c P ρ Q) E s:=by
 obtain⟨hl,it,n,g,ri⟩:=S.heap _ _ ea
 have hI:=GI ri ei
 have hA:AllInts it:=by have:=hI.allInts;simpa using this
 obtain⟨ys,rfl⟩:=hA.items
 refine sum_intListG hh ⟨_,g,rfl,_,rfl⟩ fun h' tk t' hk=>⟨.int _,H,S.grow hk,?_,h⟩
 rw[preSum_eq,List.take_of_length_le (by simp),←nums_intItems,hI.numsOf]
 exact .int _ _
theorem NW {a:Addr}{xs:List V} (S:Sim W c P ρ H s) (ea:H a=some (.list xs)) (h:Bb xs Q H) :
  wpAny (model W.prog W.w) c.A (call (.type "list") [.ref a]) (PE W c P ρ Q) E s:=by
 obtain⟨hl,it,n,g,ri⟩:=S.heap _ _ ea
 refine call_list_seq _ (.inl rfl) g rfl rfl (fun h' c' hk hD=>?_) ?_
 ·have hn:=AD s.heap
  exact⟨.ref _,H.set _ _,S.alloc (tk:=s.toks) hn hk (Cf h.1 hD (ri.mono (.of_keeps hk))),.ref _,h.2 _ (S.hsize hn)⟩
 ·rw[ri.size,sizeLine_eq];exact h.1
theorem P0 {a b:Int}{t t':Tok} (S:Sim W c P ρ H s) (hh:c.A.handled=none) (h:Q (.int (if b<a then b else a)) H) :
  wpAny (model W.prog W.w) c.A (call (.builtin "min") [.int a t,.int b t']) (PE W c P ρ Q) E s:=by
 refine min_two_ints hh fun h' tk hk=>⟨.int _,H,S.grow hk,?_,h⟩
 by_cases q:b<a
 ·rw[if_pos q,if_pos q];exact .int _ _
 ·rw[if_neg q,if_neg q];exact .int _ _
theorem P1 {a b:Int}{t t':Tok} (S:Sim W c P ρ H s) (hh:c.A.handled=none) (h:Q (.int (if b > a then b else a)) H) :
  wpAny (model W.prog W.w) c.A (call (.builtin "max") [.int a t,.int b t']) (PE W c P ρ Q) E s:=by
 refine max_two_ints hh fun h' tk hk=>⟨.int _,H,S.grow hk,?_,h⟩
 by_cases q:b > a
 ·rw[if_pos q,if_pos q];exact .int _ _
 ·rw[if_neg q,if_neg q];exact .int _ _
theorem LL {f:BF}{xs:List V}{us:List Value} (hf:f≠.sorted) (S:Sim W c P ρ H s) (hh:c.A.handled=none) (hb:(W.base.get? cStatics).isSome=true) (r:As W s.heap xs us) (h:wbc f xs Q H) :
  wpAny (model W.prog W.w) c.A (call (Li f) us) (PE W c P ρ Q) E s:=by
 cases f with
 | len =>
  obtain⟨x,rfl,k⟩:=BX h
  obtain⟨u,rfl,rx⟩:=r.one
  exact P2 S hb rx k
 | min2 =>
  obtain⟨x,y,rfl,k⟩:=two1_inv h
  obtain⟨u,v,rfl,rx,ry⟩:=r.two
  obtain⟨a,b,t,t',rfl,rfl,k⟩:=Bc k rx ry
  exact P0 S hh k
 | max2 =>
  obtain⟨x,y,rfl,k⟩:=two1_inv h
  obtain⟨u,v,rfl,rx,ry⟩:=r.two
  obtain⟨a,b,t,t',rfl,rfl,k⟩:=Bc k rx ry
  exact P1 S hh k
 | abs=>exact h.elim
 | sum =>
  obtain⟨x,rfl,k⟩:=BX h
  obtain⟨u,rfl,rx⟩:=r.one
  obtain⟨a,rfl,ys,is,ea,ei,k⟩:=AU k
  cases rx
  exact OZ S hh ea ei k
 | sorted=>exact absurd rfl hf
 | list =>
  obtain⟨x,rfl,k⟩:=BX h
  obtain⟨u,rfl,rx⟩:=r.one
  obtain⟨a,rfl,ys,ea,k⟩:=AU k
  cases rx
  exact NW S ea k
 | int =>
  obtain⟨x,rfl,k⟩:=BX h
  obtain⟨u,rfl,rx⟩:=r.one
  cases x with
  | bool b=>cases rx;exact call_int_bool (Dw S k)
  | _=>exact k.elim
end
end Mine.Internal
end

section
namespace Mine.Internal
open PySem PySem.Calls PyProof.Rows PySem.SeqAt
section
variable {W:Wd}{c:Cx}{P:Addr→Obj→Prop}{ρ:Loc}{H:Hp}{s:Shared}{Q:V→Hp→Prop}{B:Bool→Hp→Prop}{E:Value→Shared→Prop}

noncomputable def Nw:Mt→String
 | .append => "list.append" | .clear => "list.clear" | .count => "list.count" | .get => "dict.get" | .pop => "list.pop" | .reverse => "list.reverse" | .popD => "dict.pop"
noncomputable def HO:Mt→String
 | .append => "append" | .clear => "clear" | .count => "count" | .get => "get" | .pop => "pop" | .reverse => "reverse" | .popD => "pop"

theorem Ir {h:Heap}{a:Addr}{it:Array Value}{n:Nat} (g:h.get? a=some { cls:=.type "list",data:=.seq it n }) (f:Array Value→Array Value) :
  (h.update a (Obj.mapSeq f)).get? a=some { cls:=.type "list",data:=.seq (f it) (if (f it).size == it.size then n else n+1) }:=Heap.get?_update_self _ g rfl
theorem F3 {h:Heap}{a:Addr} (f:Obj→Obj):∀b o,b≠a→h.get? b=some o→(h.update a f).get? b=some o:=fun b o hb e=>(Heap.get?_update_other h f (Ne.symm hb)).trans e

theorem Ha {W:Wd}{h:Heap}{a:Addr}{it:Array Value}{n:Nat} (g:h.get? a=some { cls:=.type "list",data:=.seq it n }) (f:Obj→Obj):KeepR W h (h.update a f):=by
 refine⟨fun b o i m e k d ξ=>F3 _ b o ?_ e,fun b o C ws e k d=>⟨o,ws,F3 _ b o ?_ e,k,d⟩⟩
 ·rintro rfl;rw[g] at e;cases e;exact absurd (show Value.type "list" = Value.type "tuple" from k) (by decide)
 ·rintro rfl;rw[g] at e;cases e;exact absurd k (by first | exact Ap rfl rfl | exact Aq rfl rfl | exact nofun)

theorem Sim.writeL {a:Addr}{o₀:Ob}{xs:List V}{it:Array Value}{n:Nat} (S:Sim W c P ρ H s) (ha:H a=some o₀) (g:s.heap.get? a=some { cls:=.type "list",data:=.seq it n }) (f:Array Value→Array Value) (hl:xs.length≤Lim) (r:As W s.heap xs (f it).toList) :
  Sim W c P ρ (H.set a (.list xs)) { s with heap:=s.heap.update a (Obj.mapSeq f) }:=by
 refine S.write (tk:=s.toks) ha (F3 _) (Cf hl (Ir g f) (r.mono (Ha g _)))

theorem As.erase {h:Heap}{xs:List V}:∀ {us:List Value} (n:Nat),As W h xs us→As W h (xs.eraseIdx n) (us.eraseIdx n):=by
 induction xs with
 | nil=>intro us n r;cases r;rw[List.eraseIdx_nil,List.eraseIdx_nil];rfl
 | cons x xs ih =>
  intro us n r
  obtain⟨u,vs,rfl,a,b⟩:=r
  cases n with
  | zero=>exact b
  | succ n=>exact .cons a (ih n b)

noncomputable def eqV (u v:Value):Bool:=(match u with | .int a _=>(match v with | .int b _=>a == b | _=>false) | .bool a=>(match v with | .bool b=>a == b | _=>false) | _=>false)
theorem Lg {h:Heap}{x y:V}{u v:Value}{b:Bool} (rx:Rep W h x u) (ry:Rep W h y v) (e:MI x y=some b):(∀A s,EqAt A s v u (eqV v u))∧eqV v u=b:=by
 cases x with
 | bool a =>
  cases rx
  cases y with
  | bool c=>cases ry;cases e;exact⟨fun A s=>EqAt.bool_bool _ _,rfl⟩
  | _=>cases e
 | int a =>
  obtain⟨t,rfl⟩:=rx
  cases y with
  | int c=>obtain⟨t',rfl⟩:=ry;cases e;exact⟨fun A s=>EqAt.int_int _ _ _ _,rfl⟩
  | _=>cases e
 | _=>cases e
theorem MH {x y:V}{ys:List V}{n:Nat} (e:H7 x (y :: ys)=some n):∃b m,MI x y=some b∧H7 x ys=some m∧n=if b then m+1 else m:=by
 have e:Option.casesOn (motive:=fun ξ=>Option Nat) (MI x y) none (fun b=>Option.casesOn (motive:=fun ξ=>Option Nat) (H7 x ys) none fun n=>some (if b then n+1 else n))=some n:=e
 cases p:MI x y with
 | none=>rw[p] at e;cases e
 | some b=>cases q:H7 x ys with
  | none=>rw[p,q] at e;cases e
  | some m=>rw[p,q] at e;exact⟨b,m,rfl,rfl,(Option.some.inj e).symm⟩
theorem Lf {h:Heap}{x:V}{u:Value} (rx:Rep W h x u) {ys:List V}:∀ {us:List Value}{n:Nat},As W h ys us→H7 x ys=some n→(∀A s,∀y∈us,EqAt A s y u (eqV y u))∧n=us.countP (fun y=>eqV y u):=by
 induction ys with
 | nil=>intro us n r e;cases r;cases e;exact⟨fun ξ ξ y hy=>(by cases hy),rfl⟩
 | cons y ys ih =>
  intro us n r e
  obtain⟨v,vs,rfl,a,b⟩:=r
  obtain⟨k,m,e1,e2,rfl⟩:=MH e
  obtain⟨i1,i2⟩:=ih b e2
  obtain⟨j1,j2⟩:=Lg rx a e1
  refine⟨fun A s y hy=>?_,?_⟩
  ·cases hy with
   | head=>exact j1 A s
   | tail _ hy=>exact i1 A s y hy
  ·rw[List.countP_cons,←i2,j2];cases k <;> rfl

theorem B9.del {h:Heap}{k:Int}{kvs:List (Int×V)}:∀ {ys:List (Int×Value)},B9 W h kvs ys→(ys.map (·.1)).Nodup→B9 W h (G0 k kvs) (ys.filter fun p=>p.1≠k):=by
 induction kvs with
 | nil=>intro ys r _;cases r;rfl
 | cons p kvs ih =>
  intro ys r hn
  obtain⟨⟨j,x⟩,zs,rfl,⟨e,a⟩,b⟩:=r
  obtain⟨i,v⟩:=p
  cases (show j=i from e)
  rw[List.map_cons,List.nodup_cons] at hn
  by_cases q:j=k
  ·subst q
   have e:zs.filter (fun p=>decide (p.1≠j))=zs:=List.filter_eq_self.mpr fun p hp=>by
    simp only[ne_eq,decide_not,Bool.not_eq_true',decide_eq_false_iff_not]
    intro z;exact hn.1 (List.mem_map.mpr ⟨p,hp,z⟩)
   simp only[G0,if_true,List.filter_cons,ne_eq,not_true_eq_false,decide_false,Bool.false_eq_true,if_false]
   simpa using (by rw[e];exact b:B9 W h _ (zs.filter fun p=>decide (p.1≠j)))
  ·simp only[G0,q,if_false,List.filter_cons,ne_eq,not_false_eq_true,decide_true,if_true]
   exact .cons a (ih b hn.2)
theorem KO {a:Addr}{v:Value}{x:V}{ys:List V} (S:Sim W c P ρ H s) (rv:Rep W s.heap x v) (ea:H a=some (.list ys)) (hz:ys.length<Lim) (h:Q .none (H.set a (.list (ys++[x])))) :
  wpAny (model W.prog W.w) c.A (call (.builtin "list.append") [.ref a,v]) (PE W c P ρ Q) E s:=by
 obtain⟨hl,it,n,g,ri⟩:=S.heap _ _ ea
 refine call_meets F.slot_list_append ⟨_,g,rfl⟩ F.entry_list_append (F.args_list_append_2 _ _) (list_append a it n v ?_) ⟨g,⟨.none,_,S.writeL ea g (·.push v) ?_ ?_,.none,h⟩⟩
 ·rw[ri.size,sizeLine_eq];exact hl
 ·rw[List.length_append];exact hz
 ·rw[Array.toList_push];exact ri.append (.cons rv .nil)
theorem M5 {a:Addr}{ys:List V} (S:Sim W c P ρ H s) (ea:H a=some (.list ys)) (h:Q .none (H.set a (.list []))) :
  wpAny (model W.prog W.w) c.A (call (.builtin "list.clear") [.ref a]) (PE W c P ρ Q) E s:=by
 obtain⟨hl,it,n,g,ri⟩:=S.heap _ _ ea
 refine call_meets F.slot_list_clear ⟨_,g,rfl⟩ F.entry_list_clear (F.args_list_clear_1 _) (AutoSeq1.list_clear_list_0 a it n ?_) ⟨g,⟨.none,_,S.writeL ea g (fun ξ=>#[]) (Nat.zero_le _) .nil,.none,h⟩⟩
 rw[ri.size,sizeLine_eq];exact hl
theorem Jy {a:Addr}{ys:List V} (S:Sim W c P ρ H s) (ea:H a=some (.list ys)) (h:Q .none (H.set a (.list ys.reverse))) :
  wpAny (model W.prog W.w) c.A (call (.builtin "list.reverse") [.ref a]) (PE W c P ρ Q) E s:=by
 obtain⟨hl,it,n,g,ri⟩:=S.heap _ _ ea
 refine call_meets F.slot_list_reverse ⟨_,g,rfl⟩ F.entry_list_reverse (F.args_list_reverse_1 _) (AutoSeq1.list_reverse_list_0 a it n ?_) ⟨g,⟨.none,_,S.writeL ea g (fun x=>x.reverse) ?_ ?_,.none,h⟩⟩
 ·rw[ri.size,sizeLine_eq];exact hl
 ·rw[List.length_reverse];exact hl
 ·rw[Array.toList_reverse];exact ri.reverse
theorem Nv {a:Addr}{ys:List V}{y:V} (S:Sim W c P ρ H s) (ea:H a=some (.list (ys++[y]))) (h:Q y (H.set a (.list ys))) :
  wpAny (model W.prog W.w) c.A (call (.builtin "list.pop") [.ref a]) (PE W c P ρ Q) E s:=by
 obtain⟨hl,it,n,g,ri⟩:=S.heap _ _ ea
 have hsz:it.size=ys.length+1:=by rw[ri.size,List.length_append];rfl
 obtain⟨v,ev,rv⟩:=ri.get (i:=ys.length) (v:=y) (by simp)
 refine call_meets F.slot_list_pop ⟨_,g,rfl⟩ F.entry_list_pop (F.args_list_pop_1 _) (PySem.MeetsSeq.list_pop_last a it n v ?_ ?_) ⟨g,⟨y,_,S.writeL ea g (fun xs=>xs.eraseIdxIfInBounds (it.size-1)) ?_ ?_,rv.mono (Ha g _),h⟩⟩
 ·rw[hsz,←Array.getElem?_toList];exact ev
 ·rw[ri.size,sizeLine_eq];exact hl
 ·rw[List.length_append] at hl;exact Nat.le_of_succ_le hl
 ·have e:(it.eraseIdxIfInBounds (it.size-1)).toList=it.toList.eraseIdx (it.size-1):=by simp [Array.eraseIdxIfInBounds,hsz]
  rw[e]
  have:=ri.erase (it.size-1)
  rw[hsz,Nat.add_sub_cancel,List.eraseIdx_append_of_length_le (Nat.le_refl _)] at this
  rw[hsz,Nat.add_sub_cancel]
  simpa using this
theorem M4 {a:Addr}{x:V}{v:Value}{ys:List V}{k:Nat} (S:Sim W c P ρ H s) (rv:Rep W s.heap x v) (ea:H a=some (.list ys)) (ek:H7 x ys=some k) (h:Q (.int k) H) :
  wpAny (model W.prog W.w) c.A (call (.builtin "list.count") [.ref a,v]) (PE W c P ρ Q) E s:=by
 obtain⟨hl,it,n,g,ri⟩:=S.heap _ _ ea
 obtain⟨i1,i2⟩:=Lf rv ri ek
 refine call_meets F.slot_list_count ⟨_,g,rfl⟩ F.entry_list_count (F.args_list_count_2 _ _) (list_countAt a it n none #[] v (fun y=>eqV y v)) ⟨g,fun y hy=>i1 _ _ y (by simpa using hy),⟨.int k,H,S.toks _,?_,h⟩⟩
 rw[i2];exact .int _ _
theorem FQ (k:Int):∀kvs:List (Int×V),(G0 k kvs).length≤kvs.length
 | []=>Nat.le_refl _
 | (j,x) :: r=>by
  simp only[G0]
  split
  ·exact Nat.le_succ _
  ·exact Nat.succ_le_succ (FQ k r)
theorem Nu {a:Addr}{k:Int}{t:Tok}{z:V}{kvs:List (Int×V)} (hN:W.fz=nf) (S:Sim W c P ρ H s) (ea:H a=some (.dict kvs)) (hz:C6 k kvs=some z) (h:Q z (H.set a (.dict (G0 k kvs)))) :
  wpAny (model W.prog W.w) c.A (call (.builtin "dict.pop") [.ref a,.int k t]) (PE W c P ρ Q) E s:=by
 obtain⟨⟨hl,hms⟩,ys,hD,ri,_⟩:=S.heap _ _ ea
 obtain⟨u,e,ru⟩:=(ri.get (k:=k)).1 z hz
 have hkl:ys.length=kvs.length:=ri.length
 obtain⟨od,esd,epd,eod,xd,dd,kk,pp,hn⟩:=id hD
 refine call_meetsIn F.slot_dict_pop hD.typeIs F.entry_dict_pop (F.args_dict_pop_2 _ _) (meets_dict_pop_there (intKind W.prog W.w) a (intKind_is _ _ k _) [] (.inl rfl) rfl) ⟨ys,u,hD,by rw[hkl,sizeLine_eq];exact hl,e,fun h' hD' hs'=>?_⟩
 have hk:∀b o,b≠a→s.heap.get? b=some o→h'.get? b=some o:=fun b o q e=>hs'.extBut b o q e
 have kr':KeepR W s.heap h':=by
  have nt:∀b o,s.heap.get? b=some o→(∀es n,o.data≠.dict es n)→b≠a:=fun b o e d q=>by rw[q,eod] at e;cases e;exact d _ _ dd
  exact⟨fun b o i n e k d ξ=>hk b o (nt b o e (by rw[d];exact nofun)) e,fun b o C ws e k d=>⟨o,ws,hk b o (nt b o e (by rw[d];exact nofun)) e,k,d⟩⟩
 exact⟨z,_,S.write (o:=.dict (G0 k kvs)) (tk:=s.toks+1) ea hk ⟨⟨Nat.le_trans (FQ k kvs) hl,hms⟩,_,hD',(ri.del hn).mono kr',fun o q=>by rw[hN] at q;exact q.elim⟩,ru.mono kr',h⟩
theorem LK {m:Mt}{x:V}{xs:List V}{u:Value}{us:List Value} (hm:W.fz=nf∨m≠.popD) (S:Sim W c P ρ H s) (hu:c.A.units+20<cLine) (hb:(W.base.get? cStatics).isSome=true) (rx:Rep W s.heap x u) (r:As W s.heap xs us) (h:wmt m x xs Q H) :
  wpAny (model W.prog W.w) c.A (call (.builtin (Nw m)) (u :: us)) (PE W c P ρ Q) E s:=by
 obtain⟨a,rfl,k⟩:=AU h
 cases rx
 cases m with
 | append =>
  obtain⟨y,rfl,ys,ea,hz,k⟩:=BX k
  obtain⟨v,rfl,rv⟩:=r.one
  exact KO S rv ea hz k
 | clear =>
  obtain⟨rfl,ys,ea,k⟩:=IO k
  cases r
  exact M5 S ea k
 | count =>
  obtain⟨y,rfl,ys,n,ea,ek,k⟩:=BX k
  obtain⟨v,rfl,rv⟩:=r.one
  exact M4 S rv ea ek k
 | get=>exact k.elim
 | pop =>
  cases xs with
  | nil =>
   obtain⟨ys,y,ea,k⟩:=k
   cases r
   exact Nv S ea k
  | cons y ys=>cases ys with
   | nil=>exact k.elim
   | cons _ _=>exact k.elim
 | reverse =>
  obtain⟨rfl,ys,ea,k⟩:=IO k
  cases r
  exact Jy S ea k
 | popD =>
  obtain⟨y,rfl,k⟩:=BX k
  obtain⟨i,rfl,kvs,z,ea,hz,k⟩:=AV k
  obtain⟨v,rfl,rv⟩:=r.one
  obtain⟨t,rfl⟩:=rv
  exact Nu (hm.resolve_right fun q=>q rfl) S ea hz k
end
end Mine.Internal
end

section
namespace Mine.Internal
open PySem PySem.W PySem.Calls PyProof.Rows
section
variable {prog:Program}{w:World}{A:Around}{E:Value→Shared→Prop}{s:Shared}{K:Frag}{a D:Addr}{o:Obj}

theorem E0 {M:Model}{h:Heap} (hx:h.get? a=some o) (hc:o.cls=.ref D):Looks M h (typeOf (.ref a)) (.ref D):=hc▸(Looks.ld hx).andThen .now

theorem MJ {M:Model}{nameV:Value}{Q:Unit→Shared→Prop} (X:K.In s.heap) (hmB:mroIn K D (.type "BaseException")=some true)
  (hx:s.heap.get? a=some o) (hc:o.cls=.ref D) (hq:Q () s):wpAny M A (checkBuiltinCall "BaseException.__getattribute__" ⟨[.ref a,nameV],[]⟩) Q E s:=by
 have hk:builtinKind "BaseException.__getattribute__" = some .slot:=by decide +kernel
 have hsplit:splitId "BaseException.__getattribute__" = some ("BaseException", "__getattribute__"):=by decide +kernel
 have ha:=F.args_bexc_ga (.ref a) nameV
 obtain⟨hh,g,d,t,os⟩:=s
 have L0:=E0 (M:=M) hx hc
 have L1:=looks_mroIn (M:=M) X hmB
 have LI:Looks M hh (isInstance (.ref a) (.type "BaseException")) true:=L0.andThen L1
 simp only[checkBuiltinCall,hk,hsplit]
 refine wpAny_bind (LI.at ?_)

 repeat lk

 exact hq

open Builtin Builtin.ObjectAttr Builtin.Getset_descriptor in
theorem JU {tp:Value}{R:Result→Shared→Prop} (X:K.In s.heap) (L0:Looks (model prog w) s.heap (typeOf (.ref a)) (.ref D)) (hm:mroIn K D (.type "object")=some true)
  (h:R (.ok (.ret (.ref D))) s):codeAny (model prog w) A (.call (.builtin "getset_descriptor.__get__") ⟨[.builtin "object.__class__",.ref a,tp],[]⟩) R s:=by
 obtain⟨hh,g,dr,t,os⟩:=s
 have L1:=looks_mroIn (M:=model prog w) X hm
 refine codeAny_call_builtin KF.slot_gs.plain KF.entry_gs (KF.slot_gs.check _ _ _ _ _ _ _ _ KF.type_class (KF.args_gs _ _ _) ?_)
 unfold Builtin.«getset_descriptor.__get__» descrGet
 rw[dga_obj]
 refine wpAny_bind (wpAny_pure ?_)
 unfold descrGetter descrCheckInstance descrNameAndClass isInstance
 simp only[KF.owner_class]
 repeat lk
 refine⟨Code.quiet_builtin _ (by decide +kernel),codeAny_builtin KF.entry_class ?_⟩
 unfold Builtin.«object.__class__» shownTypeOf
 repeat lk
 exact h

theorem L9 {Q:Option Value→Shared→Prop} (X:K.In s.heap) (hx:s.heap.get? a=some o) (hc:o.cls=.ref D)
  (hga:findIn K (.ref D) "__getattribute__" = some (some (.builtin "BaseException.__getattribute__"))) (hgn:findIn K (.ref D) "__getattr__" = some none)
  (ha:findIn K (.ref D) "__class__" = some (some (.builtin "object.__class__"))) (hn:specialIn K (.builtin "object.__class__") "__get__" = some (some (.builtin "getset_descriptor.__get__")))
  (htk:takesIn K (.builtin "object.__class__")=some true) (hm:mroIn K D (.type "object")=some true) (hmB:mroIn K D (.type "BaseException")=some true)
  (h:Q (some (.ref D)) { s with toks:=s.toks+1 }):wpAny (model prog w) A (getAttr? (.ref a) "__class__") Q E s:=by
 obtain⟨hh,g,d,t,os⟩:=s
 have L0:=E0 (M:=model prog w) hx hc
 have L1:=looks_findIn (M:=model prog w) X hga
 have L2:=looks_findIn (M:=model prog w) X hgn
 have L3:=looks_findIn (M:=model prog w) X ha
 unfold getAttr? getAttrBy? getAttrBy
 refine wpAny_bind (wpAny_mkText (wpAny_bind (wpAny_attempt (wpAny_holding (wpAny_bind (L0.at (wpAny_bind (L1.at ?_))))))))
 show wpAny _ _ (getAttrByItsOwn _ _ _ _ _ _) _ _ _
 unfold getAttrByItsOwn
 refine wpAny_bind (Looks.at (show Looks _ _ (hookBefore (.ref D)) none from L2) ?_)
 refine wpAny_bind (wpAny_attempt (wpAny_holding ?_))
 show wpAny _ _ (boundAndCalled (.builtin "BaseException.__getattribute__") (.ref a) _) _ _ _
 unfold boundAndCalled
 rw[PySem.F.attr_ValueError.ga.bind]
 refine wpAny_bind (wpAny_pure (wpAny_call ?_))
 refine codeAny_call_builtin PySem.F.attr_ValueError.ga.plain F.entry_bexc_ga (MJ (K:=K) X hmB hx hc ?_)
 have L5:=looks_specialIn (M:=model prog w) X hn
 have L6:=looks_takesIn (M:=model prog w) X htk
 have L4:Looks (model prog w) hh (Builtin.ObjectAttr.find (.ref a) (.ref D) "__class__") (.bind (.builtin "getset_descriptor.__get__") (.builtin "object.__class__")):=by
  refine L3.andThen ?_
  refine Looks.andThen (show Looks (model prog w) hh (Builtin.ObjectAttr.getOf (some (.builtin "object.__class__"))) (some (.builtin "getset_descriptor.__get__")) from L5) ?_
  refine Looks.andThen (show Looks (model prog w) hh (Builtin.ObjectAttr.dataDescriptor? (some (.builtin "object.__class__")) (some (.builtin "getset_descriptor.__get__"))) (some (.builtin "getset_descriptor.__get__",.builtin "object.__class__")) from L6.andThen .now) (Looks.tag .now)

 unfold Builtin.«object.__getattribute__»
 repeat lk
 refine wpAny_run (c:=Code.call (Value.builtin "getset_descriptor.__get__") ⟨[Value.builtin "object.__class__",Value.ref a,Value.ref D],[]⟩) (h:=none) ?_
 refine JU (K:=K) X (E0 hx hc) hm ?_
 exact wpAny_pure (wpAny_pure (handed_on rfl (wpAny_pure h)))

structure ExcCls (K:Frag) (D:Addr):Prop where
 cls:(clsIn K D).isSome=true
 ty:typeIn K (.ref D)=some (.type "type")
 ga:findIn K (.ref D) "__getattribute__" = some (some (.builtin "BaseException.__getattribute__"))
 gn:findIn K (.ref D) "__getattr__" = some none
 ca:findIn K (.ref D) "__class__" = some (some (.builtin "object.__class__"))
 get:specialIn K (.builtin "object.__class__") "__get__" = some (some (.builtin "getset_descriptor.__get__"))
 takes:takesIn K (.builtin "object.__class__")=some true
 obj:mroIn K D (.type "object")=some true
 base:mroIn K D (.type "BaseException")=some true

set_option tactic.hygienic true in
theorem Me (Z:ExcCls K D):KitX K (.ref a) (.ref D) (fun h=>∃o,h.get? a=some o∧o.cls=.ref D) where
 ty:=fun ξ ξ ξ hPt=>by obtain⟨o,h1,h2⟩:=hPt;exact E0 h1 h2
 it:=fun ξ ξ X ξ=>by
  obtain⟨cdD,hcD⟩:=Option.isSome_iff_exists.mp Z.cls
  unfold clsIn at hcD
  split at hcD
  ·rename_i c' d' cd' sl' ho
   intro A' Q' E' s' k q
   unfold isType loadHead
   exact wpAny_bind (wpAny_loadPart (k _ _ (X _ _ ho)) (wpAny_pure q))
  ·cases hcD
 ne:=fun h tp dd its n sl X htp=>by
  obtain⟨cdD,hcD⟩:=Option.isSome_iff_exists.mp Z.cls
  refine Bool.eq_false_iff.mpr fun q=>?_
  have e:D=tp:=Value.ref.inj (beq_iff_eq.mp q)
  subst e
  unfold clsIn at hcD
  split at hcD
  ·rename_i c' d' cd' sl' ho
   have z:=(X _ _ ho).symm.trans htp
   cases z
  ·cases hcD
 ca:=fun X hPt k=>by obtain⟨o,h1,h2⟩:=hPt;exact L9 X h1 h2 Z.ga Z.gn Z.ca Z.get Z.takes Z.obj Z.base k
end
noncomputable def Ff (t n:String):Bool:=(t == n) || (t == "bool" && n == "int")
end Mine.Internal
end

section
namespace Mine.Internal
open PySem PySem.Calls PyProof.Rows PySem.SeqAt

structure Kc where
 sc:Scope
 names:List String
 vis:Nat→Bool
 gint:List (String×Int)
 fns:List String
 cls:List String
 inC:Bool
noncomputable def Kc.var (K:Kc) (i:Nat) (x:Str):Bool:=K.vis i && (match K.names[i]? with | some y=>Str.ofString y == x | none=>false) && !(x == ("__debug__" : Str))
noncomputable def Kc.gl (K:Kc) (x:Str):Bool:=(K.sc.names.lookup x == some .globalImplicit) && !(x == ("__debug__" : Str))
noncomputable def Kc.tgt (K:Kc) (i:Nat) (x:Str):Bool:=K.vis i && (match K.names[i]? with | some y=>Str.ofString y == x | none=>false) && (K.sc.names.lookup x == some .local || (K.sc.names.lookup x == some .cell && !K.inC))
noncomputable def Tg.slots:Tg→List Nat
 | .one i=>[i] | .two i j=>[i,j]
noncomputable def cOk (K:Kc) (scope:Scope) (t:Tg):Bool :=
 scope.kind == .function && scope.names.all (fun y=>y.2 != .cell && (y.2 != .local || scope.names.lookup y.1 == some .local) && (y.2 != .free || K.sc.names.lookup y.1 == some .cell)) &&
  (List.range K.names.length).all (fun i=>match K.names[i]? with | some x=>(match scope.names.lookup (Str.ofString x) with | some .local=>t.slots.contains i | _=>true) | none=>true)

noncomputable def Dg:BF→String
 | .len => "len" | .min2 => "min" | .max2 => "max" | .abs => "abs" | .sum => "sum" | .sorted => "sorted" | .list => "list" | .int => "int"
noncomputable def ET:Cn→Option String
 | .own _=>none | .int=>some "int" | .bool=>some "bool" | .list=>some "list" | .tuple=>some "tuple" | .valueError=>some "ValueError"

noncomputable def CK (scope outer:Scope):Scope :=
 { scope with names:=scope.names.map fun (n,k)=>if (k == .free && outer.kind == .function && outer.names.lookup n == some .cell) then (n,.cell) else (n,k) }
noncomputable def Kc.comp (K:Kc) (scope:Scope):Kc :=
 { K with sc:=CK scope K.sc,vis:=fun i=>match K.names[i]? with | some y=>(match scope.names.lookup (Str.ofString y) with | some .local=>true | some .free=>K.vis i && (K.sc.names.lookup (Str.ofString y) == some .cell) | _=>false) | none=>false,inC:=true }

inductive MCn (K:Kc):Cn→Expr→Prop
 | own {c x p}:x=Str.ofString c→K.gl x=true→K.cls.contains c=true→MCn K (.own c) (.Name x p)
 | ty {c n x p}:ET c=some n→x=Str.ofString n→K.gl x=true→MCn K c (.Name x p)
inductive MCns (K:Kc):List Cn→List Expr→Prop
 | nil:MCns K [] []
 | cons {c x cs xs}:MCn K c x→MCns K cs xs→MCns K (c :: cs) (x :: xs)
inductive MTg (K:Kc):Tg→Expr→Prop
 | one {i x p}:K.tgt i x=true→MTg K (.one i) (.Name x p)
 | two {i j x y p q k pos}:K.tgt i x=true→K.tgt j y=true→MTg K (.two i j) (.Tuple [.Name x p,.Name y q] k pos)

noncomputable def GD (x:Expr):List Expr:=Expr.casesOn (motive_1:=fun ξ=>List Expr) x (fun ξ vs ξ=>vs) (fun ξ ξ ξ=>[]) (fun l ξ r ξ=>[l,r]) (fun ξ e ξ=>[e]) (fun ξ ξ ξ ξ=>[]) (fun a b c ξ=>[a,b,c]) (fun ξ ξ ξ=>[]) (fun ξ ξ ξ=>[]) (fun e gs ξ ξ=>e :: List.casesOn (motive:=fun ξ=>List Expr) gs [] fun g ξ=>g.target :: g.iter :: g.ifs)
 (fun ξ ξ ξ ξ=>[]) (fun ξ ξ ξ ξ ξ=>[]) (fun ξ ξ ξ ξ=>[]) (fun ξ ξ=>[]) (fun ξ ξ=>[]) (fun ξ ξ=>[]) (fun l ξ rs ξ=>l :: rs) (fun f as ξ ξ=>f :: as) (fun ξ ξ ξ ξ=>[]) (fun ξ ξ=>[]) (fun ξ ξ ξ=>[]) (fun v ξ ξ=>[v]) (fun v s ξ=>[v,s]) (fun ξ ξ=>[]) (fun ξ ξ=>[]) (fun es ξ=>es) (fun es ξ ξ=>es)
 (fun a b c ξ=>a.toList++(b.toList++c.toList))
noncomputable def kOf (x:Expr):Nat:=Expr.casesOn (motive_1:=fun ξ=>Nat) x (fun ξ ξ ξ=>0) (fun ξ ξ ξ=>0) (fun ξ ξ ξ ξ=>0) (fun ξ ξ ξ=>0) (fun ξ ξ ξ ξ=>0) (fun ξ ξ ξ ξ=>0) (fun ξ ξ ξ=>0) (fun ξ ξ ξ=>0) (fun ξ ξ ξ ξ=>0)
 (fun ξ ξ ξ ξ=>0) (fun ξ ξ ξ ξ ξ=>0) (fun ξ ξ ξ ξ=>0) (fun ξ ξ=>0) (fun ξ ξ=>0) (fun ξ ξ=>0) (fun ξ ξ ξ ξ=>0) (fun ξ ξ ξ ξ=>0) (fun ξ ξ ξ ξ=>0) (fun ξ ξ=>0) (fun ξ k ξ=>k) (fun ξ ξ ξ=>0) (fun ξ ξ ξ=>0) (fun ξ ξ=>0) (fun ξ ξ=>0) (fun ξ ξ=>0) (fun ξ k ξ=>k) (fun ξ ξ ξ ξ=>0)
noncomputable def HF (x:Expr) (d:Scope):Scope:=Expr.casesOn (motive_1:=fun ξ=>Scope) x (fun ξ ξ ξ=>d) (fun ξ ξ ξ=>d) (fun ξ ξ ξ ξ=>d) (fun ξ ξ ξ=>d) (fun ξ ξ ξ ξ=>d) (fun ξ ξ ξ ξ=>d) (fun ξ ξ ξ=>d) (fun ξ ξ ξ=>d) (fun ξ ξ s ξ=>s)
 (fun ξ ξ ξ ξ=>d) (fun ξ ξ ξ ξ ξ=>d) (fun ξ ξ ξ ξ=>d) (fun ξ ξ=>d) (fun ξ ξ=>d) (fun ξ ξ=>d) (fun ξ ξ ξ ξ=>d) (fun ξ ξ ξ ξ=>d) (fun ξ ξ ξ ξ=>d) (fun ξ ξ=>d) (fun ξ ξ ξ=>d) (fun ξ ξ ξ=>d) (fun ξ ξ ξ=>d) (fun ξ ξ=>d) (fun ξ ξ=>d) (fun ξ ξ=>d) (fun ξ ξ ξ=>d) (fun ξ ξ ξ ξ=>d)
noncomputable def HR (x:Expr) (s l t c o:Bool):Bool:=Expr.casesOn (motive_1:=fun ξ=>Bool) x (fun ξ ξ ξ=>o) (fun ξ ξ ξ=>o) (fun ξ ξ ξ ξ=>o) (fun ξ ξ ξ=>o) (fun ξ ξ ξ ξ=>o) (fun ξ ξ ξ ξ=>o) (fun ξ ξ ξ=>o) (fun ξ ξ ξ=>s) (fun ξ ξ ξ ξ=>l)
 (fun ξ ξ ξ ξ=>s) (fun ξ ξ ξ ξ ξ=>s) (fun ξ ξ ξ ξ=>o) (fun ξ ξ=>o) (fun ξ ξ=>o) (fun ξ ξ=>o) (fun ξ ξ ξ ξ=>o) (fun ξ ξ ξ ξ=>c) (fun ξ ξ ξ ξ=>o) (fun ξ ξ=>o) (fun ξ ξ ξ=>o) (fun ξ ξ ξ=>o) (fun ξ ξ ξ=>o) (fun ξ ξ=>s) (fun ξ ξ=>o) (fun ξ ξ=>o) (fun ξ ξ ξ=>t) (fun ξ ξ ξ ξ=>s)
structure Pl (x:Expr):Prop where
 star:∀xs env,starEach (x :: xs) env=(false,eval x env) :: starEach xs env
 sub:∀o i,subscripted x false o i=operate [o,i] (getItem o i)
 fold:∀env v,foldedSetIterable x env v=pure v
 mark:∀o,behindInMarks o x=false
 set:∀a b p n env,swapsWith x (some (.Subscript a b p)) n env=pure false
theorem AX {x:Expr} (h:HR x false true true true true=true):Pl x:=by
 cases x <;> first | exact⟨fun ξ ξ=>rfl,fun ξ ξ=>rfl,fun ξ ξ=>rfl,fun ξ=>rfl,fun ξ ξ ξ ξ ξ=>rfl⟩ | cases h
theorem O1 {x:Expr} (h:HR x false false true true true=true) (t:Option Expr) (n:Nat) (env:Env):swapsWith x t n env=pure false:=by
 cases x <;> first | rfl | cases h
theorem Hz {ts:List Expr}{k:Nat}{p:Pos}{x:Expr} (h:HR x false true false true true=true) (n:Nat) (env:Env):swapsWithSole [.Tuple ts k p] x n env=pure false∧swappedStores [.Tuple ts k p] x env=pure none:=by
 cases x <;> first | exact⟨rfl,rfl⟩ | cases h
theorem ab_of {x:Expr} (h:HR x true true true false true=true) (y:Str) (env:Env) (w:Sem Value):attributeBase x y env w=w:=by
 cases x <;> first | rfl | cases h
noncomputable section
noncomputable def dX:Expr:=.List [] ⟨0,0,0,0⟩
noncomputable def kid (i:Nat) (x:Expr):Expr:=(GD x).getD i dX
noncomputable def Kc.nm (K:Kc) (i:Nat):Str:=Str.ofString (K.names.getD i "")
abbrev EM:=Kc→Expr→Bool×Expr
abbrev EMs:=Kc→List Expr→Bool×List Expr
noncomputable def m0 (c:Const):EM:=fun ξ x=>(true,.Constant c (kOf x) x.pos)
noncomputable def m1 (f:Expr→Pos→Expr) (a:EM):EM:=fun K x=>((a K (kid 0 x)).1,f (a K (kid 0 x)).2 x.pos)
noncomputable def m2 (f:Expr→Expr→Pos→Expr) (a b:EM):EM:=fun K x=>((a K (kid 0 x)).1 && (b K (kid 1 x)).1,f (a K (kid 0 x)).2 (b K (kid 1 x)).2 x.pos)
noncomputable def m3 (f:Expr→Expr→Expr→Pos→Expr) (a b d:EM):EM:=fun K x=>((a K (kid 0 x)).1 && ((b K (kid 1 x)).1 && (d K (kid 2 x)).1),f (a K (kid 0 x)).2 (b K (kid 1 x)).2 (d K (kid 2 x)).2 x.pos)
noncomputable def mL (f:List Expr→Expr→Expr) (es:EMs):EM:=fun K x=>((es K (GD x)).1,f (es K (GD x)).2 x)
noncomputable def mn:EMs:=fun ξ ξ=>(true,[])
noncomputable def mc (a:EM) (r:EMs):EMs:=fun K xs=>((a K (xs.getD 0 dX)).1 && (r K xs.tail).1,(a K (xs.getD 0 dX)).2 :: (r K xs.tail).2)
noncomputable def mC (f:String) (b:Kc→Bool) (es:EMs):EM:=fun K x=>((K.gl (Str.ofString f) && b K) && (!(es K (GD x).tail).2.isEmpty && (es K (GD x).tail).1),.Call (.Name (Str.ofString f) (kid 0 x).pos) (es K (GD x).tail).2 [] x.pos)
noncomputable def mM (m:Mt) (a:EM) (es:EMs):EM:=fun K x=>(((kid 0 x).pos.endLine == x.pos.line && HR (a K (kid 0 (kid 0 x))).2 true true true false true) && (Nat.blt (es K (GD x).tail).2.length 29 && ((a K (kid 0 (kid 0 x))).1 && (es K (GD x).tail).1)),.Call (.Attribute (a K (kid 0 (kid 0 x))).2 (Str.ofString (HO m)) (kid 0 x).pos) (es K (GD x).tail).2 [] x.pos)
noncomputable def cnS (c:Cn):String:=Cn.casesOn (motive:=fun ξ=>String) c (fun c=>c) "int" "bool" "list" "tuple" "ValueError"
noncomputable def cnB (K:Kc) (c:Cn):Bool:=K.gl (Str.ofString (cnS c)) && Cn.casesOn (motive:=fun ξ=>Bool) c (fun c=>K.cls.contains c) true true true true true
noncomputable def cnX (c:Cn):EM:=fun K x=>(cnB K c,.Name (Str.ofString (cnS c)) x.pos)
noncomputable def cnL (cs:List Cn):EMs:=List.rec (motive:=fun ξ=>EMs) mn (fun c ξ r=>mc (cnX c) r) cs
noncomputable def OV (cs:List Cn):EM:=List.casesOn (motive:=fun ξ=>EM) cs (fun ξ x=>(false,x)) fun c r=>List.casesOn (motive:=fun ξ=>EM) r (cnX c) fun ξ ξ=>mL (fun es x=>.Tuple es (kOf x) x.pos) (cnL cs)
noncomputable def OW (cs:List Cn) (_:Kc):Bool:=Nat.blt cs.length 1002
noncomputable def tgX (t:Tg):EM:=Tg.casesOn (motive:=fun ξ=>EM) t (fun i K x=>(K.tgt i (K.nm i),.Name (K.nm i) x.pos)) fun i j K x=>(K.tgt i (K.nm i) && K.tgt j (K.nm j),.Tuple [.Name (K.nm i) (kid 0 x).pos,.Name (K.nm j) (kid 1 x).pos] (kOf x) x.pos)
noncomputable def mP (t:Tg) (a s:EM) (ds:EMs):EM:=fun K x=>((!K.inC && cOk K (HF x K.sc) t) && ((tgX t (K.comp (HF x K.sc)) (kid 1 x)).1 && ((s K (kid 2 x)).1 && ((a (K.comp (HF x K.sc)) (kid 0 x)).1 && (ds (K.comp (HF x K.sc)) ((GD x).drop 3)).1))),
 .ListComp (a (K.comp (HF x K.sc)) (kid 0 x)).2 [⟨(tgX t (K.comp (HF x K.sc)) (kid 1 x)).2,(s K (kid 2 x)).2,(ds (K.comp (HF x K.sc)) ((GD x).drop 3)).2,0⟩] (HF x K.sc) x.pos)
noncomputable def pdB (m:Mt):Bool:=Mt.casesOn (motive:=fun ξ=>Bool) m true true true true true true false
theorem pd_ne {m:Mt} (h:pdB m=true):m≠.popD:=by rintro rfl;cases h
noncomputable def qE (e:Ex):Bool:=Ex.rec (motive_1:=fun ξ=>Bool) (motive_2:=fun ξ=>Bool) (motive_3:=fun ξ=>Bool)
 (none:=false)
 (bool:=fun ξ=>false)
 (int:=fun ξ=>true)
 (str:=fun ξ=>false)
 (var:=fun ξ=>true)
 (glob:=fun ξ ξ=>false)
 (bin:=fun ξ ξ ξ a b=>a && b)
 (neg:=fun ξ ξ=>false)
 (nt:=fun ξ ξ=>false)
 (cmp:=fun ξ ξ ξ ξ ξ=>false)
 (cmp2:=fun ξ ξ ξ ξ ξ ξ ξ ξ=>false)
 (bop:=fun ξ ξ ξ=>false)
 (list:=fun ξ ξ=>false)
 (tup:=fun ξ es=>es)
 (dict0:=false)
 (idx:=fun ξ ξ a b=>a && b)
 (slTo:=fun ξ ξ ξ ξ=>false)
 (slFrom:=fun ξ ξ ξ ξ=>false)
 (slFT:=fun ξ ξ ξ ξ ξ ξ=>false)
 (rev:=fun ξ ξ=>false)
 (call:=fun ξ ξ ξ=>false)
 (bc:=fun ξ ξ ξ=>false)
 (mt:=fun m ξ ξ a es=>pdB m && (a && es))
 (isi:=fun ξ ξ ξ=>false)
 (comp:=fun ξ ξ ξ ξ ξ=>false)
 (compIf:=fun ξ ξ ξ ξ ξ ξ ξ=>false)
 (compD:=fun ξ ξ ξ ξ ξ=>false)
 (nil:=true)
 (cons:=fun ξ ξ a r=>a && r)
 (ex:=fun ξ ξ=>false)
 (range1:=fun ξ ξ=>false)
 (range3:=fun ξ ξ ξ ξ ξ ξ=>false)
 (enum:=fun ξ ξ=>false)
 (zip:=fun ξ ξ ξ ξ=>false)
 e
noncomputable def mQ (b:Bool) (a:EM):EM:=fun K x=>(b && (a K x).1,(a K x).2)
noncomputable def isD (e:Ex):Bool:=match e with
 | .compD _ _ _=>true
 | _=>false
noncomputable def enB (s:Sr):Bool:=Sr.casesOn (motive_3:=fun ξ=>Bool) s
 (ex:=fun ξ=>true)
 (range1:=fun ξ=>false)
 (range3:=fun ξ ξ ξ=>true)
 (enum:=fun ξ=>false)
 (zip:=fun ξ ξ=>false)
noncomputable def Bl (e:Ex):EM:=Ex.rec (motive_1:=fun ξ=>EM) (motive_2:=fun ξ=>EMs) (motive_3:=fun ξ=>EM)
 (none:=m0 .none)
 (bool:=fun b=>m0 (.bool b))
 (int:=fun i=>m0 (.int i))
 (str:=fun s=>m0 (.str (Str.ofString s)))
 (var:=fun i K x=>(K.var i (K.nm i),.Name (K.nm i) x.pos))
 (glob:=fun y n K x=>(K.gl (Str.ofString y) && (K.gint.lookup y == some n),.Name (Str.ofString y) x.pos))
 (bin:=fun op ξ ξ=>m2 fun l r=>.BinOp l (M1 op) r)
 (neg:=fun ξ=>m1 (.UnaryOp .USub))
 (nt:=fun ξ=>m1 (.UnaryOp .Not))
 (cmp:=fun op ξ ξ=>m2 fun l r=>.Compare l [CU op] [r])
 (cmp2:=fun o1 o2 ξ ξ ξ=>m3 fun l r t=>.Compare l [CU o1,CU o2] [r,t])
 (bop:=fun j ξ=>mL fun es x=>.BoolOp (Bool.casesOn (motive:=fun ξ=>BoolOp) j .Or .And) es x.pos)
 (list:=fun ξ=>mL fun es x=>.List es x.pos)
 (tup:=fun ξ=>mL fun es x=>.Tuple es (kOf x) x.pos)
 (dict0:=fun ξ x=>(true,.Dict [] [] x.pos))
 (idx:=fun ξ ξ=>m2 .Subscript)
 (slTo:=fun ξ ξ a b=>m2 .Subscript a (m1 (fun y=>.Slice none (some y) none) b))
 (slFrom:=fun ξ ξ a b=>m2 .Subscript a (m1 (fun y=>.Slice (some y) none none) b))
 (slFT:=fun ξ ξ ξ a b d=>m2 .Subscript a (m2 (fun y z=>.Slice (some y) (some z) none) b d))
 (rev:=fun ξ a=>m2 .Subscript a (m1 (fun y=>.Slice none none (some y)) (m1 (.UnaryOp .USub) (m0 (.int 1)))))
 (call:=fun f ξ=>mC f fun K=>K.fns.contains f)
 (bc:=fun f ξ=>mC (Dg f) fun ξ=>true)
 (mt:=fun m ξ ξ=>mM m)
 (isi:=fun ξ cs a=>mC "isinstance" (OW cs) (mc a (mc (OV cs) mn)))
 (comp:=fun ξ t ξ a s=>mP t a s mn)
 (compIf:=fun ξ t ξ ξ a s d=>mP t a s (mc d mn))
 (compD:=fun e t ξ a s=>mQ (qE e) (mP t a s mn))
 (nil:=mn)
 (cons:=fun ξ ξ=>mc)
 (ex:=fun ξ a=>a)
 (range1:=fun ξ a=>mC "range" (fun ξ=>true) (mc a mn))
 (range3:=fun ξ ξ ξ a b d=>mC "range" (fun ξ=>true) (mc a (mc b (mc d mn))))
 (enum:=fun s i=>mC "enumerate" (fun ξ=>enB s) (mc i mn))
 (zip:=fun ξ ξ a b=>mC "zip" (fun ξ=>true) (mc a (mc b mn)))
 e
noncomputable def Kh (e:Exs):EMs:=Exs.rec (motive_1:=fun ξ=>EM) (motive_2:=fun ξ=>EMs) (motive_3:=fun ξ=>EM)
 (none:=m0 .none)
 (bool:=fun b=>m0 (.bool b))
 (int:=fun i=>m0 (.int i))
 (str:=fun s=>m0 (.str (Str.ofString s)))
 (var:=fun i K x=>(K.var i (K.nm i),.Name (K.nm i) x.pos))
 (glob:=fun y n K x=>(K.gl (Str.ofString y) && (K.gint.lookup y == some n),.Name (Str.ofString y) x.pos))
 (bin:=fun op ξ ξ=>m2 fun l r=>.BinOp l (M1 op) r)
 (neg:=fun ξ=>m1 (.UnaryOp .USub))
 (nt:=fun ξ=>m1 (.UnaryOp .Not))
 (cmp:=fun op ξ ξ=>m2 fun l r=>.Compare l [CU op] [r])
 (cmp2:=fun o1 o2 ξ ξ ξ=>m3 fun l r t=>.Compare l [CU o1,CU o2] [r,t])
 (bop:=fun j ξ=>mL fun es x=>.BoolOp (Bool.casesOn (motive:=fun ξ=>BoolOp) j .Or .And) es x.pos)
 (list:=fun ξ=>mL fun es x=>.List es x.pos)
 (tup:=fun ξ=>mL fun es x=>.Tuple es (kOf x) x.pos)
 (dict0:=fun ξ x=>(true,.Dict [] [] x.pos))
 (idx:=fun ξ ξ=>m2 .Subscript)
 (slTo:=fun ξ ξ a b=>m2 .Subscript a (m1 (fun y=>.Slice none (some y) none) b))
 (slFrom:=fun ξ ξ a b=>m2 .Subscript a (m1 (fun y=>.Slice (some y) none none) b))
 (slFT:=fun ξ ξ ξ a b d=>m2 .Subscript a (m2 (fun y z=>.Slice (some y) (some z) none) b d))
 (rev:=fun ξ a=>m2 .Subscript a (m1 (fun y=>.Slice none none (some y)) (m1 (.UnaryOp .USub) (m0 (.int 1)))))
 (call:=fun f ξ=>mC f fun K=>K.fns.contains f)
 (bc:=fun f ξ=>mC (Dg f) fun ξ=>true)
 (mt:=fun m ξ ξ=>mM m)
 (isi:=fun ξ cs a=>mC "isinstance" (OW cs) (mc a (mc (OV cs) mn)))
 (comp:=fun ξ t ξ a s=>mP t a s mn)
 (compIf:=fun ξ t ξ ξ a s d=>mP t a s (mc d mn))
 (compD:=fun e t ξ a s=>mQ (qE e) (mP t a s mn))
 (nil:=mn)
 (cons:=fun ξ ξ=>mc)
 (ex:=fun ξ a=>a)
 (range1:=fun ξ a=>mC "range" (fun ξ=>true) (mc a mn))
 (range3:=fun ξ ξ ξ a b d=>mC "range" (fun ξ=>true) (mc a (mc b (mc d mn))))
 (enum:=fun s i=>mC "enumerate" (fun ξ=>enB s) (mc i mn))
 (zip:=fun ξ ξ a b=>mC "zip" (fun ξ=>true) (mc a (mc b mn)))
 e
noncomputable def JN (e:Sr):EM:=Sr.rec (motive_1:=fun ξ=>EM) (motive_2:=fun ξ=>EMs) (motive_3:=fun ξ=>EM)
 (none:=m0 .none)
 (bool:=fun b=>m0 (.bool b))
 (int:=fun i=>m0 (.int i))
 (str:=fun s=>m0 (.str (Str.ofString s)))
 (var:=fun i K x=>(K.var i (K.nm i),.Name (K.nm i) x.pos))
 (glob:=fun y n K x=>(K.gl (Str.ofString y) && (K.gint.lookup y == some n),.Name (Str.ofString y) x.pos))
 (bin:=fun op ξ ξ=>m2 fun l r=>.BinOp l (M1 op) r)
 (neg:=fun ξ=>m1 (.UnaryOp .USub))
 (nt:=fun ξ=>m1 (.UnaryOp .Not))
 (cmp:=fun op ξ ξ=>m2 fun l r=>.Compare l [CU op] [r])
 (cmp2:=fun o1 o2 ξ ξ ξ=>m3 fun l r t=>.Compare l [CU o1,CU o2] [r,t])
 (bop:=fun j ξ=>mL fun es x=>.BoolOp (Bool.casesOn (motive:=fun ξ=>BoolOp) j .Or .And) es x.pos)
 (list:=fun ξ=>mL fun es x=>.List es x.pos)
 (tup:=fun ξ=>mL fun es x=>.Tuple es (kOf x) x.pos)
 (dict0:=fun ξ x=>(true,.Dict [] [] x.pos))
 (idx:=fun ξ ξ=>m2 .Subscript)
 (slTo:=fun ξ ξ a b=>m2 .Subscript a (m1 (fun y=>.Slice none (some y) none) b))
 (slFrom:=fun ξ ξ a b=>m2 .Subscript a (m1 (fun y=>.Slice (some y) none none) b))
 (slFT:=fun ξ ξ ξ a b d=>m2 .Subscript a (m2 (fun y z=>.Slice (some y) (some z) none) b d))
 (rev:=fun ξ a=>m2 .Subscript a (m1 (fun y=>.Slice none none (some y)) (m1 (.UnaryOp .USub) (m0 (.int 1)))))
 (call:=fun f ξ=>mC f fun K=>K.fns.contains f)
 (bc:=fun f ξ=>mC (Dg f) fun ξ=>true)
 (mt:=fun m ξ ξ=>mM m)
 (isi:=fun ξ cs a=>mC "isinstance" (OW cs) (mc a (mc (OV cs) mn)))
 (comp:=fun ξ t ξ a s=>mP t a s mn)
 (compIf:=fun ξ t ξ ξ a s d=>mP t a s (mc d mn))
 (compD:=fun e t ξ a s=>mQ (qE e) (mP t a s mn))
 (nil:=mn)
 (cons:=fun ξ ξ=>mc)
 (ex:=fun ξ a=>a)
 (range1:=fun ξ a=>mC "range" (fun ξ=>true) (mc a mn))
 (range3:=fun ξ ξ ξ a b d=>mC "range" (fun ξ=>true) (mc a (mc b (mc d mn))))
 (enum:=fun s i=>mC "enumerate" (fun ξ=>enB s) (mc i mn))
 (zip:=fun ξ ξ a b=>mC "zip" (fun ξ=>true) (mc a (mc b mn)))
 e
noncomputable def prS {α:Type} (x:Stmt) (k:List Expr→List Stmt→List Stmt→List ExceptHandler→α):α:=Stmt.casesOn (motive_2:=fun ξ=>α) x (fun ξ ξ ξ ξ ξ ξ ξ ξ ξ ξ=>k [] [] [] []) (fun ξ ξ ξ ξ ξ ξ ξ ξ ξ ξ=>k [] [] [] []) (fun ξ ξ ξ ξ ξ ξ ξ ξ ξ ξ ξ=>k [] [] [] []) (fun v ξ=>k v.toList [] [] []) (fun ξ ξ=>k [] [] [] []) (fun ts v ξ=>k (v :: ts) [] [] [])
 (fun ξ ξ ξ ξ ξ ξ ξ=>k [] [] [] []) (fun ξ ξ ξ ξ=>k [] [] [] []) (fun ξ ξ ξ ξ ξ=>k [] [] [] []) (fun t i b ξ ξ=>k [i,t] b [] []) (fun ξ ξ ξ ξ ξ=>k [] [] [] []) (fun t b ξ ξ=>k [t] b [] []) (fun t b e ξ=>k [t] b e []) (fun ξ ξ ξ=>k [] [] [] []) (fun ξ ξ ξ=>k [] [] [] []) (fun ξ ξ ξ=>k [] [] [] []) (fun e ξ ξ=>k e.toList [] [] []) (fun b h ξ ξ ξ=>k [] b [] h)
 (fun ξ ξ ξ ξ ξ=>k [] [] [] []) (fun ξ ξ ξ=>k [] [] [] []) (fun ξ ξ=>k [] [] [] []) (fun ξ ξ ξ ξ=>k [] [] [] []) (fun ξ ξ=>k [] [] [] []) (fun ξ ξ=>k [] [] [] []) (fun v ξ=>k [v] [] [] []) (fun ξ=>k [] [] [] []) (fun ξ=>k [] [] [] []) (fun ξ=>k [] [] [] [])
noncomputable def C0 (i:Nat) (x:Stmt):Expr:=prS x fun a ξ ξ ξ=>a.getD i dX
noncomputable def bdS (x:Stmt):List Stmt:=prS x fun ξ b ξ ξ=>b
noncomputable def elS (x:Stmt):List Stmt:=prS x fun ξ ξ b ξ=>b
noncomputable def hdS (x:Stmt):List ExceptHandler:=prS x fun ξ ξ ξ h=>h
noncomputable def htS (h:ExceptHandler):Expr:=ExceptHandler.casesOn (motive_4:=fun ξ=>Expr) h fun t ξ ξ ξ=>t.getD dX
noncomputable def hbS (h:ExceptHandler):List Stmt:=ExceptHandler.casesOn (motive_4:=fun ξ=>List Stmt) h fun ξ ξ b ξ=>b
abbrev SM:=Stmt→Bool×Stmt
abbrev SMs:=List Stmt→Bool×List Stmt
abbrev HMs:=List ExceptHandler→Bool×List ExceptHandler
noncomputable def swB (K:Kc) (t:Str) (pp:Pos) (v:Expr):Bool:=(if K.sc.kind.isAnnotationScope then ScopeKind.function else K.sc.kind) == .function && K.sc.names.lookup t == some .local && pp.line == v.pos.line && !((HF v K.sc).names.any fun (n,k)=>n == t && (k == .local || k == .cell))
section
variable (K:Kc)
noncomputable def KI (i:Nat) (e:EM):SM:=fun x=>(K.tgt i (K.nm i) && ((e K (C0 0 x)).1 && (HR (e K (C0 0 x)).2 false false true true true || swB K (K.nm i) (C0 1 x).pos (e K (C0 0 x)).2)),.Assign [.Name (K.nm i) (C0 1 x).pos] (e K (C0 0 x)).2 x.pos)
noncomputable def sUn (t e:EM):SM:=fun x=>((t K (C0 1 x)).1 && ((e K (C0 0 x)).1 && HR (e K (C0 0 x)).2 false true false true true),.Assign [(t K (C0 1 x)).2] (e K (C0 0 x)).2 x.pos)
noncomputable def tg3 (i j l:Nat):EM:=fun K x=>(K.tgt i (K.nm i) && (K.tgt j (K.nm j) && K.tgt l (K.nm l)),.Tuple [.Name (K.nm i) (kid 0 x).pos,.Name (K.nm j) (kid 1 x).pos,.Name (K.nm l) (kid 2 x).pos] (kOf x) x.pos)
noncomputable def OE (t v:EM):SM:=fun x=>((v K (C0 0 x)).1 && (t K (C0 1 x)).1,.Assign [(t K (C0 1 x)).2] (v K (C0 0 x)).2 x.pos)
noncomputable def sEx (e:EM):SM:=fun x=>((e K (C0 0 x)).1 && HR (e K (C0 0 x)).2 false false true true true,.Expr (e K (C0 0 x)).2 x.pos)
noncomputable def KH (e:EM) (f:Expr→Pos→Stmt):SM:=fun x=>((e K (C0 0 x)).1,f (e K (C0 0 x)).2 x.pos)
noncomputable def sIf (c:EM) (a b:SMs):SM:=fun x=>((c K (C0 0 x)).1 && ((a (bdS x)).1 && (b (elS x)).1),.If (c K (C0 0 x)).2 (a (bdS x)).2 (b (elS x)).2 x.pos)
noncomputable def sWh (c:EM) (b:SMs):SM:=fun x=>((c K (C0 0 x)).1 && (b (bdS x)).1,.While (c K (C0 0 x)).2 (b (bdS x)).2 [] x.pos)
noncomputable def OF (t s:EM) (b:SMs):SM:=fun x=>((t K (C0 1 x)).1 && ((s K (C0 0 x)).1 && (b (bdS x)).1),.For (t K (C0 1 x)).2 (s K (C0 0 x)).2 (b (bdS x)).2 [] x.pos)
noncomputable def OD (b:SMs) (h:HMs):SM:=fun x=>((b (bdS x)).1 && (!(h (hdS x)).2.isEmpty && (h (hdS x)).1),.Try (b (bdS x)).2 (h (hdS x)).2 [] [] x.pos)
noncomputable def LW (a:SM) (r:SMs):SMs:=fun xs=>((a (xs.getD 0 default)).1 && (r xs.tail).1,(a (xs.getD 0 default)).2 :: (r xs.tail).2)
noncomputable def Mq (d:String) (o:Option Nat) (b:SMs) (r:HMs):HMs:=fun hs=>(((K.gl (Str.ofString d) && K.cls.contains d) && (Option.casesOn (motive:=fun ξ=>Bool) o true fun i=>K.tgt i (K.nm i) && K.sc.names.lookup (K.nm i) == some .local)) && ((!(b (hbS (hs.getD 0 default))).2.isEmpty && (b (hbS (hs.getD 0 default))).1) && (r hs.tail).1),
 .ExceptHandler (some (.Name (Str.ofString d) (htS (hs.getD 0 default)).pos)) (Option.casesOn (motive:=fun ξ=>Option Str) o none fun i=>some (K.nm i)) (b (hbS (hs.getD 0 default))).2 (hs.getD 0 default).pos :: (r hs.tail).2)
noncomputable def encS (e:St):SM:=St.rec (motive_1:=fun ξ=>SM) (motive_2:=fun ξ=>SMs) (motive_3:=fun ξ=>HMs)
 (asg:=fun i e x=>(!isD e && (KI K i (Bl e) x).1,(KI K i (Bl e) x).2))
 (asg2:=fun i j e=>sUn K (tgX (.two i j)) (Bl e))
 (asg3:=fun i j l e=>sUn K (tg3 i j l) (Bl e))
 (setIt:=fun o i v=>OE K (m2 .Subscript (Bl o) (Bl i)) (Bl v))
 (ex:=fun e=>sEx K (Bl e))
 (ret:=fun e=>KH K (Bl e) fun x=>.Return (some x))
 (ife:=fun c ξ ξ a b=>sIf K (Bl c) a b)
 (whl:=fun c ξ b=>sWh K (Bl c) b)
 («for»:=fun t s ξ b=>OF K (tgX t) (JN s) b)
 (raise:=fun k msg=>KH K (mC k (fun K=>K.cls.contains k) (mc (m0 (.str (Str.ofString msg))) mn)) fun x=>.Raise (some x) none)
 (tr:=fun ξ ξ b h=>OD b h)
 (pass:=fun x=>(true,.Pass x.pos))
 (fun ξ=>(true,[])) (fun ξ ξ=>LW) (fun ξ=>(true,[])) (fun d o ξ ξ=>Mq K d o) e
noncomputable def Kg (e:Sts):SMs:=Sts.rec (motive_1:=fun ξ=>SM) (motive_2:=fun ξ=>SMs) (motive_3:=fun ξ=>HMs)
 (asg:=fun i e x=>(!isD e && (KI K i (Bl e) x).1,(KI K i (Bl e) x).2))
 (asg2:=fun i j e=>sUn K (tgX (.two i j)) (Bl e))
 (asg3:=fun i j l e=>sUn K (tg3 i j l) (Bl e))
 (setIt:=fun o i v=>OE K (m2 .Subscript (Bl o) (Bl i)) (Bl v))
 (ex:=fun e=>sEx K (Bl e))
 (ret:=fun e=>KH K (Bl e) fun x=>.Return (some x))
 (ife:=fun c ξ ξ a b=>sIf K (Bl c) a b)
 (whl:=fun c ξ b=>sWh K (Bl c) b)
 («for»:=fun t s ξ b=>OF K (tgX t) (JN s) b)
 (raise:=fun k msg=>KH K (mC k (fun K=>K.cls.contains k) (mc (m0 (.str (Str.ofString msg))) mn)) fun x=>.Raise (some x) none)
 (tr:=fun ξ ξ b h=>OD b h)
 (pass:=fun x=>(true,.Pass x.pos))
 (fun ξ=>(true,[])) (fun ξ ξ=>LW) (fun ξ=>(true,[])) (fun d o ξ ξ=>Mq K d o) e
noncomputable def encH (e:Hs):HMs:=Hs.rec (motive_1:=fun ξ=>SM) (motive_2:=fun ξ=>SMs) (motive_3:=fun ξ=>HMs)
 (asg:=fun i e x=>(!isD e && (KI K i (Bl e) x).1,(KI K i (Bl e) x).2))
 (asg2:=fun i j e=>sUn K (tgX (.two i j)) (Bl e))
 (asg3:=fun i j l e=>sUn K (tg3 i j l) (Bl e))
 (setIt:=fun o i v=>OE K (m2 .Subscript (Bl o) (Bl i)) (Bl v))
 (ex:=fun e=>sEx K (Bl e))
 (ret:=fun e=>KH K (Bl e) fun x=>.Return (some x))
 (ife:=fun c ξ ξ a b=>sIf K (Bl c) a b)
 (whl:=fun c ξ b=>sWh K (Bl c) b)
 («for»:=fun t s ξ b=>OF K (tgX t) (JN s) b)
 (raise:=fun k msg=>KH K (mC k (fun K=>K.cls.contains k) (mc (m0 (.str (Str.ofString msg))) mn)) fun x=>.Raise (some x) none)
 (tr:=fun ξ ξ b h=>OD b h)
 (pass:=fun x=>(true,.Pass x.pos))
 (fun ξ=>(true,[])) (fun ξ ξ=>LW) (fun ξ=>(true,[])) (fun d o ξ ξ=>Mq K d o) e
end
end
theorem Gw {α:Type}{xs:List α} (h:(!xs.isEmpty)=true):xs.isEmpty=false:=by rwa [Bool.not_eq_true'] at h
theorem an {a b:Bool} (h:(a && b)=true):a=true∧b=true:=Bool.and_eq_true_iff.mp h
theorem O8 {K:Kc}{c:Cn}{p:Pos} (h:cnB K c=true):MCn K c (.Name (Str.ofString (cnS c)) p):=by
 cases c with
 | own c=>exact .own rfl (an h).1 (an h).2
 | _=>exact .ty rfl rfl (an h).1
theorem OX {K:Kc}{cs:List Cn}:∀ {xs:List Expr},(cnL cs K xs).1=true→MCns K cs (cnL cs K xs).2:=by
 induction cs with
 | nil=>intro xs _;exact .nil
 | cons c cs ih=>intro xs h;exact .cons (O8 (an h).1) (ih (an h).2)
theorem He {K:Kc}{t:Tg}{x:Expr} (h:(tgX t K x).1=true):MTg K t (tgX t K x).2:=by
 cases t with
 | one i=>exact .one h
 | two i j=>exact .two (an h).1 (an h).2
noncomputable def NSs (xs:List Expr):Prop:=∀pos env,(backTo pos (starEach xs env)).any (·.1)=false
theorem M2 {x:Expr}{xs:List Expr} (h:Pl x) (r:NSs xs):NSs (x :: xs):=fun pos env=>by rw[h.star];exact r pos env

structure Tx (W:Wd) where
 G:Addr
 B:Addr
 mg:Str→Option Value
 mb:Str→Option Value
 hG:W.base.Ns G mg
 hB:W.base.Ns B mb
 mods:(W.base.get? cStatics).isSome=true
 gint:List (String×Int)
 hgint:∀x n,gint.lookup x=some n→∃t,mg (Str.ofString x)=some (.int n t)
 fns:List String
 hfns:∀f,fns.contains f=true→∃a o fd,mg (Str.ofString f)=some (.ref a)∧W.base.get? a=some o∧o.data=.func fd
 cls:List String
 frag:PySem.W.Frag
 hfrag:frag.In W.base
 anc:String→List String
 kty:∀t∈["NoneType", "bool", "int", "str", "tuple", "list", "dict"],∀n∈["int", "bool", "list", "tuple"],PySem.W.kitOne frag (.type t) (.type n)=some (Ff t n)
 kown:∀d D c C,W.cls d=some D→W.cls c=some C→PySem.W.kitOne frag (.ref D) (.ref C)=some ((anc d).contains c)
 kval:∀d D,W.cls d=some D→PySem.W.kitOne frag (.ref D) (.type "ValueError")=some true
 kcl:∀d D,W.cls d=some D→ExcCls frag D
 ksub:∀d D c C,W.cls d=some D→W.cls c=some C→PySem.W.subIn frag (.ref D) (.ref C)=some ((anc d).contains c)
 own:∀f,cls.contains f=true→∃C,W.cls f=some C∧OwnCls (Str.ofString f) C [.type "ValueError",.type "Exception",.type "BaseException",.type "object"] "ValueError.__new__" mg W.base
 cns:∀c n,ET c=some n→mg (Str.ofString n)=none∧mb (Str.ofString n)=some (.type n)
 bfs:∀f:BF,mg (Str.ofString (Dg f))=none∧mb (Str.ofString (Dg f))=some (Li f)
 isi:mg (Str.ofString "isinstance")=none∧mb (Str.ofString "isinstance")=some (.builtin "isinstance")
 rng:mg (Str.ofString "range")=none∧mb (Str.ofString "range")=some (.type "range")
 enm:mg (Str.ofString "enumerate")=none∧mb (Str.ofString "enumerate")=some (.type "enumerate")
 zip:mg (Str.ofString "zip")=none∧mb (Str.ofString "zip")=some (.type "zip")

noncomputable abbrev Tx.z {W:Wd} (T:Tx W) (z:Addr→Prop) (F:FZ:=W.fz):Tx (W.z z F):=⟨T.G,T.B,T.mg,T.mb,T.hG,T.hB,T.mods,T.gint,T.hgint,T.fns,T.hfns,T.cls,T.frag,T.hfrag,T.anc,T.kty,T.kown,T.kval,T.kcl,T.ksub,T.own,T.cns,T.bfs,T.isi,T.rng,T.enm,T.zip⟩
theorem Tx.hcls {W:Wd} (T:Tx W) (f:String) (h:T.cls.contains f=true):∃C,T.mg (Str.ofString f)=some (.ref C)∧W.cls f=some C:=let ⟨C,e,O⟩:=T.own f h;⟨C,O.bound,e⟩
structure CxOk {W:Wd} (T:Tx W) (c:Cx) (K:Kc) (hd:Bool):Prop where
 sc:c.env.scope=K.sc
 kind:K.sc.kind=.function
 names:c.names=K.names
 vis:c.vis=K.vis
 gint:K.gint=T.gint
 fns:K.fns=T.fns
 cls:K.cls=T.cls
 glob:c.env.globals=T.G
 bi:c.env.builtins=T.B
 hand:hd=false→c.A.handled=none
 units:c.A.units+20<cLine
 frames:c.A.frames=some c.fenvs
 inj:∀(i j:Nat) (x y:String),c.names[i]?=some x→c.names[j]?=some y→Str.ofString x=Str.ofString y→i=j
 cellOwn:∀x a,c.env.cells.lookup x=some a→K.inC=false→a∈c.own
 cellFr:∀x a,c.env.cells.lookup x=some a→a∉c.frs
 cellKind:∀x,c.env.kindOf x=some .cell→∃a,c.env.cells.lookup x=some a
 cellInj:∀x y a,c.env.cells.lookup x=some a→c.env.cells.lookup y=some a→x=y

theorem CxOk.z {W:Wd}{T:Tx W}{c:Cx}{K:Kc}{hd:Bool} (C:CxOk T c K hd) (z:Addr→Prop) (F:FZ:=W.fz):CxOk (T.z z F) c K hd :=
 ⟨C.sc,C.kind,C.names,C.vis,C.gint,C.fns,C.cls,C.glob,C.bi,C.hand,C.units,C.frames,C.inj,C.cellOwn,C.cellFr,C.cellKind,C.cellInj⟩

section
variable {W:Wd}{c:Cx}{P:Addr→Obj→Prop}{ρ:Loc}{H:Hp}{s:Shared}{Q:V→Hp→Prop}{X:String→Hp→Prop}

inductive FlyT (W:Wd) (P:Addr→Obj→Prop) (f:Option Addr) (h:Heap) (a:Addr) (vs:Array Value):Prop
 | mk (T:Addr) (oT:Obj) (ts:Array Value) (fl:Value) (t1:vs[1]?=some (.ref T)) (t2:T≠a) (t3:W.base.get? T=none) (t4:∀o,¬P T o) (t5:h.get? T=some oT) (t6:oT.data=.fields ts) (t7:ts[3]?=some fl) (t8:fl=.none∨∃L,f=some L∧fl=rawInt L)
inductive Fly (W:Wd) (P:Addr→Obj→Prop) (f:Option Addr) (h:Heap) (e:Value) (k:String):Prop
 | mk (a C:Addr) (oe:Obj) (vs:Array Value) (a0:Value) (h1:e=.ref a) (h2:W.cls k=some C) (h3:h.get? a=some oe) (h4:oe.cls=.ref C) (h5:oe.data=.fields vs) (h6:vs[0]?=some a0) (h7:W.base.get? a=none) (h8:∀o,¬P a o) (h9:vs[1]?=some .none∨FlyT W P f h a vs)
theorem Fly.weaken {P':Addr→Obj→Prop}{f:Option Addr}{h:Heap}{e:Value}{k:String} (x:Fly W P' f h e k) (q:∀b o,P b o→P' b o):Fly W P f h e k:=by
 obtain⟨a,C,oe,vs,a0,h1,h2,h3,h4,h5,h6,h7,h8,h9⟩:=x
 refine⟨a,C,oe,vs,a0,h1,h2,h3,h4,h5,h6,h7,fun o p=>h8 o (q _ _ p),h9.imp id ?_⟩
 rintro⟨T,oT,ts,fl,t1,t2,t3,t4,t5,t6,t7,t8⟩
 exact⟨T,oT,ts,fl,t1,t2,t3,fun o p=>t4 o (q _ _ p),t5,t6,t7,t8⟩

theorem Fly.down {z:Addr→Prop}{F:FZ}{f:Option Addr}{h:Heap}{e:Value}{k:String} (x:Fly (W.z z F) P f h e k):Fly W P f h e k:=by
 obtain⟨a,C,oe,vs,a0,h1,h2,h3,h4,h5,h6,h7,h8,h9⟩:=x
 refine⟨a,C,oe,vs,a0,h1,h2,h3,h4,h5,h6,h7,h8,h9.imp id ?_⟩
 rintro⟨T,oT,ts,fl,t1,t2,t3,t4,t5,t6,t7,t8⟩
 exact⟨T,oT,ts,fl,t1,t2,t3,t4,t5,t6,t7,t8⟩

inductive EX (W:Wd) (c:Cx) (P:Addr→Obj→Prop) (ρ:Loc) (X:String→Hp→Prop) (e:Value) (s':Shared):Prop
 | mk (k:String) (H':Hp) (S:Sim W c P ρ H' s') (F:Fly W P c.env.frame s'.heap e k) (x:X k H')
theorem EX.weaken {P':Addr→Obj→Prop}{e:Value}{s':Shared} (h:EX W c P' ρ X e s') (q:∀b o,P b o→P' b o):EX W c P ρ X e s' :=
 let ⟨k,H',S,F,x⟩:=h;⟨k,H',S.weaken q,F.weaken q,x⟩

noncomputable def SE (W:Wd) (c:Cx) (G:Gl) (hd:Bool) (e:Ex) (x:Expr):Prop:=∀(P:Addr→Obj→Prop) (ρ:Loc) (H:Hp) (s:Shared) (Q:V→Hp→Prop) (X:String→Hp→Prop),Sim W c P ρ H s→wpE G hd e ρ Q X H→wpAny (model W.prog W.w) c.A (eval x c.env) (PE W c P ρ Q) (EX W c P ρ X) s
noncomputable def ST (W:Wd) (c:Cx) (G:Gl) (hd:Bool) (e:Ex) (x:Expr):Prop:=∀(P:Addr→Obj→Prop) (ρ:Loc) (H:Hp) (s:Shared) (B:Bool→Hp→Prop) (X:String→Hp→Prop),Sim W c P ρ H s→wpE G hd e ρ (asB B) X H →
 wpAny (model W.prog W.w) c.A (isTrue x c.env (eval x c.env)) (fun b s'=>∃H',Sim W c P ρ H' s'∧B b H') (EX W c P ρ X) s
noncomputable def SEs (W:Wd) (c:Cx) (G:Gl) (hd:Bool) (es:Exs) (xs:List Expr):Prop:=∀(P:Addr→Obj→Prop) (ρ:Loc) (H:Hp) (s:Shared) (Q:List V→Hp→Prop) (X:String→Hp→Prop) (pos:Pos),Sim W c P ρ H s→ED G hd es ρ Q X H →
 wpAny (model W.prog W.w) c.A (spliced (backTo pos (starEach xs c.env))) (fun us s'=>∃vs H',Sim W c P ρ H' s'∧As W s'.heap vs us∧Q vs H') (EX W c P ρ X) s

theorem SE.max {G:Gl}{hd:Bool}{e:Ex}{x:Expr} (h:SE W c G hd e x) (S:Sim W c P ρ H s) (w:wpE G hd e ρ Q X H) :
  wpAny (model W.prog W.w) c.A (eval x c.env) (fun u s'=>KeepR W s.heap s'.heap∧PE W c P ρ Q u s') (EX W c P ρ X) s :=
 wpAny_mono (h _ ρ H s Q X S.max w) (fun u s' hPt=>by obtain⟨v,H',S',r,q⟩:=hPt;exact⟨S.keepR S',v,H',S'.weaken S.le_max,r,q⟩) fun ξ ξ x=>x.weaken S.le_max

theorem SE.two {G:Gl}{hd:Bool}{a b:Ex}{l r:Expr} (ha:SE W c G hd a l) (hb:SE W c G hd b r) {R:V→V→Hp→Prop} (S:Sim W c P ρ H s) (w:wpE G hd a ρ (fun x H₁=>wpE G hd b ρ (fun y H₂=>R x y H₂) X H₁) X H) :
  wpAny (model W.prog W.w) c.A (eval l c.env) (fun u s₁=>wpAny (model W.prog W.w) c.A (eval r c.env) (fun v s₂=>∃x y H₂,Sim W c P ρ H₂ s₂∧Rep W s₂.heap x u∧Rep W s₂.heap y v∧R x y H₂) (EX W c P ρ X) s₁) (EX W c P ρ X) s :=
 wpAny_mono (ha P ρ H s _ X S w) (fun u s₁ hPt=>by obtain⟨x,H₁,S₁,rx,w₁⟩:=hPt;exact wpAny_mono (hb.max S₁ w₁) (fun v s₂ hPt=>by obtain⟨k,y,H₂,S₂,ry,q⟩:=hPt;exact⟨x,y,H₂,S₂,rx.mono k,ry,q⟩) fun ξ ξ x=>x) fun ξ ξ x=>x

theorem Sim.gl {T:Tx W}{K:Kc}{hd:Bool} (S:Sim W c P ρ H s) (C:CxOk T c K hd):s.heap.Ns c.env.globals T.mg:=by rw[C.glob];exact T.hG.at' fun o e=>S.base _ _ e
theorem Sim.bi {T:Tx W}{K:Kc}{hd:Bool} (S:Sim W c P ρ H s) (C:CxOk T c K hd):s.heap.Ns c.env.builtins T.mb:=by rw[C.bi];exact T.hB.at' fun o e=>S.base _ _ e

theorem Kc.gl_spec {K:Kc}{x:Str} (h:K.gl x=true):K.sc.names.lookup x=some .globalImplicit∧(x == ("__debug__" : Str))=false:=by
 unfold Kc.gl at h
 simp only[Bool.and_eq_true,beq_iff_eq,Bool.not_eq_true'] at h
 exact h
theorem Kc.tgt_kind {K:Kc}{i:Nat}{x:Str} (h:K.tgt i x=true):K.sc.names.lookup x=some .local∨(K.sc.names.lookup x=some .cell∧K.inC=false):=by
 unfold Kc.tgt at h
 simp only[Bool.and_eq_true,Bool.or_eq_true,beq_iff_eq,Bool.not_eq_true'] at h
 exact h.2
set_option tactic.hygienic true in
theorem Kc.at_spec {K:Kc}{i:Nat}{x:Str} (h:(K.vis i && (match K.names[i]? with | some y=>Str.ofString y == x | none=>false))=true):K.vis i=true∧∃y,K.names[i]?=some y∧Str.ofString y=x:=by
 simp only[Bool.and_eq_true] at h
 obtain⟨h1,h2⟩:=h
 split at h2
 ·rename_i y e;exact⟨h1,y,e,by simpa using h2⟩
 ·cases h2
theorem Kc.tgt_spec {K:Kc}{i:Nat}{x:Str} (h:K.tgt i x=true):K.vis i=true∧∃y,K.names[i]?=some y∧Str.ofString y=x:=by
 unfold Kc.tgt at h
 rw[Bool.and_eq_true] at h
 exact Kc.at_spec h.1
theorem Kc.var_spec {K:Kc}{i:Nat}{x:Str} (h:K.var i x=true):K.vis i=true∧(∃y,K.names[i]?=some y∧Str.ofString y=x)∧(x == ("__debug__" : Str))=false:=by
 unfold Kc.var at h
 simp only[Bool.and_eq_true,Bool.not_eq_true'] at h
 obtain⟨⟨h1,h2⟩,h3⟩:=h
 obtain⟨a,b⟩:=Kc.at_spec (K:=K) (i:=i) (x:=x) (by simp only[Bool.and_eq_true];exact⟨h1,h2⟩)
 exact⟨a,b,h3⟩

theorem CxOk.kindF {T:Tx W}{K:Kc}{hd:Bool} (C:CxOk T c K hd):c.env.scope.kind=.function:=by rw[C.sc];exact C.kind
theorem CxOk.kindG {T:Tx W}{K:Kc}{hd:Bool} (C:CxOk T c K hd) {x:Str} (h:K.gl x=true):c.env.kindOf x=some .globalImplicit:=by unfold Env.kindOf;rw[C.sc];exact (Kc.gl_spec h).1

noncomputable def GOk {W:Wd} (T:Tx W) (G:Gl) (A:Around):Prop:=∀(c:Cx) (K:Kc),c.A=A→CxOk T c K false→∀(f:String) (vs:List V) (us:List Value) (P:Addr→Obj→Prop) (ρ:Loc) (H:Hp) (s:Shared) (Q:V→Hp→Prop) (X:String→Hp→Prop) (a:Addr),
 Sim W c P ρ H s→As W s.heap vs us→T.mg (Str.ofString f)=some (.ref a)→G.call f vs Q X H→wpAny (model W.prog W.w) c.A (call (.ref a) us) (PE W c P ρ Q) (EX W c P ρ X) s

theorem Bw {T:Tx W}{K:Kc}{hd:Bool}{x:Str}{v:Value}{p:Pos}{E:Value→Shared→Prop}{Q:Value→Shared→Prop} (C:CxOk T c K hd) (S:Sim W c P ρ H s) (g:K.gl x=true) (e:T.mg x=some v) (h:Q v s) :
  wpAny (model W.prog W.w) c.A (eval (.Name x p) c.env) Q E s:=Name_function_global C.kindF (C.kindG g) (loadGlobal_global (S.gl C) e h) (Kc.gl_spec g).2
theorem AG {T:Tx W}{K:Kc}{hd:Bool}{x:Str}{v:Value}{p:Pos}{E:Value→Shared→Prop}{Q:Value→Shared→Prop} (C:CxOk T c K hd) (S:Sim W c P ρ H s) (g:K.gl x=true) (e:T.mg x=none∧T.mb x=some v) (h:Q v s) :
  wpAny (model W.prog W.w) c.A (eval (.Name x p) c.env) Q E s:=Name_function_global C.kindF (C.kindG g) (loadGlobal_builtin (S.gl C) e.1 (S.bi C) e.2 h) (Kc.gl_spec g).2

theorem Kv {T:Tx W}{K:Kc}{hd:Bool}{G:Gl}{i:Nat}{x:Str}{p:Pos} (C:CxOk T c K hd) (g:K.var i x=true):SE W c G hd (.var i) (.Name x p):=by
 intro P ρ H s Q X S w
 obtain⟨h1,⟨y,h2,rfl⟩,h3⟩:=Kc.var_spec g
 obtain⟨v,e,w⟩:=Lu (A3.mp w)
 obtain⟨m,hn,hv⟩:=S.loc
 rcases hv i y v (by rw[C.vis];exact h1) (by rw[C.names];exact h2) e with ⟨k,u,hu,r⟩ | ⟨k,cl,o,u,hc,ho,hd,r⟩
 ·exact wpAny_Name (wpAny_loadName_local C.kindF k hn hu (BW S r w)) h3
 ·exact wpAny_Name (wpAny_loadName_cell C.kindF k hc ⟨o,ho,hd⟩ (BW S r w)) h3
end
end Mine.Internal
end

section
namespace Mine.Internal
open PySem PySem.Calls PyProof.Rows PySem.SeqAt
section
variable {W:Wd}{T:Tx W}{c:Cx}{K:Kc}{hd:Bool}{G:Gl}

theorem LR {k p}:SE W c G hd .none (.Constant .none k p):=fun P ρ H s Q X S w=>Constant_none (BW S .none w)
theorem Nn {b k p}:SE W c G hd (.bool b) (.Constant (.bool b) k p):=fun P ρ H s Q X S w=>Constant_bool (BW S (.bool b) w)
theorem LP {i k p}:SE W c G hd (.int i) (.Constant (.int i) k p):=fun P ρ H s Q X S w=>wpAny_Constant_int (Dw S w)
theorem Ou {x k p}:SE W c G hd (.str x) (.Constant (.str (Str.ofString x)) k p):=fun P ρ H s Q X S w=>Constant_str ⟨_,H,S.toks _,.str _ _,w⟩
theorem Nj {x n p} (C:CxOk T c K hd) (g:K.gl (Str.ofString x)=true) (e:K.gint.lookup x=some n):SE W c G hd (.glob x n) (.Name (Str.ofString x) p):=fun P ρ H s Q X S w=>by
 obtain⟨t,h⟩:=T.hgint x n (C.gint▸e)
 exact Bw C S g h (BW S (.int n t) w)
theorem Oy {op a b l r p} (ha:SE W c G hd a l) (hb:SE W c G hd b r):SE W c G hd (.bin op a b) (.BinOp l (M1 op) r p):=fun P ρ H s Q X S w=>by
 replace w:=Ah.mp w
 exact wpAny_BinOp (wpAny_mono (ha.two hb S w) (fun u s₁ h₁=>wpAny_mono h₁ (fun v s₂ hPt=>by obtain⟨x,y,H₂,S₂,rx,ry,q⟩:=hPt;exact Ky S₂ rx ry q) fun ξ ξ x=>x) fun ξ ξ x=>x)
theorem LO {a x p} (ha:SE W c G hd a x):SE W c G hd (.neg a) (.UnaryOp .USub x p):=fun P ρ H s Q X S w=>by
 replace w:=Dv.mp w
 refine UnaryOp_ (wpAny_mono (ha P ρ H s _ X S w) (fun u s₁ hx=>?_) fun ξ ξ x=>x)
 obtain⟨v,H₁,S₁,r,q⟩:=hx
 obtain⟨i,rfl,q'⟩:=AV q
 obtain⟨t,rfl⟩:=r
 exact neg_int (Dw S₁ q')
theorem Ej {E:Value→Shared→Prop}{P:Addr→Obj→Prop}{ρ:Loc}{s:Shared}{u:Value}{B:Bool→Hp→Prop}{R:Bool→Shared→Prop} (h:PE W c P ρ (asB B) u s) (k:∀b H',u=.bool b→Sim W c P ρ H' s→B b H'→R b s):wpAny (model W.prog W.w) c.A (truthy u) R E s:=by
 obtain⟨v,H',S,r,q⟩:=h
 obtain⟨b,rfl,q'⟩:=NY q
 cases r
 exact wpAny_truthy_bool (k _ H' rfl S q')
theorem se_nt {a x p} (ha:SE W c G hd a x):SE W c G hd (.nt a) (.UnaryOp .Not x p):=fun P ρ H s Q X S w=>by
 replace w:=BO.mp w
 exact UnaryOp_ (wpAny_mono (ha P ρ H s _ X S w) (fun u s₁ h=>not_of (Ej h fun b H' ξ S' q=>Fb S' q)) fun ξ ξ x=>x)
theorem O4 {P:Addr→Obj→Prop}{ρ:Loc}{s:Shared}{u:Value}{Q:V→Hp→Prop} (h:PB W c P ρ (fun b H'=>Q (.bool b) H') u s):PE W c P ρ Q u s:=by
 obtain⟨b,H',rfl,S,q⟩:=h;exact Fb S q
theorem Ox {op a b l r p} (C:CxOk T c K hd) (hm:behindInMarks (CU op) r=false) (ha:SE W c G hd a l) (hb:SE W c G hd b r):SE W c G hd (.cmp op a b) (.Compare l [CU op] [r] p):=fun P ρ H s Q X S w=>by
 replace w:=Ab.mp w
 exact wpAny_Compare1 (wpAny_mono (ha.two hb S w) (fun u s₁ h₁=>wpAny_mono h₁ (fun v s₂ hPt=>by obtain⟨x,y,H₂,S₂,rx,ry,q⟩:=hPt;exact wpAny_mono (Cz S₂ C.units T.mods rx ry q) (fun ξ ξ z=>O4 z) fun ξ ξ x=>x) fun ξ ξ x=>x) fun ξ ξ x=>x) hm
theorem Ol {op a b l r p} (C:CxOk T c K hd) (hm:behindInMarks (CU op) r=false) (ha:SE W c G hd a l) (hb:SE W c G hd b r):ST W c G hd (.cmp op a b) (.Compare l [CU op] [r] p):=fun P ρ H s B X S w=>by
 replace w:=Ab.mp w
 refine wpAny_isTrue_Compare1 (wpAny_mono (ha.two hb S w) (fun u s₁ h₁=>wpAny_mono h₁ (fun v s₂ hPt=>?_) fun ξ ξ x=>x) fun ξ ξ x=>x) hm
 obtain⟨x,y,H₂,S₂,rx,ry,q⟩:=hPt
 refine wpAny_mono (Cz (B:=fun b H'=>asB B (.bool b) H') S₂ C.units T.mods rx ry q) (fun t s₃ z=>?_) fun ξ ξ x=>x
 obtain⟨b,H',rfl,S₃,q⟩:=z
 exact wpAny_truthy_bool ⟨H',S₃,q⟩
theorem LE {e x} (h:SE W c G hd e x) (he:∀whole,isTrue x c.env whole=(do let v ←whole;standAt x.pos;holding [v] (truthy v))):ST W c G hd e x:=fun P ρ H s B X S w =>
 isTrue_plain (wpAny_mono (h P ρ H s _ X S w) (fun u s₁ h₁=>Ej h₁ fun b H' ξ S' q=>⟨H',S',q⟩) fun ξ ξ x=>x) (he _)
theorem st_nt {a x p} (ha:ST W c G hd a x):ST W c G hd (.nt a) (.UnaryOp .Not x p):=fun P ρ H s B X S w=>by
 replace w:=BO.mp w
 exact isTrue_not (ha P ρ H s _ X S w)
theorem Nl {o1 o2 a b d l r t p} (C:CxOk T c K hd) (hm:lastMarks [CU o1,CU o2] [r,t]=false) (ha:SE W c G hd a l) (hb:SE W c G hd b r) (hc:SE W c G hd d t):SE W c G hd (.cmp2 o1 o2 a b d) (.Compare l [CU o1,CU o2] [r,t] p):=fun P ρ H s Q X S w=>by
 replace w:=F9.mp w
 refine Compare_chain (wpAny_mono (ha.two hb S w) (fun u s₁ h₁=>chain_link (wpAny_mono h₁ (fun v s₂ hPt=>?_) fun ξ ξ x=>x)) fun ξ ξ x=>x) hm
 obtain⟨x,y,H₂,S₂,rx,ry,q⟩:=hPt
 refine wpAny_mono (Cz S₂.max C.units T.mods rx ry q) (fun z s₃ hz=>?_) fun ξ ξ x=>x
 obtain⟨b',H₃,rfl,S₃,q⟩:=hz
 have ry':=ry.mono (S₂.keepR S₃)
 have S₃:=S₃.weaken S₂.le_max
 refine wpAny_truthy_bool ?_
 cases b' with
 | false=>simpa using Fb S₃ (by simpa using q)
 | true =>
  simp only[if_true] at q ⊢
  refine chain_last (wpAny_mono (hc.max S₃ q) (fun w s₄ hx=>?_) fun ξ ξ x=>x)
  obtain⟨k,z,H₄,S₄,rz,q⟩:=hx
  exact wpAny_mono (Cz S₄ C.units T.mods (ry'.mono k) rz q) (fun ξ ξ z=>O4 z) fun ξ ξ x=>x
theorem N7 {o1 o2 a b d l r t p} (C:CxOk T c K hd) (hm:lastMarks [CU o1,CU o2] [r,t]=false) (ha:SE W c G hd a l) (hb:SE W c G hd b r) (hc:SE W c G hd d t):ST W c G hd (.cmp2 o1 o2 a b d) (.Compare l [CU o1,CU o2] [r,t] p):=fun P ρ H s B X S w=>by
 replace w:=F9.mp w
 refine isTrue_chain (wpAny_mono (ha.two hb S w) (fun u s₁ h₁=>test_link (wpAny_mono h₁ (fun v s₂ hPt=>?_) fun ξ ξ x=>x)) fun ξ ξ x=>x) hm
 obtain⟨x,y,H₂,S₂,rx,ry,q⟩:=hPt
 refine wpAny_mono (Cz S₂.max C.units T.mods rx ry q) (fun z s₃ hz=>?_) fun ξ ξ x=>x
 obtain⟨b',H₃,rfl,S₃,q⟩:=hz
 have ry':=ry.mono (S₂.keepR S₃)
 have S₃:=S₃.weaken S₂.le_max
 refine wpAny_truthy_bool ?_
 cases b' with
 | false=>exact⟨H₃,S₃,by simpa [asB] using q⟩
 | true =>
  simp only[if_true] at q ⊢
  refine test_last (wpAny_mono (hc.max S₃ q) (fun w s₄ hx=>?_) fun ξ ξ x=>x)
  obtain⟨k,z,H₄,S₄,rz,q⟩:=hx
  refine wpAny_mono (Cz (B:=fun b H'=>asB B (.bool b) H') S₄ C.units T.mods (ry'.mono k) rz q) (fun t s₅ z=>?_) fun ξ ξ x=>x
  obtain⟨b,H',rfl,S₅,q⟩:=z
  exact wpAny_truthy_bool ⟨H',S₅,q⟩
theorem Nc:SEs W c G hd .nil []:=fun P ρ H s Q X pos S w=>spliced_nil ⟨[],H,S,.nil,by simpa [A8,A6] using w⟩
theorem LN {e r x xs} (he:∀ys env,starEach (x :: ys) env=(false,eval x env) :: starEach ys env) (h1:SE W c G hd e x) (h2:SEs W c G hd r xs):SEs W c G hd (.cons e r) (x :: xs):=fun P ρ H s Q X pos S w=>by
 replace w:=A6.mp w
 rw[he]
 refine spliced_cons (wpAny_mono (h1 P ρ H s _ X S w) (fun u s₁ hx=>?_) fun ξ ξ x=>x)
 obtain⟨v,H₁,S₁,rv,q⟩:=hx
 refine wpAny_mono (h2 _ ρ H₁ s₁ _ X pos S₁.max q) (fun us s₂ hx=>?_) fun ξ ξ x=>x.weaken S₁.le_max
 obtain⟨vs,H₂,S₂,rs,q⟩:=hx
 exact⟨v :: vs,H₂,S₂.weaken S₁.le_max,.cons (rv.mono (S₁.keepR S₂)) rs,q⟩
theorem SEs.max {es xs}{P:Addr→Obj→Prop}{ρ:Loc}{H:Hp}{s:Shared}{Q:List V→Hp→Prop}{X:String→Hp→Prop}{pos:Pos} (h:SEs W c G hd es xs) (S:Sim W c P ρ H s) (w:ED G hd es ρ Q X H) :
  wpAny (model W.prog W.w) c.A (spliced (backTo pos (starEach xs c.env))) (fun us s'=>KeepR W s.heap s'.heap∧∃vs H',Sim W c P ρ H' s'∧As W s'.heap vs us∧Q vs H') (EX W c P ρ X) s :=
 wpAny_mono (h _ ρ H s Q X pos S.max w) (fun u s' hPt=>by obtain⟨v,H',S',r,q⟩:=hPt;exact⟨S.keepR S',v,H',S'.weaken S.le_max,r,q⟩) fun ξ ξ x=>x.weaken S.le_max
theorem Ng {es xs p} (h:SEs W c G hd es xs):SE W c G hd (.list es) (.List xs p):=fun P ρ H s Q X S w=>by
 replace w:=AE.mp w
 show wpAny _ _ (do standAt p;newList (←spliced (backTo p (starEach xs c.env)))) _ _ s
 exact wpAny_bind (wpAny_standAt (wpAny_bind (wpAny_mono (h P ρ H s _ X p S w) (fun us s₁ hPt=>by obtain⟨vs,H₁,S₁,r,q⟩:=hPt;exact GZ S₁ r q) fun ξ ξ x=>x)))
theorem Ot {es xs k p} (h:SEs W c G hd es xs):SE W c G hd (.tup es) (.Tuple xs k p):=fun P ρ H s Q X S w=>by
 replace w:=AI.mp w
 show wpAny _ _ (do standAt p;newTuple (←spliced (backTo p (starEach xs c.env)))) _ _ s
 exact wpAny_bind (wpAny_standAt (wpAny_bind (wpAny_mono (h P ρ H s _ X p S w) (fun us s₁ hPt=>by obtain⟨vs,H₁,S₁,r,q⟩:=hPt;exact Gi S₁ r q.1 q.2) fun ξ ξ x=>x)))
theorem LQ {p} (hN:W.fz=nf) (hb:(W.base.get? cStatics).isSome=true):SE W c G hd .dict0 (.Dict [] [] p):=fun P ρ H s Q X S w=>by
 replace w:=F8.mp w
 have hn:=AD s.heap
 refine wpAny_Dict_empty ⟨.ref s.heap.objs.size,_,S.alloc (tk:=s.toks) (o:=.dict []) hn (fun b o e=>Heap.get?_push_of_some _ e) ⟨⟨by simp [Lim],?_⟩,[],⟨_,_,_,Heap.get?_push_size _ rfl,⟨rfl,rfl,rfl⟩,rfl,?_,?_,?_⟩,.nil,fun o q=>by rw[hN] at q;exact q.elim⟩,.ref _,w _ (S.hsize hn)⟩
 ·obtain⟨o,e⟩:=Option.isSome_iff_exists.mp hb
  have h2:2<s.heap.objs.size:=Heap.lt_size (S.base _ _ e)
  refine beq_eq_false_iff_ne.mpr fun q=>?_
  rw[q] at h2
  exact absurd h2 (by decide)
 ·intro e he;simp at he
 ·exact .nil
 ·simp
theorem Ow {e i x y p} (hs:∀o i,subscripted y false o i=operate [o,i] (getItem o i)) (h1:SE W c G hd e x) (h2:SE W c G hd i y):SE W c G hd (.idx e i) (.Subscript x y p):=fun P ρ H s Q X S w=>by
 replace w:=Ac.mp w
 rw[eval_Subscript]
 exact wpAny_bind (wpAny_mono (h1.two h2 S w) (fun u s₁ h₁=>wpAny_bind (wpAny_holding (wpAny_mono h₁ (fun v s₂ hPt=>by obtain⟨x',y',H₂,S₂,rx,ry,q⟩:=hPt;exact wpAny_bind (wpAny_standAt (Kw (value:=x) (slice:=y) S₂ rx ry q hs))) fun ξ ξ x=>x))) fun ξ ξ x=>x)
end
end Mine.Internal
end

section
namespace Mine.Internal
open PySem PySem.Calls PyProof.Rows PySem.SeqAt
section
variable {W:Wd}{T:Tx W}{c:Cx}{K:Kc}{hd:Bool}{G:Gl}

inductive SB (W:Wd) (c:Cx) (G:Gl) (hd:Bool):Exs→List Expr→Prop
 | nil:SB W c G hd .nil []
 | cons {e r x xs}:SE W c G hd e x→ST W c G hd e x→SB W c G hd r xs→SB W c G hd (.cons e r) (x :: xs)

theorem OA {p}{es xs} (h0:SB W c G hd es xs):SE W c G hd (.bop true es) (.BoolOp .And xs p):=by
 induction h0 with
 | nil=>intro P ρ H s Q X S w;simp [An,HL] at w
 | cons h1 h2 h0 ih =>
  cases h0 with
  | nil =>
   intro P ρ H s Q X S w
   simp only[An,At,Ak] at w
   exact BoolOp_one (h1 P ρ H s Q X S w)
  | cons h3 h4 h5 =>
   intro P ρ H s Q X S w
   simp only[An,At,Ak] at w
   refine BoolOp_and (wpAny_mono (h1 P ρ H s _ X S w) (fun u s₁ h=>Ej h fun b H' e S' q=>?_) fun ξ ξ x=>x)
   cases b with
   | true=>simp only[if_true] at q ⊢;exact ih P ρ H' s₁ Q X S' (by rw[An];exact q)
   | false=>simp only[Bool.false_eq_true,if_false] at q ⊢;subst e;exact Fb S' q
theorem se_or {p}{es xs} (h0:SB W c G hd es xs):SE W c G hd (.bop false es) (.BoolOp .Or xs p):=by
 induction h0 with
 | nil=>intro P ρ H s Q X S w;simp [An,HL] at w
 | cons h1 h2 h0 ih =>
  cases h0 with
  | nil =>
   intro P ρ H s Q X S w
   simp only[An,At,Ak] at w
   exact BoolOp_one (h1 P ρ H s Q X S w)
  | cons h3 h4 h5 =>
   intro P ρ H s Q X S w
   simp only[An,At,Ak] at w
   refine BoolOp_or (wpAny_mono (h1 P ρ H s _ X S w) (fun u s₁ h=>Ej h fun b H' e S' q=>?_) fun ξ ξ x=>x)
   cases b with
   | false=>simp only[Bool.false_eq_true,if_false,if_true] at q ⊢;exact ih P ρ H' s₁ Q X S' (by rw[An];exact q)
   | true=>simp only[Bool.true_eq_false,if_false,if_true] at q ⊢;subst e;exact Fb S' q
theorem Om {p}{es xs} (h0:SB W c G hd es xs):ST W c G hd (.bop true es) (.BoolOp .And xs p):=by
 induction h0 with
 | nil=>intro P ρ H s Q X S w;simp [An,HL] at w
 | cons h1 h2 h0 ih =>
  cases h0 with
  | nil =>
   intro P ρ H s B X S w
   simp only[An,At,Ak] at w
   refine isTrue_and (wpAny_mono (h2 P ρ H s _ X S w) (fun b s₁ hx=>?_) fun ξ ξ x=>x)
   obtain⟨H',S',q⟩:=hx
   cases b with
   | true=>simp only[if_true];exact isTrue_and_nil ⟨H',S',q⟩
   | false=>simp only[Bool.false_eq_true,if_false];exact⟨H',S',q⟩
  | cons h3 h4 h5 =>
   intro P ρ H s B X S w
   simp only[An,At,Ak] at w
   refine isTrue_and (wpAny_mono (h2 P ρ H s _ X S w) (fun b s₁ hx=>?_) fun ξ ξ x=>x)
   obtain⟨H',S',q⟩:=hx
   cases b with
   | true=>simp only[if_true] at q ⊢;exact ih P ρ H' s₁ B X S' (by rw[An];exact q)
   | false=>simp only[Bool.false_eq_true,if_false] at q ⊢;exact⟨H',S',q⟩
theorem st_or {p}{es xs} (h0:SB W c G hd es xs):ST W c G hd (.bop false es) (.BoolOp .Or xs p):=by
 induction h0 with
 | nil=>intro P ρ H s Q X S w;simp [An,HL] at w
 | cons h1 h2 h0 ih =>
  cases h0 with
  | nil =>
   intro P ρ H s B X S w
   simp only[An,At,Ak] at w
   refine isTrue_or (wpAny_mono (h2 P ρ H s _ X S w) (fun b s₁ hx=>?_) fun ξ ξ x=>x)
   obtain⟨H',S',q⟩:=hx
   cases b with
   | false=>simp only[Bool.false_eq_true,if_false];exact isTrue_or_nil ⟨H',S',q⟩
   | true=>simp only[if_true];exact⟨H',S',q⟩
  | cons h3 h4 h5 =>
   intro P ρ H s B X S w
   simp only[An,At,Ak] at w
   refine isTrue_or (wpAny_mono (h2 P ρ H s _ X S w) (fun b s₁ hx=>?_) fun ξ ξ x=>x)
   obtain⟨H',S',q⟩:=hx
   cases b with
   | false=>simp only[Bool.false_eq_true,if_false,if_true] at q ⊢;exact ih P ρ H' s₁ B X S' (by rw[An];exact q)
   | true=>simp only[Bool.true_eq_false,if_false,if_true] at q ⊢;exact⟨H',S',q⟩
theorem Fd {E:Value→Shared→Prop}{Q:Value→Shared→Prop}{s:Shared}{a b d:Value} (h:Q (.ref s.heap.objs.size) { s with heap:=s.heap.push { cls:=.type "slice",data:=.fields #[a,b,d] } }) :
  wpAny (model W.prog W.w) c.A (newFields "slice" [a,b,d]) Q E s:=by
 unfold newFields
 exact wpAny_newObj_type h (by size_fits)

theorem Nd {e k x y q p} (h1:SE W c G hd e x) (h2:SE W c G hd k y):SE W c G hd (.slTo e k) (.Subscript x (.Slice none (some y) none q) p):=fun P ρ H s Q X S w=>by
 replace w:=G4.mp w
 rw[eval_Subscript]
 refine wpAny_bind (wpAny_mono (h1.two h2 S w) (fun u s₁ h₁=>wpAny_bind (wpAny_holding ?_)) fun ξ ξ x=>x)
 show wpAny _ _ (pure Value.none >>= fun l=>holding [l] (eval y c.env) >>= fun u'=>holding [l,u'] (pure Value.none) >>= fun s'=>newFields "slice" [l,u',s']) _ _ s₁
 refine wpAny_bind (wpAny_pure (wpAny_bind (wpAny_holding (wpAny_mono h₁ (fun v s₂ hx=>?_) fun ξ ξ x=>x))))
 obtain⟨x',y',H₂,S₂,rx,ry,w₂⟩:=hx
 obtain⟨i,rfl,w₃⟩:=AV w₂
 obtain⟨t,rfl⟩:=ry
 exact wpAny_bind (wpAny_holding (wpAny_pure (Fd (wpAny_bind (wpAny_standAt (DT (value:=x) (slice:=.Slice none (some y) none q) S₂ rx .none (.int _ _) w₃ fun ξ ξ=>rfl))))))
theorem KD {e k x y q p} (h1:SE W c G hd e x) (h2:SE W c G hd k y):SE W c G hd (.slFrom e k) (.Subscript x (.Slice (some y) none none q) p):=fun P ρ H s Q X S w=>by
 replace w:=Ft.mp w
 rw[eval_Subscript]
 refine wpAny_bind (wpAny_mono (h1.two h2 S w) (fun u s₁ h₁=>wpAny_bind (wpAny_holding ?_)) fun ξ ξ x=>x)
 show wpAny _ _ (eval y c.env >>= fun l=>holding [l] (pure Value.none) >>= fun u'=>holding [l,u'] (pure Value.none) >>= fun s'=>newFields "slice" [l,u',s']) _ _ s₁
 refine wpAny_bind (wpAny_mono h₁ (fun v s₂ hx=>?_) fun ξ ξ x=>x)
 obtain⟨x',y',H₂,S₂,rx,ry,w₂⟩:=hx
 obtain⟨i,rfl,w₃⟩:=AV w₂
 obtain⟨t,rfl⟩:=ry
 exact wpAny_bind (wpAny_holding (wpAny_pure (wpAny_bind (wpAny_holding (wpAny_pure (Fd (wpAny_bind (wpAny_standAt (DT (value:=x) (slice:=.Slice (some y) none none q) S₂ rx (.int _ _) .none w₃ fun ξ ξ=>rfl)))))))))
theorem Nf {e j k x y z q p} (h1:SE W c G hd e x) (h2:SE W c G hd j y) (h3:SE W c G hd k z):SE W c G hd (.slFT e j k) (.Subscript x (.Slice (some y) (some z) none q) p):=fun P ρ H s Q X S w=>by
 replace w:=K7.mp w
 rw[eval_Subscript]
 refine wpAny_bind (wpAny_mono (h1.two h2 S w) (fun u s₁ h₁=>wpAny_bind (wpAny_holding ?_)) fun ξ ξ x=>x)
 show wpAny _ _ (eval y c.env >>= fun l=>holding [l] (eval z c.env) >>= fun u'=>holding [l,u'] (pure Value.none) >>= fun s'=>newFields "slice" [l,u',s']) _ _ s₁
 refine wpAny_bind (wpAny_mono h₁ (fun v s₂ hx=>?_) fun ξ ξ x=>x)
 obtain⟨x',y',H₂,S₂,rx,ry,w₂⟩:=hx
 refine wpAny_bind (wpAny_holding (wpAny_mono (h3.max S₂ w₂) (fun v' s₃ hx=>?_) fun ξ ξ x=>x))
 obtain⟨k,z',H₃,S₃,rz,w₃⟩:=hx
 have rx:=rx.mono k
 have ry:=ry.mono k
 obtain⟨i,j,t,t',rfl,rfl,w₄⟩:=Bc w₃ ry rz
 exact wpAny_bind (wpAny_holding (wpAny_pure (Fd (wpAny_bind (wpAny_standAt (DT (value:=x) (slice:=.Slice (some y) (some z) none q) S₃ rx (.int _ _) (.int _ _) w₄ fun ξ ξ=>rfl))))))
end
end Mine.Internal
end

section
namespace Mine.Internal
open PySem PySem.Calls PyProof.Rows PySem.SeqAt
section
variable {W:Wd}{T:Tx W}{c:Cx}{K:Kc}{hd:Bool}{G:Gl}

theorem Ov {e x y q p} (h1:SE W c G hd e x) (h2:SE W c G hd (.neg (.int 1)) y):SE W c G hd (.rev e) (.Subscript x (.Slice none none (some y) q) p):=fun P ρ H s Q X S w=>by
 replace w:=LZ.mp w
 rw[eval_Subscript]
 refine wpAny_bind (wpAny_mono (h1 P ρ H s _ X S w) (fun u s₁ hPt=>?_) fun ξ ξ x=>x)
 obtain⟨v,H₁,S₁,r,q₁⟩:=hPt
 refine wpAny_bind (wpAny_holding ?_)
 obtain⟨a,rfl,xs,ea,hn⟩:=AU q₁
 cases r
 show wpAny _ _ (pure Value.none >>= fun l=>holding [l] (pure Value.none) >>= fun u'=>holding [l,u'] (eval y c.env) >>= fun s'=>newFields "slice" [l,u',s']) _ _ s₁
 refine wpAny_bind (wpAny_pure (wpAny_bind (wpAny_holding (wpAny_pure (wpAny_bind (wpAny_holding (wpAny_mono (h2 P ρ H₁ s₁ (fun v H'=>v=.int (-1)∧H'=H₁) X S₁ ?_) (fun v s₂ ⟨z,H₂,S₂,rz,e1,e2⟩=>?_) fun ξ ξ x=>x)))))))
 ·exact⟨rfl,rfl⟩
 subst e1;subst e2
 obtain⟨t,rfl⟩:=rz
 refine Fd (wpAny_bind (wpAny_standAt ?_))
 obtain⟨hz,it,n,g,r⟩:=S₂.heap _ _ ea
 have hk:∀b o,s₂.heap.get? b=some o→(s₂.heap.push { cls:=.type "slice",data:=.fields #[Value.none,Value.none,.int (-1) t] }).get? b=some o:=fun b o e=>Heap.get?_push_of_some _ e
 have S':Sim W c P ρ H₂ { s₂ with heap:=s₂.heap.push { cls:=.type "slice",data:=.fields #[Value.none,Value.none,.int (-1) t] } }:=S₂.grow (tk:=s₂.toks) hk
 have hl:(s₂.heap.push { cls:=.type "slice",data:=.fields #[Value.none,Value.none,.int (-1) t] }).IsList a it:=⟨_,hk _ _ g,rfl,_,rfl⟩
 refine tail_any (s:={ s₂ with heap:=s₂.heap.push { cls:=.type "slice",data:=.fields #[Value.none,Value.none,.int (-1) t] } }) (value:=x) (slice:=.Slice none none (some y) q) hl.typeIs slot_list_getitem.lookup (wpAny_getItem_list_slice (s:={ s₂ with heap:=s₂.heap.push { cls:=.type "slice",data:=.fields #[Value.none,Value.none,.int (-1) t] } }) hl (Heap.IsSliceOf.new ..) .none .none (.int _ _) (by decide) ?_ ?_) rfl
 ·have hn':=AD (s₂.heap.push { cls:=.type "slice",data:=.fields #[Value.none,Value.none,.int (-1) t] })
  have hk':∀b o,(s₂.heap.push { cls:=.type "slice",data:=.fields #[Value.none,Value.none,.int (-1) t] }).get? b=some o→((s₂.heap.push { cls:=.type "slice",data:=.fields #[Value.none,Value.none,.int (-1) t] }).push { cls:=.type "list",data:=.seq (slicePick it none none (some (-1))) }).get? b=some o:=fun b o e=>Heap.get?_push_of_some _ e
  refine⟨.ref _,H₂.set _ (.list xs.reverse),S'.alloc (tk:=s₂.toks) hn' hk' (Cf hn.1 (Heap.get?_push_size _ rfl) (As.mono (.of_keeps fun b o e=>hk' b o (hk b o e)) ?_)),.ref _,hn.2 _ (S'.hsize hn')⟩
  rw[PySem.W.krv_pick]
  simpa using r.reverse
 ·rw[r.size,sizeLine_eq];exact hz

theorem D6 {M:Model}{A:Around}{E:Value→Shared→Prop}{s:Shared}{f:Value}{trees:List (Bool×Sem Value)}{Q:Args→Shared→Prop} (hp:trees.any (·.1)=false)
  (h:wpAny M A (spliced trees) (fun vs s'=>Q ⟨vs,[]⟩ s') E s):wpAny M A (evalArgs f true trees []) Q E s:=by
 cases trees with
 | nil =>
  unfold evalArgs
  show wpAny M A (spliced [] >>= _) Q E s
  refine wpAny_bind (wpAny_mono h (fun vs s' h'=>?_) fun ξ ξ x=>x)
  refine wpAny_holding ?_
  exact wpAny_bind (wpAny_pure (wpAny_bind (wpAny_pure (wpAny_pure h'))))
 | cons a r =>
  obtain⟨b,x⟩:=a
  simp only[List.any_cons,Bool.or_eq_false_iff] at hp
  obtain⟨hb,_⟩:=hp
  subst hb
  exact evalArgs_plain h

theorem Nm {f es xs q p} (hx:xs.isEmpty=false) (C:CxOk T c K hd) (O:hd=false→GOk T G c.A) (g:K.gl (Str.ofString f)=true) (hf:K.fns.contains f=true) (ms:NSs xs) (h:SEs W c G hd es xs) :
  SE W c G hd (.call f es) (.Call (.Name (Str.ofString f) q) xs [] p):=fun P ρ H s Q X S w=>by
 obtain _ | ⟨x,xs⟩:=xs
 ·cases hx
 replace w:=Ag.mp w
 obtain⟨rfl,w⟩:=w
 obtain⟨a,o,fd,e1,e2,e3⟩:=T.hfns f (C.fns▸hf)
 refine wpAny_Call_Name_kw (Bw C S g e1 ?_)
 refine callWith_function (o:=o) (fd:=fd) (D6 (ms _ _) (wpAny_mono (h P ρ H s _ X p S w) (fun us s₁ hPt=>?_) fun ξ ξ x=>x))
 obtain⟨vs,H₁,S₁,r,q⟩:=hPt
 refine⟨⟨S₁.base _ _ e2,e3⟩,?_⟩
 exact O rfl c K rfl C f vs us P ρ H₁ s₁ Q X a S₁ r e1 q
theorem se_bc {f es x xs q p} (hs:f≠.sorted) (C:CxOk T c K hd) (g:K.gl (Str.ofString (Dg f))=true) (ms:NSs (x :: xs)) (h:SEs W c G hd es (x :: xs)) :
  SE W c G hd (.bc f es) (.Call (.Name (Str.ofString (Dg f)) q) (x :: xs) [] p):=fun P ρ H s Q X S w=>by
 replace w:=Ar.mp w
 obtain⟨rfl,w⟩:=w
 refine wpAny_Call_Name_kw (AG C S g (T.bfs f) ?_)
 have go:∀f',f'=Li f→wpAny (model W.prog W.w) c.A (evalArgs f' true (backTo p (starEach (x :: xs) c.env)) []) (fun a s₁=>wpAny (model W.prog W.w) c.A (call (Li f) ([]++a.pos) a.kw) (PE W c P ρ Q) (EX W c P ρ X) s₁) (EX W c P ρ X) s:=fun f' ξ =>
  D6 (ms _ _) (wpAny_mono (h P ρ H s _ X p S w) (fun us s₁ hPt=>by obtain⟨vs,H₁,S₁,r,q⟩:=hPt;exact LL hs S₁ (C.hand rfl) T.mods r q) fun ξ ξ x=>x)
 cases f
 ·exact callWith_builtin (ms _ _) (go _ rfl)
 ·exact callWith_builtin (ms _ _) (go _ rfl)
 ·exact callWith_builtin (ms _ _) (go _ rfl)
 ·exact callWith_builtin (ms _ _) (go _ rfl)
 ·exact callWith_builtin (ms _ _) (go _ rfl)
 ·exact absurd rfl hs
 ·exact PySem.callWith_type (ms _ _) (go _ rfl)
 ·exact PySem.callWith_type (ms _ _) (go _ rfl)

noncomputable def mtT (m:Mt):String:=Mt.casesOn (motive:=fun ξ=>String) m "list" "list" "list" "dict" "list" "list" "dict"
theorem M6 {m:Mt} (h:m≠.get∧m≠.popD):mtT m = "list" := by
 cases m <;> first | rfl | exact absurd rfl h.1 | exact absurd rfl h.2
theorem M7 {m:Mt} (h:m=.get∨m=.popD):mtT m = "dict" := by rcases h with rfl | rfl <;> rfl
theorem M3 (m:Mt):∃T',(T'=mtT m)∧PlainAttrs T'∧Slot T' (Str.ofString (HO m)) (Nw m)∧typeOf (.builtin (Nw m))=pure (.type "method_descriptor"):=by
 cases m
 ·exact⟨_,rfl,F.plainAttrs_list,F.slot_list_append,F.type_list_append⟩
 ·exact⟨_,rfl,F.plainAttrs_list,F.slot_list_clear,F.type_list_clear⟩
 ·exact⟨_,rfl,F.plainAttrs_list,F.slot_list_count,F.type_list_count⟩
 ·exact⟨_,rfl,F.plainAttrs_dict,F.slot_dict_get,F.type_dict_get⟩
 ·exact⟨_,rfl,F.plainAttrs_list,F.slot_list_pop,F.type_list_pop⟩
 ·exact⟨_,rfl,F.plainAttrs_list,F.slot_list_reverse,F.type_list_reverse⟩
 ·exact⟨_,rfl,F.plainAttrs_dict,F.slot_dict_pop,F.type_dict_pop⟩

theorem se_mt {m o es x xs ap p} (hm:W.fz=nf∨m≠.popD) (C:CxOk T c K hd) (hp:(ap.endLine == p.line)=true) (hb:attributeBase x (Str.ofString (HO m)) c.env (eval x c.env)=eval x c.env) (hl:xs.length<29) (ms:NSs xs)
  (h1:SE W c G hd o x) (h2:SEs W c G hd es xs):SE W c G hd (.mt m o es) (.Call (.Attribute x (Str.ofString (HO m)) ap) xs [] p):=fun P ρ H s Q X S w=>by
 replace w:=BV.mp w
 have hall:(backTo p (starEach xs c.env)).all (fun x=>!x.1)=true:=by
  have:=ms p c.env
  rw[List.all_eq_true]
  intro z hz
  have:=(List.any_eq_false.mp this) z hz
  simpa using this
 refine wpAny_Call_method_late hb ?_ hp rfl (wpAny_mono (h1 P ρ H s _ X S w) (fun u s₁ hx=>?_) fun ξ ξ x=>x)
 ·rw[hall];exact decide_eq_true (p:=xs.length+0+0<30) (Nat.lt_of_lt_of_le hl (by decide))
 obtain⟨v,H₁,S₁,r,hr,w₁⟩:=hx
 obtain⟨T',eT,pa,sl,ty⟩:=M3 m
 refine⟨T',Nw m,pa,sl,ty,?_,?_,callWith_builtin (ms _ _) (D6 (ms _ _) (wpAny_mono (h2.max S₁ w₁) (fun us s₂ hy=>?_) fun ξ ξ x=>x))⟩
 ·obtain⟨a,rfl,hr⟩:=AU hr
  cases r
  rcases Cd hr with ⟨ys,ea,hr⟩ | ⟨ys,ea,hr⟩
  ·obtain⟨_,it,n,g,_⟩:=S₁.heap _ _ ea
   rw[eT,M6 hr]
   exact⟨_,g,rfl⟩
  ·obtain⟨_,ys',⟨ob,es',ep,g,x',_⟩,_⟩:=S₁.heap _ _ ea
   rw[eT,M7 hr]
   exact⟨_,g,x'.1⟩
 ·rintro a e
  obtain⟨b,rfl,hr⟩:=AU hr
  cases r
  cases e
  rcases Cd hr with ⟨ys,ea,hr⟩ | ⟨ys,ea,hr⟩
  ·obtain⟨_,it,n,g,_⟩:=S₁.heap _ _ ea
   exact⟨_,g,rfl⟩
  ·obtain⟨_,ys',⟨ob,es',ep,g,x',_⟩,_⟩:=S₁.heap _ _ ea
   exact⟨_,g,x'.2.1⟩
 ·obtain⟨k,vs,H₂,S₂,rs,q⟩:=hy
  exact LK hm S₂ C.units T.mods (r.mono k) rs q
end
end Mine.Internal
end

section
namespace Mine.Internal
open PySem PySem.W PySem.Calls PyProof.Rows PySem.SeqAt
section
variable {W:Wd}{T:Tx W}{c:Cx}{K:Kc}{hd:Bool}{G:Gl}

inductive CnV (T:Tx W):Cn→Value→Prop
 | own {c C}:W.cls c=some C→CnV T (.own c) (.ref C)
 | ty {c n}:ET c=some n→CnV T c (.type n)
inductive CnVs (T:Tx W):List Cn→List Value→Prop
 | nil:CnVs T [] []
 | cons {c v cs vs}:CnV T c v→CnVs T cs vs→CnVs T (c :: cs) (v :: vs)

theorem Sim.frag {P:Addr→Obj→Prop}{ρ:Loc}{H:Hp}{s:Shared} (S:Sim W c P ρ H s):T.frag.In s.heap:=fun a o e=>S.base _ _ (T.hfrag a o e)

theorem KY {t n:String}{cc:Cn}{cv:Value} (hv:CnV T cc cv) (hc:ET cc=some n) (hn:n∈["int", "bool", "list", "tuple"]) (ht:t∈["NoneType", "bool", "int", "str", "tuple", "list", "dict"]):kitOne T.frag (.type t) cv=some (Ff t n):=by
 cases hv with
 | own _=>cases hc
 | ty e=>rw[hc] at e;cases e;exact T.kty t ht n hn

theorem C8 {anc:String→List String}{v:V}{H:Hp}{t:String} (hx:∀K,NM v K=none) (h1:EL H v false true true false false false false=some (Ff t "int")) (h2:EL H v false true false false false false false=some (Ff t "bool"))
  (h3:EL H v false false false false false true false=some (Ff t "list")) (h4:EL H v false false false false true false false=some (Ff t "tuple")):∀cc b,GH anc H v cc=some b→∃n,ET cc=some n∧n∈["int", "bool", "list", "tuple"]∧b=Ff t n:=by
 intro cc b e
 cases cc with
 | own c=>cases (hx _).symm.trans e
 | int=>exact⟨_,rfl,.head _,Option.some.inj (e.symm.trans h1)⟩
 | bool=>exact⟨_,rfl,.tail _ (.head _),Option.some.inj (e.symm.trans h2)⟩
 | list=>exact⟨_,rfl,.tail _ (.tail _ (.head _)),Option.some.inj (e.symm.trans h3)⟩
 | tuple=>exact⟨_,rfl,.tail _ (.tail _ (.tail _ (.head _))),Option.some.inj (e.symm.trans h4)⟩
 | valueError=>cases (hx _).symm.trans e
theorem Cg {H:Hp}{a:Addr}{ob:Ob}{n b i s t l d:Bool} (ha:H a=some ob):EL H (.ref a) n b i s t l d=Ob.casesOn (motive:=fun ξ=>Option Bool) ob (fun ξ=>some l) fun ξ=>some d:=by
 show ob1 (H a) none (fun ξ=>some l) (fun ξ=>some d)=_
 rw[ha];rfl
theorem Mf {v:V}{u:Value}{c0:Cn}{b0:Bool}{P:Addr→Obj→Prop}{ρ:Loc}{H:Hp}{s:Shared} (S:Sim W c P ρ H s) (r:Rep W s.heap v u) (h0:GH T.anc H v c0=some b0) :
  ∃t Hh,KitX T.frag u t Hh∧Hh s.heap∧u≠.builtin "__main__.__loader__#opaque" ∧ ∀cc cv b,GH T.anc H v cc=some b→CnV T cc cv→kitOne T.frag t cv=some b:=by
 have fin:∀t,t∈["NoneType", "bool", "int", "str", "tuple", "list", "dict"]→(∀cc b,GH T.anc H v cc=some b→∃n,ET cc=some n∧n∈["int", "bool", "list", "tuple"]∧b=Ff t n) →
   ∀cc cv b,GH T.anc H v cc=some b→CnV T cc cv→kitOne T.frag (.type t) cv=some b:=fun t ht h cc cv b e hv=>by
  obtain⟨n,e1,e2,rfl⟩:=h cc b e
  exact KY hv e1 e2 ht
 cases v with
 | none=>cases r;exact⟨_,_,kitx_none,trivial,nofun,fin _ (.head _) (C8 (fun ξ=>rfl) rfl rfl rfl rfl)⟩
 | bool y=>cases r;exact⟨_,_,kitx_bool,trivial,nofun,fin _ (.tail _ (.head _)) (C8 (fun ξ=>rfl) rfl rfl rfl rfl)⟩
 | int y=>obtain⟨t,rfl⟩:=r;exact⟨_,_,kitx_int,trivial,nofun,fin _ (.tail _ (.tail _ (.head _))) (C8 (fun ξ=>rfl) rfl rfl rfl rfl)⟩
 | str y=>obtain⟨t,rfl⟩:=r;exact⟨_,_,kitx_str,trivial,nofun,fin _ (.tail _ (.tail _ (.tail _ (.head _)))) (C8 (fun ξ=>rfl) rfl rfl rfl rfl)⟩
 | tup ys =>
  obtain⟨a,o,items,n,rfl,g,k,d,l,rs⟩:=r.tupR
  exact⟨_,_,kitx_tuple,⟨_,g,k⟩,nofun,fin _ (.tail _ (.tail _ (.tail _ (.tail _ (.head _))))) (C8 (fun ξ=>rfl) rfl rfl rfl rfl)⟩
 | ref a =>
  cases r
  cases ha:H a with
  | none=>cases c0 <;> (have h0:=h0;simp only[GH,EL,NM,ha,ob1] at h0;cases h0)
  | some ob =>
   cases ob with
   | list xs =>
    obtain⟨_,it,n,g,_⟩:=S.heap _ _ ha
    exact⟨_,_,kitx_list,⟨_,g,rfl⟩,nofun,fin _ (.tail _ (.tail _ (.tail _ (.tail _ (.tail _ (.head _)))))) (C8 (fun ξ=>rfl) (Cg ha) (Cg ha) (Cg ha) (Cg ha))⟩
   | dict xs =>
    obtain⟨_,ys,⟨o,es,ep,g,x,_⟩,_⟩:=S.heap _ _ ha
    exact⟨_,_,kitx_dict,⟨_,g,x.1⟩,nofun,fin _ (.tail _ (.tail _ (.tail _ (.tail _ (.tail _ (.tail _ (.head _))))))) (C8 (fun ξ=>rfl) (Cg ha) (Cg ha) (Cg ha) (Cg ha))⟩
 | ro xs=>cases c0 <;> cases h0
 | exc d =>
  obtain⟨a,C,o,ws,rfl,g,k,dd,q⟩:=r
  refine⟨_,_,Me (T.kcl _ _ q),⟨_,g,k⟩,nofun,fun cc cv b e hv=>?_⟩
  cases hv with
  | own h=>cases e;rw[T.kown _ _ _ _ q h]
  | ty h=>cases cc <;> cases h <;> cases e;exact T.kval _ _ q

theorem Kd {t:Value}{f:Cn→Option Bool}{v:V}{H:Hp} (h:∀cc cv b,GH T.anc H v cc=some b→CnV T cc cv→kitOne T.frag t cv=some b):∀ {cs:List Cn}{vs:List Value}{b:Bool},CnVs T cs vs→Fx T.anc H v cs=some b→kitAny T.frag t vs=some b
 | _,_,b,.nil,e=>by cases e;rfl
 | _,_,b,.cons h1 h2,e=>by
  obtain⟨x,y,e1,e2,rfl⟩:=G5 e
  have k1:=h _ _ _ e1 h1
  have k2:=Kd (f:=f) h h2 e2
  unfold kitAny
  rw[k1]
  cases x with
  | true=>rfl
  | false=>exact k2

theorem Iy {cc:Cn}{y:Expr}{P:Addr→Obj→Prop}{ρ:Loc}{H:Hp}{s:Shared}{E:Value→Shared→Prop}{Q:Value→Shared→Prop} (C:CxOk T c K hd) (S:Sim W c P ρ H s) (m:MCn K cc y) (h:∀cv,CnV T cc cv→Q cv s):wpAny (model W.prog W.w) c.A (eval y c.env) Q E s:=by
 cases m with
 | own e g k =>
  subst e
  obtain⟨D,e1,e2⟩:=T.hcls _ (C.cls▸k)
  exact Bw C S g e1 (h _ (.own e2))
 | ty e1 e2 g =>
  subst e2
  exact AG C S g (T.cns _ _ e1) (h _ (.ty e1))
theorem MCn.star {cc:Cn}{x:Expr}{xs:List Expr}{env:Env} (h:MCn K cc x):starEach (x :: xs) env=(false,eval x env) :: starEach xs env:=by cases h <;> rfl
theorem Kx {P:Addr→Obj→Prop}{ρ:Loc}{H:Hp}{s:Shared}{E:Value→Shared→Prop}{pos:Pos} (C:CxOk T c K hd) (S:Sim W c P ρ H s) {cs:List Cn}{ys:List Expr} (h0:MCns K cs ys):∀ {Q:List Value→Shared→Prop},(∀vs,CnVs T cs vs→Q vs s) →
  wpAny (model W.prog W.w) c.A (spliced (backTo pos (starEach ys c.env))) Q E s:=by
 induction h0 with
 | nil=>intro Q h;exact spliced_nil (h [] .nil)
 | cons m ms ih =>
  intro Q h
  rw[m.star]
  exact spliced_cons (Iy C S m fun cv hv=>ih fun vs hvs=>h _ (.cons hv hvs))

theorem Ni {e cc x y q p} (hG:G.anc=T.anc) (C:CxOk T c K hd) (g:K.gl (Str.ofString "isinstance")=true) (me:Pl x) (h1:SE W c G hd e x) (m:MCn K cc y):SE W c G hd (.isi e [cc]) (.Call (.Name (Str.ofString "isinstance") q) [x,y] [] p):=fun P ρ H s Q X S w=>by
 replace w:=Cq.mp w
 refine wpAny_Call_Name_kw (AG C S g T.isi ?_)
 rw[me.star,m.star]
 refine callWith_builtin rfl (evalArgs_plain (spliced_cons (wpAny_mono (h1 P ρ H s _ X S w) (fun u s₁ hx=>?_) fun ξ ξ x=>x)))
 obtain⟨v,H₁,S₁,r,b,e,q⟩:=hx
 refine spliced_cons (Iy C S₁ m fun cv hv=>spliced_nil ?_)
 rw[hG] at e
 obtain⟨b1,b2,e1,e2,rfl⟩:=G5 (a:=GH T.anc H₁ v cc) (b:=some false) e
 cases e2
 obtain⟨t,Hh,Z,z,nb,k⟩:=Mf S₁ r e1
 exact kia_one Z S₁.frag z (by simpa using k _ _ _ e1 hv) nb fun tk=>⟨_,_,S₁.toks tk,.bool _,q⟩
theorem CnVs.length {cs:List Cn}{vs:List Value} (h0:CnVs T cs vs):vs.length=cs.length:=by
 induction h0 with
 | nil=>rfl
 | cons _ _ ih=>rw[List.length_cons,List.length_cons,ih]
theorem Nh {e cc dd cs x ys k t q p} (hc:cs.length<1000) (hG:G.anc=T.anc) (C:CxOk T c K hd) (g:K.gl (Str.ofString "isinstance")=true) (me:Pl x) (h1:SE W c G hd e x) (m:MCns K (cc :: dd :: cs) ys):SE W c G hd (.isi e (cc :: dd :: cs)) (.Call (.Name (Str.ofString "isinstance") q) [x,.Tuple ys k t] [] p):=fun P ρ H s Q X S w=>by
 replace w:=Cq.mp w
 refine wpAny_Call_Name_kw (AG C S g T.isi ?_)
 rw[me.star]
 refine callWith_builtin rfl (evalArgs_plain (spliced_cons (wpAny_mono (h1 P ρ H s _ X S w) (fun u s₁ hx=>?_) fun ξ ξ x=>x)))
 obtain⟨v,H₁,S₁,r,b,e,q⟩:=hx
 refine spliced_cons ?_
 show wpAny _ _ (do standAt t;newTuple (←spliced (backTo t (starEach ys c.env)))) _ _ s₁
 refine wpAny_bind (wpAny_standAt (wpAny_bind (Kx C S₁ m fun vs hvs=>?_)))
 rw[hG] at e
 have hlen:=hvs.length
 have e0:∃b0,GH T.anc H₁ v cc=some b0:=by
  obtain⟨b1,_,e1,_⟩:=G5 (a:=GH T.anc H₁ v cc) (b:=Fx T.anc H₁ v (dd :: cs)) e
  exact⟨b1,e1⟩
 obtain⟨b0,e0⟩:=e0
 refine wpAny_newObj_type (spliced_nil ?_) ?_
 ·have hk:∀b o,s₁.heap.get? b=some o→(s₁.heap.push { cls:=.type "tuple",data:=.seq vs.toArray }).get? b=some o:=fun b o e=>Heap.get?_push_of_some _ e
  have S₂:Sim W c P ρ H₁ { s₁ with heap:=s₁.heap.push { cls:=.type "tuple",data:=.seq vs.toArray } }:=S₁.grow (tk:=s₁.toks) hk
  obtain⟨t,Hh,Z,z,nb,kk⟩:=Mf S₂ (r.mono (.of_keeps hk)) e0
  exact kia_tup (s:={ s₁ with heap:=s₁.heap.push { cls:=.type "tuple",data:=.seq vs.toArray } }) Z S₂.frag z (Heap.get?_push_size _ rfl) (Kd (f:=fun ξ=>none) kk hvs e) nb fun tk=>⟨_,_,S₂.toks tk,.bool _,q⟩
 ·show vs.toArray.size≤sizeLine
  rw[List.size_toArray,hlen,sizeLine_eq];simp only[List.length_cons];exact lA [] [_] (.a (.a (.n 0) (.c 1)) (.c 1)) (.c 16777216) [.B (.n 0) (.c 1000)] [1,1] rfl hc
end
end Mine.Internal
end

section
namespace Mine.Internal
open PySem PySem.W PyProof.Rows

noncomputable def kOk {α:Type} (lt:Nat→Nat→Bool) (n:Nat):KasT α→(α→Prop)→Prop
 | .ret a,Q=>Q a
 | .ask i j k,Q=>i<n∧j<n∧kOk lt n (k (lt i j)) Q
theorem Dj {α β:Type}{lt:Nat→Nat→Bool}{n:Nat}{f:α→KasT β}{Q:β→Prop}:∀ {t:KasT α},kOk lt n t (fun a=>kOk lt n (f a) Q)→kOk lt n (t.bind f) Q
 | .ret a,h=>h
 | .ask i j k,⟨h1,h2,h⟩=>⟨h1,h2,Dj h⟩
theorem C3 {α:Type}{lt:Nat→Nat→Bool}{n:Nat}{Q Q':α→Prop} (hq:∀a,Q a→Q' a):∀ {t:KasT α},kOk lt n t Q→kOk lt n t Q'
 | .ret a,h=>hq a h
 | .ask i j k,⟨h1,h2,h⟩=>⟨h1,h2,C3 hq h⟩
theorem Mj {α:Type}{lt:Nat→Nat→Bool}{n:Nat}{cmp:Nat→Nat→(Bool→Shared→Prop)→Shared→Prop}{s:Shared}{Q:α→Shared→Prop} (hc:∀i j C,i<n→j<n→C (lt i j) s→cmp i j C s) :
  ∀ {t:KasT α},kOk lt n t (fun a=>Q a s)→t.kasWp cmp Q s
 | .ret a,h=>h
 | .ask i j k,⟨h1,h2,h⟩=>hc i j _ h1 h2 (Mj hc h)

section
variable {key:Nat→Int}{n:Nat}
noncomputable def KK' (key:Nat→Int) (p:Array Nat) (i:Nat):Int:=key (p.getD i 0)
noncomputable def BG (p:Array Nat) (n:Nat):Prop:=p.toList.Perm (List.range n)
theorem BG.size {p:Array Nat} (h:BG p n):p.size=n:=by have:=h.length_eq;simpa using this
theorem BG.lt {p:Array Nat} (h:BG p n) {i:Nat} (hi:i<n):p.getD i 0<n:=by
 have hs:=h.size
 have e:p.getD i 0=p[i]'(by omega):=by simp [Array.getD,show i<p.size by omega]
 rw[e]
 have m:p[i]'(by omega)∈p.toList:=by simp
 simpa using h.mem_iff.mp m
theorem BG.inj {p:Array Nat} (h:BG p n) {i j:Nat} (hi:i<n) (hj:j<n) (e:p.getD i 0=p.getD j 0):i=j:=by
 have hs:=h.size
 have hn:p.toList.Nodup:=h.nodup_iff.mpr List.nodup_range
 have e1:p.getD i 0=p.toList[i]'(by simp;exact lB [] [_,_,_] (.n 0) (.n 1) [.B (.n 0) (.n 2),.E (.n 1) (.n 2)] [1,1,-1] rfl hi hs):=by simp [Array.getD,show i<p.size by exact lB [] [_,_,_] (.n 0) (.n 1) [.B (.n 0) (.n 2),.E (.n 1) (.n 2)] [1,1,-1] rfl hi hs]
 have e2:p.getD j 0=p.toList[j]'(by simp;exact lB [] [_,_,_] (.n 0) (.n 1) [.B (.n 0) (.n 2),.E (.n 1) (.n 2)] [1,1,-1] rfl hj hs):=by simp [Array.getD,show j<p.size by exact lB [] [_,_,_] (.n 0) (.n 1) [.B (.n 0) (.n 2),.E (.n 1) (.n 2)] [1,1,-1] rfl hj hs]
 rw[e1,e2] at e
 exact (List.getElem_inj hn).mp e
noncomputable def Srt (key:Nat→Int) (p:Array Nat) (m:Nat):Prop:=∀i j,i≤j→j<m→KK' key p i≤KK' key p j
noncomputable def Dec (key:Nat→Int) (p:Array Nat) (m:Nat):Prop:=∀i j,i≤j→j<m→KK' key p j≤KK' key p i
theorem O5 {p:Array Nat} (hk:∀i j,i<n→j<n→key i=key j→i=j) (h:BG p n) {i j:Nat} (hi:i<n) (hj:j<n) (q:i≠j):KK' key p i≠KK' key p j:=fun e=>q (h.inj hi hj (hk _ _ (h.lt hi) (h.lt hj) e))
noncomputable abbrev ltK (key:Nat→Int):Nat→Nat→Bool:=fun i j=>decide (key i<key j)

theorem Mi {p:Array Nat} (h:BG p n):∀(f m:Nat),1≤m→m+f≤n→Srt key p m→kOk (ltK key) n (kas_asc p f m) (fun m'=>m≤m'∧m'≤m+f∧Srt key p m'∧(m'<m+f→KK' key p m'<KK' key p (m'-1)))
 | 0,m,h1,h2,hs=>⟨Nat.le_refl _,Nat.le_refl _,hs,fun q=>absurd q (Nat.lt_irrefl _)⟩
 | f+1,m,h1,h2,hs=>by
  refine⟨h.lt (by exact lB [] [_,_,_] (.n 0) (.n 1) [.L (.a (.n 0) (.a (.n 2) (.c 1))) (.n 1)] [1,1] rfl h2),h.lt (by exact lB [] [_,_,_,_] (.n 0) (.n 1) [.L (.a (.n 2) (.a (.n 3) (.c 1))) (.n 1),.L (.n 0) (.n 2)] [1,1,1] rfl h2 (ns0 (a:=m) (b:=1))),?_⟩
  by_cases c:key (p.getD m 0)<key (p.getD (m-1) 0)
  ·simp only[ltK,decide_eq_true c,if_true];exact⟨Nat.le_refl _,by exact lA [] [_,_] (.n 0) (.a (.n 0) (.a (.n 1) (.c 1))) [] [1] rfl,hs,fun ξ=>c⟩
  ·simp only[ltK,decide_eq_false c,Bool.false_eq_true,if_false]
   refine C3 (fun m' ⟨a1,a2,a3,a4⟩=>⟨by exact lA [] [_,_] (.n 0) (.n 1) [.L (.a (.n 0) (.c 1)) (.n 1)] [1,1] rfl a1,by exact lA [] [_,_,_] (.n 0) (.a (.n 1) (.a (.n 2) (.c 1))) [.L (.n 0) (.a (.a (.n 1) (.c 1)) (.n 2))] [1,1] rfl a2,a3,fun q=>a4 (by exact lB [] [_,_,_] (.n 0) (.a (.a (.n 1) (.c 1)) (.n 2)) [.B (.n 0) (.a (.n 1) (.a (.n 2) (.c 1)))] [1,1] rfl q)⟩) (Mi h f (m+1) (by exact lA [] [_] (.c 1) (.a (.n 0) (.c 1)) [.L (.c 1) (.n 0)] [1,1] rfl h1) (by exact lA [] [_,_,_] (.a (.a (.n 0) (.c 1)) (.n 1)) (.n 2) [.L (.a (.n 0) (.a (.n 1) (.c 1))) (.n 2)] [1,1] rfl h2) fun i j hij hj=>?_)
   by_cases q:j<m
   ·exact hs i j hij q
   ·have e:j=m:=by exact lQ [] [_,_] (.n 0) (.n 1) [.L (.n 1) (.n 0),.B (.n 0) (.a (.n 1) (.c 1))] [1,1,0] [1,0,1] rfl (Nat.not_lt.mp q) hj
    subst e
    by_cases q2:i=j
    ·subst q2;exact Int.le_refl _
    ·have:=hs i (j-1) (Nat.le_sub_one_of_lt (Nat.lt_of_le_of_ne hij q2)) (by exact lB [] [_,_] (.n 0) (.n 1) [.E (.a (.n 0) (.c 1)) (.n 1)] [1,1] rfl (nsE (a:=j) (b:=1) (h1)))
     unfold KK' at this ⊢;exact la [_,_,_] [] (.v 0) (.v 1) [.l (.v 2) (.v 1),.l (.v 0) (.v 2)] [1,1,1] rfl (Int.not_lt.mp c) this
theorem Mh {p:Array Nat} (hk:∀i j,i<n→j<n→key i=key j→i=j) (h:BG p n):∀(f m:Nat),1≤m→m+f≤n→Dec key p m→kOk (ltK key) n (kas_desc f p m 0) (fun r=>r.1=p∧r.2.2=0∧m≤r.2.1∧r.2.1≤m+f∧Dec key p r.2.1)
 | 0,m,h1,h2,hs=>⟨rfl,rfl,Nat.le_refl _,Nat.le_refl _,hs⟩
 | f+1,m,h1,h2,hs=>by
  refine⟨h.lt (by exact lB [] [_,_,_] (.n 0) (.n 1) [.L (.a (.n 0) (.a (.n 2) (.c 1))) (.n 1)] [1,1] rfl h2),h.lt (by exact lB [] [_,_,_,_] (.n 0) (.n 1) [.L (.a (.n 2) (.a (.n 3) (.c 1))) (.n 1),.L (.n 0) (.n 2)] [1,1,1] rfl h2 (ns0 (a:=m) (b:=1))),?_⟩
  by_cases c:key (p.getD m 0)<key (p.getD (m-1) 0)
  ·simp only[ltK,decide_eq_true c,if_true,Nat.lt_irrefl,if_false,gt_iff_lt]
   refine C3 (fun m' ⟨a0,a1,a2,a3,a4⟩=>⟨a0,a1,by exact lA [] [_,_] (.n 0) (.n 1) [.L (.a (.n 0) (.c 1)) (.n 1)] [1,1] rfl a2,by exact lA [] [_,_,_] (.n 0) (.a (.n 1) (.a (.n 2) (.c 1))) [.L (.n 0) (.a (.a (.n 1) (.c 1)) (.n 2))] [1,1] rfl a3,a4⟩) (Mh hk h f (m+1) (by exact lA [] [_] (.c 1) (.a (.n 0) (.c 1)) [.L (.c 1) (.n 0)] [1,1] rfl h1) (by exact lA [] [_,_,_] (.a (.a (.n 0) (.c 1)) (.n 1)) (.n 2) [.L (.a (.n 0) (.a (.n 1) (.c 1))) (.n 2)] [1,1] rfl h2) fun i j hij hj=>?_)
   by_cases q:j<m
   ·exact hs i j hij q
   ·have e:j=m:=by exact lQ [] [_,_] (.n 0) (.n 1) [.L (.n 1) (.n 0),.B (.n 0) (.a (.n 1) (.c 1))] [1,1,0] [1,0,1] rfl (Nat.not_lt.mp q) hj
    subst e
    by_cases q2:i=j
    ·subst q2;exact Int.le_refl _
    ·have:=hs i (j-1) (Nat.le_sub_one_of_lt (Nat.lt_of_le_of_ne hij q2)) (by exact lB [] [_,_] (.n 0) (.n 1) [.E (.a (.n 0) (.c 1)) (.n 1)] [1,1] rfl (nsE (a:=j) (b:=1) (h1)))
     unfold KK' at this ⊢;exact la [_,_,_] [] (.v 0) (.v 1) [.b (.v 0) (.v 2),.l (.v 2) (.v 1)] [1,1,1] rfl c this
  ·simp only[ltK,decide_eq_false c,Bool.false_eq_true,if_false]
   refine⟨h.lt (by exact lB [] [_,_,_,_] (.n 0) (.n 1) [.L (.a (.n 2) (.a (.n 3) (.c 1))) (.n 1),.L (.n 0) (.n 2)] [1,1,1] rfl h2 (ns0 (a:=m) (b:=1))),h.lt (by exact lB [] [_,_,_] (.n 0) (.n 1) [.L (.a (.n 0) (.a (.n 2) (.c 1))) (.n 1)] [1,1] rfl h2),?_⟩
   have c2:key (p.getD (m-1) 0)<key (p.getD m 0):=by
    have:=O5 hk h (i:=m-1) (j:=m) (by exact lB [] [_,_,_,_] (.n 0) (.n 1) [.L (.a (.n 2) (.a (.n 3) (.c 1))) (.n 1),.L (.n 0) (.n 2)] [1,1,1] rfl h2 (ns0 (a:=m) (b:=1))) (by exact lB [] [_,_,_] (.n 0) (.n 1) [.L (.a (.n 0) (.a (.n 2) (.c 1))) (.n 1)] [1,1] rfl h2) (by exact lf [] [_,_] [.E (.a (.n 0) (.c 1)) (.n 1),.E (.n 0) (.n 1)] [1,-1] rfl (nsE (a:=m) (b:=1) (h1)))
    exact Int.lt_iff_le_and_ne.mpr ⟨Int.not_lt.mp c,this⟩
   simp only[decide_eq_true c2,if_true]
   exact⟨rfl,rfl,Nat.le_refl _,by show m≤m+(f+1);exact lA [] [_,_] (.n 0) (.a (.n 0) (.a (.n 1) (.c 1))) [] [1] rfl,hs⟩
theorem K3 {p:Array Nat}{m k:Nat} (hm:m≤p.size):(kas_rev p 0 m).getD k 0=if k<m then p.getD (m-1-k) 0 else p.getD k 0:=by
 have e:=getElem?_mirror_all (xs:=p) (i:=0) (j:=m) hm k
 unfold kas_rev
 rw[Array.getD_eq_getD_getElem?,e]
 by_cases q:k<m
 ·rw[if_pos ⟨Nat.zero_le _,q⟩,if_pos q,Array.getD_eq_getD_getElem?];simp
 ·rw[if_neg (by omega),if_neg q,Array.getD_eq_getD_getElem?]
theorem IB {p:Array Nat}{m:Nat} (h:BG p n):BG (kas_rev p 0 m) n:=((mirror_perm p 0 m _).toList).trans h
theorem NB {p:Array Nat}{m:Nat} (h:BG p n) (h1:1≤m) (h2:m≤n) (hd:Dec key p m):kOk (ltK key) n (kas_tail3 m n p) (fun r=>1≤r.1∧r.1≤n∧BG r.2 n∧Srt key r.2 r.1):=by
 refine Dj (C3 (fun m' ⟨a1,a2,a3,_⟩=>⟨by show 1≤m';exact lA [] [_,_] (.c 1) (.n 0) [.L (.c 1) (.n 1),.L (.n 1) (.n 0)] [1,1,1] rfl h1 a1,by show m'≤n;exact lA [] [_,_,_,_] (.n 0) (.n 1) [.L (.n 0) (.a (.n 2) (.n 3)),.E (.a (.n 3) (.n 2)) (.n 1)] [1,1,1] rfl a2 (nsE (a:=n) (b:=m) (h2)),IB h,a3⟩) (Mi (IB h) (n-m) m h1 (by exact lA [] [_,_,_] (.a (.n 0) (.n 1)) (.n 2) [.E (.a (.n 1) (.n 0)) (.n 2)] [1,1] rfl (nsE (a:=n) (b:=m) (h2))) fun i j hij hj=>?_))
 unfold KK'
 rw[K3 (by rw[h.size];exact h2),K3 (by rw[h.size];exact h2),if_pos (by exact lB [] [_,_,_] (.n 0) (.n 1) [.L (.n 0) (.n 2),.B (.n 2) (.n 1)] [1,1,1] rfl hij hj),if_pos hj]
 exact hd _ _ (by exact lA [] [_,_,_,_,_] (.n 0) (.n 1) [.L (.n 2) (.n 3),.E (.a (.n 1) (.n 2)) (.n 4),.E (.a (.n 0) (.n 3)) (.n 4)] [1,1,-1,1] rfl hij (nsE (a:=m-1) (b:=i) (lA [] [_,_,_,_] (.n 0) (.n 1) [.L (.n 0) (.n 2),.B (.n 2) (.n 3),.L (.n 3) (.a (.n 1) (.c 1))] [1,1,1,1] rfl hij hj (ns1 (a:=m) (b:=1)))) (nsE (a:=m-1) (b:=j) (lA [] [_,_,_] (.n 0) (.n 1) [.B (.n 0) (.n 2),.L (.n 2) (.a (.n 1) (.c 1))] [1,1,1] rfl hj (ns1 (a:=m) (b:=1))))) (by exact lB [] [_,_,_] (.n 0) (.n 1) [.E (.a (.n 2) (.c 1)) (.n 1),.L (.n 0) (.n 2)] [1,1,1] rfl (nsE (a:=m) (b:=1) (h1)) (ns0 (a:=m-1) (b:=i)))
theorem NC {p:Array Nat} (hk:∀i j,i<n→j<n→key i=key j→i=j) (h:BG p n) (h1:1≤n):kOk (ltK key) n (kas_count n p) (fun r=>1≤r.1∧r.1≤n∧BG r.2 n∧Srt key r.2 r.1):=by
 have ha:=Mi (key:=key) h (n-1) 1 (Nat.le_refl _) (by exact lA [] [_,_] (.a (.c 1) (.n 0)) (.n 1) [.E (.a (.n 0) (.c 1)) (.n 1)] [1,1] rfl (nsE (a:=n) (b:=1) (h1))) fun i j hij hj=>by
  have:i=j:=by exact lQ [] [_,_] (.n 0) (.n 1) [.B (.n 1) (.c 1),.L (.n 0) (.n 1)] [1,1,0] [1,0,1] rfl hj hij
  subst this;exact Int.le_refl _
 refine Dj (C3 (fun m ⟨a1,a2,a3,a4⟩=>?_) ha)
 ·have a2o:=a2
  rw[Nat.add_sub_cancel' h1] at a2 a4
  by_cases q:(m == n)=true
  ·rw[if_pos q];exact⟨a1,a2,h,a3⟩
  ·rw[if_neg q]
   have q:m≠n:=by simpa using q
   by_cases q2:m > 1
   ·rw[if_pos q2]
    refine⟨h.lt (by exact lB [] [_] (.c 0) (.n 0) [.L (.c 1) (.n 0)] [1,1] rfl h1),h.lt (by exact lB [] [_,_,_,_] (.n 0) (.n 1) [.L (.n 2) (.a (.c 1) (.n 3)),.E (.a (.n 0) (.c 1)) (.n 2),.E (.a (.n 3) (.c 1)) (.n 1)] [1,1,1,1] rfl a2o (nsE (a:=m) (b:=1) (a1)) (nsE (a:=n) (b:=1) (h1))),?_⟩
    have c2:key (p.getD 0 0)<key (p.getD (m-1) 0):=by
     have:=O5 hk h (i:=0) (j:=m-1) (by exact lB [] [_] (.c 0) (.n 0) [.L (.c 1) (.n 0)] [1,1] rfl h1) (by exact lB [] [_,_,_,_] (.n 0) (.n 1) [.L (.n 2) (.a (.c 1) (.n 3)),.E (.a (.n 0) (.c 1)) (.n 2),.E (.a (.n 3) (.c 1)) (.n 1)] [1,1,1,1] rfl a2o (nsE (a:=m) (b:=1) (a1)) (nsE (a:=n) (b:=1) (h1))) (by exact lf [] [_,_] [.B (.c 1) (.n 0),.L (.n 0) (.a (.n 1) (.c 1)),.E (.c 0) (.n 1)] [1,1,-1] rfl q2 (ns1 (a:=m) (b:=1)))
     have:=a3 0 (m-1) (by exact lA [] [_] (.c 0) (.n 0) [] [1] rfl) (by exact lB [] [_,_] (.n 0) (.n 1) [.E (.a (.n 0) (.c 1)) (.n 1)] [1,1] rfl (nsE (a:=m) (b:=1) (a1)))
     unfold KK' at *;exact Int.lt_iff_le_and_ne.mpr ⟨by assumption,by assumption⟩
    simp only[ltK,decide_eq_true c2,if_true]
    exact⟨a1,a2,h,a3⟩
   ·rw[if_neg q2]
    have e:m=1:=by exact lQ [] [_] (.n 0) (.c 1) [.L (.c 1) (.n 0),.L (.n 0) (.c 1)] [1,1,0] [1,0,1] rfl a1 (Nat.not_lt.mp q2)
    subst e
    have hn2:1+1≤n:=Nat.lt_of_le_of_ne a2 q
    have hd:=Mh hk h (n-(1+1)) (1+1) (by exact lA [] [] (.c 1) (.a (.c 1) (.c 1)) [] [1] rfl) (Nat.le_of_eq (Nat.add_sub_cancel' hn2)) fun i j hij hj=>by
     have h4:KK' key p 1<KK' key p 0:=a4 hn2
     have e:(j=0∨j=1):=(Nat.lt_or_ge j 1).elim (fun h=>.inl (Nat.lt_one_iff.mp h)) fun h=>.inr (Nat.le_antisymm (Nat.le_of_lt_succ hj) h)
     rcases e with rfl | rfl
     ·have:i=0:=by exact lQ [] [_] (.n 0) (.c 0) [.L (.n 0) (.c 0)] [1,0] [1,1] rfl hij
      subst this;exact Int.le_refl _
     ·by_cases q:i=1
      ·subst q;exact Int.le_refl _
      ·have:i=0:=Nat.lt_one_iff.mp (Nat.lt_of_le_of_ne hij q)
       subst this
       exact la [_,_] [] (.v 0) (.v 1) [.b (.v 0) (.v 1)] [1,1] rfl h4
    refine Dj (C3 (fun r ⟨b0,b1,b2,b3,b4⟩=>?_) hd)
    rw[if_neg (by exact lf [] [_] [.E (.n 0) (.c 0),.B (.c 0) (.n 0)] [1,1] rfl b1),b0]
    exact NB h (by exact lA [] [_] (.c 1) (.n 0) [.L (.a (.c 1) (.c 1)) (.n 0)] [1,1] rfl b2) (Nat.add_sub_cancel' hn2▸b3) b4

theorem HS {p:Array Nat} (h:BG p n) {k:Nat} (hkn:k<n) (hs:Srt key p k):∀(f l r:Nat),l≤r→r≤k→r-l≤f→(∀i,i<l→KK' key p i≤KK' key p k)→(∀i,r≤i→i<k→KK' key p k<KK' key p i) →
  kOk (ltK key) n (kas_place p k f l r) (fun l'=>l'≤k∧(∀i,i<l'→KK' key p i≤KK' key p k)∧(∀i,l'≤i→i<k→KK' key p k<KK' key p i))
 | 0,l,r,h1,h2,h3,a,b=>⟨by exact lA [] [_,_,_] (.n 0) (.n 1) [.L (.n 0) (.n 2),.L (.n 2) (.n 1)] [1,1,1] rfl h1 h2,a,fun i hi=>b i (by exact lA [] [_,_,_,_] (.n 0) (.n 1) [.L (.n 2) (.c 0),.L (.n 3) (.n 1),.L (.n 0) (.a (.n 2) (.n 3))] [1,1,1,1] rfl h3 hi (ns1 (a:=r) (b:=l)))⟩
 | f+1,l,r,h1,h2,h3,a,b=>by
  unfold kas_place
  by_cases q:l ≥ r
  ·rw[if_pos q];exact⟨by exact lA [] [_,_,_] (.n 0) (.n 1) [.L (.n 0) (.n 2),.L (.n 2) (.n 1)] [1,1,1] rfl h1 h2,a,fun i hi=>b i (by exact lA [] [_,_,_] (.n 0) (.n 1) [.L (.n 0) (.n 2),.L (.n 2) (.n 1)] [1,1,1] rfl q hi)⟩
  ·rw[if_neg q]
   refine⟨h.lt hkn,h.lt (by exact lB [] [_,_,_,_,_] (.n 0) (.n 1) [.B (.n 2) (.n 1),.L (.n 3) (.n 4),.L (.n 4) (.n 2),.L (.m 2 (.n 0)) (.a (.n 3) (.n 4))] [2,2,1,2,1] rfl hkn h1 h2 (nd0 2)),?_⟩
   by_cases c:key (p.getD k 0)<key (p.getD ((l+r) / 2) 0)
   ·simp only[ltK,decide_eq_true c,if_true]
    refine HS h hkn hs f l ((l+r) / 2) (by exact lA [] [_,_,_] (.n 0) (.n 1) [.L (.n 0) (.n 2),.B (.a (.n 0) (.n 2)) (.a (.m 2 (.n 1)) (.c 2))] [2,1,1] rfl h1 (nd1 2 rfl)) (by exact lA [] [_,_,_,_] (.n 0) (.n 1) [.L (.n 2) (.n 3),.L (.n 3) (.n 1),.L (.m 2 (.n 0)) (.a (.n 2) (.n 3))] [2,1,2,1] rfl h1 h2 (nd0 2)) (by exact lA [] [_,_,_,_,_,_] (.n 0) (.n 1) [.L (.n 2) (.a (.n 1) (.c 1)),.B (.n 3) (.n 4),.E (.a (.n 0) (.n 3)) (.n 5),.E (.a (.n 2) (.n 3)) (.n 4),.L (.m 2 (.n 5)) (.a (.n 3) (.n 4))] [2,1,0,2,-1,1] rfl h3 (Nat.not_le.mp q) (nsE (a:=(l+r) / 2) (b:=l) (lA [] [_,_,_] (.n 0) (.n 1) [.L (.n 0) (.n 2),.B (.a (.n 0) (.n 2)) (.a (.m 2 (.n 1)) (.c 2))] [2,1,1] rfl h1 (nd1 2 rfl))) (nsE (a:=r) (b:=l) (h1)) (nd0 2)) a fun i hi1 hi2=>?_
    have:=hs ((l+r) / 2) i hi1 hi2
    unfold KK' at *;exact lb [_,_,_] [] (.v 0) (.v 1) [.b (.v 0) (.v 2),.l (.v 2) (.v 1)] [1,1,1] rfl c this
   ·simp only[ltK,decide_eq_false c,Bool.false_eq_true,if_false]
    refine HS h hkn hs f ((l+r) / 2+1) r (by exact lA [] [_,_,_] (.a (.n 0) (.c 1)) (.n 1) [.B (.n 2) (.n 1),.L (.m 2 (.n 0)) (.a (.n 2) (.n 1))] [2,1,1] rfl (Nat.not_le.mp q) (nd0 2)) h2 (by exact lA [] [_,_,_,_,_,_] (.n 0) (.n 1) [.L (.n 2) (.n 3),.L (.n 4) (.a (.n 1) (.c 1)),.E (.a (.n 0) (.a (.n 5) (.c 1))) (.n 3),.E (.a (.n 4) (.n 2)) (.n 3),.B (.a (.n 2) (.n 3)) (.a (.m 2 (.n 5)) (.c 2))] [2,1,2,2,-2,1] rfl h1 h3 (nsE (a:=r) (b:=(l+r) / 2+1) (lA [] [_,_,_] (.a (.n 0) (.c 1)) (.n 1) [.B (.n 2) (.n 1),.L (.m 2 (.n 0)) (.a (.n 2) (.n 1))] [2,1,1] rfl (Nat.not_le.mp q) (nd0 2))) (nsE (a:=r) (b:=l) (h1)) (nd1 2 rfl)) (fun i hi=>?_) b
    have:=hs i ((l+r) / 2) (by exact lA [] [_,_] (.n 0) (.n 1) [.B (.n 0) (.a (.n 1) (.c 1))] [1,1] rfl hi) (by exact lB [] [_,_,_,_] (.n 0) (.n 1) [.L (.n 2) (.n 1),.B (.n 3) (.n 2),.L (.m 2 (.n 0)) (.a (.n 3) (.n 2))] [2,2,1,1] rfl h2 (Nat.not_le.mp q) (nd0 2))
    unfold KK' at *;exact la [_,_,_] [] (.v 0) (.v 1) [.l (.v 2) (.v 1),.l (.v 0) (.v 2)] [1,1,1] rfl (Int.not_lt.mp c) this
theorem Kl {p:Array Nat}{k l i:Nat} (hk:k<p.size) (hl:l≤k):(bubble p k (k-l)).getD i 0=if i=l then p.getD k 0 else if l<i∧i≤k then p.getD (i-1) 0 else p.getD i 0:=by
 have e:=getElem?_bubble hk (k-l) (by exact lA [] [_,_] (.n 0) (.n 1) [.L (.n 0) (.n 1)] [1,1] rfl (ns0 (a:=k) (b:=l))) i
 rw[show k-(k-l)=l by exact lQ [] [_,_,_,_] (.n 0) (.n 1) [.E (.a (.n 0) (.n 2)) (.n 3),.E (.a (.n 2) (.n 1)) (.n 3)] [1,-1,1] [1,1,-1] rfl (nsE (a:=k) (b:=k-l) (lA [] [_,_] (.n 0) (.n 1) [.L (.n 0) (.n 1)] [1,1] rfl (ns0 (a:=k) (b:=l)))) (nsE (a:=k) (b:=l) (hl))] at e
 rw[Array.getD_eq_getD_getElem?,e]
 by_cases q:i=l
 ·rw[if_pos q,if_pos q,Array.getD_eq_getD_getElem?]
 ·rw[if_neg q,if_neg q]
  by_cases q2:l<i∧i≤k
  ·rw[if_pos q2,if_pos q2,Array.getD_eq_getD_getElem?]
  ·rw[if_neg q2,if_neg q2,Array.getD_eq_getD_getElem?]
theorem O6:∀(f:Nat) (p:Array Nat) (k:Nat),BG p n→k+f=n→Srt key p k→kOk (ltK key) n (kas_bin f p k) (fun p'=>BG p' n∧Srt key p' n)
 | 0,p,k,h,e,hs=>⟨h,by rw[←e];exact hs⟩
 | f+1,p,k,h,e,hs=>by
  refine Dj (C3 (fun l ⟨a1,a2,a3⟩=>?_) (HS h (by exact lB [] [_,_,_] (.n 0) (.n 1) [.E (.a (.n 0) (.a (.n 2) (.c 1))) (.n 1)] [1,1] rfl e) hs k 0 k (Nat.zero_le _) (Nat.le_refl _) (by exact lA [] [_,_] (.n 0) (.n 1) [.L (.n 0) (.n 1)] [1,1] rfl (ns0 (a:=k) (b:=0))) (fun i hi=>absurd hi (Nat.not_lt_zero _)) fun i h1 h2=>by exact lb [_,_] [_,_] (.v 0) (.v 1) [.L (.n 0) (.n 1),.B (.n 1) (.n 0)] [0,1,1] rfl h1 h2))
  have hsz:=h.size
  refine O6 f _ (k+1) ((bubble_perm p k (k-l)).toList.trans h) (by exact lQ [] [_,_,_] (.a (.a (.n 0) (.c 1)) (.n 1)) (.n 2) [.E (.a (.n 0) (.a (.n 1) (.c 1))) (.n 2)] [1,-1] [1,1] rfl e) fun i j hij hj=>?_
  unfold KK'
  rw[Kl (by exact lB [] [_,_,_,_] (.n 0) (.n 1) [.E (.a (.n 0) (.a (.n 2) (.c 1))) (.n 3),.E (.n 1) (.n 3)] [1,1,-1] rfl e hsz) a1,Kl (by exact lB [] [_,_,_,_] (.n 0) (.n 1) [.E (.a (.n 0) (.a (.n 2) (.c 1))) (.n 3),.E (.n 1) (.n 3)] [1,1,-1] rfl e hsz) a1]
  unfold KK' Srt at *
  by_cases i1:i=l
  ·rw[if_pos i1]
   by_cases j1:j=l
   ·rw[if_pos j1];exact Int.le_refl _
   ·have hlj:l<j:=Nat.lt_of_le_of_ne (i1▸hij) fun z=>j1 z.symm
    have hjk:j≤k:=Nat.le_of_lt_succ hj
    rw[if_neg j1,if_pos ⟨hlj,hjk⟩]
    exact Int.le_of_lt (a3 _ (Nat.le_sub_one_of_lt hlj) (Nat.lt_of_lt_of_le (Nat.sub_lt (Nat.lt_of_le_of_lt (Nat.zero_le _) hlj) Nat.one_pos) hjk))
  ·rw[if_neg i1]
   by_cases i2:l<i∧i≤k
   ·rw[if_pos i2]
    rw[if_neg (by exact lf [] [_,_,_] [.L (.n 0) (.n 1),.B (.n 2) (.n 0),.E (.n 1) (.n 2)] [1,1,1] rfl hij i2.1),if_pos (by exact⟨lB [] [_,_,_] (.n 0) (.n 1) [.L (.n 2) (.n 1),.B (.n 0) (.n 2)] [1,1,1] rfl hij i2.1,lA [] [_,_] (.n 0) (.n 1) [.B (.n 0) (.a (.n 1) (.c 1))] [1,1] rfl hj⟩)]
    exact hs _ _ (by exact lA [] [_,_,_,_] (.n 0) (.n 1) [.L (.n 2) (.n 3),.E (.a (.n 1) (.c 1)) (.n 3),.E (.a (.n 0) (.c 1)) (.n 2)] [1,1,-1,1] rfl hij (nsE (a:=j) (b:=1) (lA [] [_,_,_] (.c 1) (.n 0) [.L (.n 1) (.n 0),.B (.n 2) (.n 1)] [1,1,1] rfl hij i2.1)) (nsE (a:=i) (b:=1) (lA [] [_,_] (.c 1) (.n 0) [.B (.n 1) (.n 0)] [1,1] rfl i2.1))) (by exact lB [] [_,_,_] (.n 0) (.n 1) [.B (.n 2) (.a (.n 1) (.c 1)),.E (.a (.n 0) (.c 1)) (.n 2)] [1,1,1] rfl hj (nsE (a:=j) (b:=1) (lA [] [_,_,_] (.c 1) (.n 0) [.L (.n 1) (.n 0),.B (.n 2) (.n 1)] [1,1,1] rfl hij i2.1)))
   ·have hil:i<l:=Nat.lt_of_le_of_ne (Nat.not_lt.mp fun c=>i2 ⟨c,Nat.le_trans hij (Nat.le_of_lt_succ hj)⟩) i1
    rw[if_neg i2]
    by_cases j1:j=l
    ·rw[if_pos j1];exact a2 _ hil
    ·rw[if_neg j1]
     by_cases j2:l<j∧j≤k
     ·rw[if_pos j2];exact hs _ _ (Nat.le_sub_one_of_lt (Nat.lt_trans hil j2.1)) (by exact lB [] [_,_,_] (.n 0) (.n 1) [.B (.n 2) (.a (.n 1) (.c 1)),.E (.a (.n 0) (.c 1)) (.n 2)] [1,1,1] rfl hj (nsE (a:=j) (b:=1) (lA [] [_,_] (.c 1) (.n 0) [.B (.n 1) (.n 0)] [1,1] rfl j2.1)))
     ·rw[if_neg j2];exact hs _ _ hij (Nat.lt_of_lt_of_le (Nat.lt_of_le_of_ne (Nat.not_lt.mp fun c=>j2 ⟨c,Nat.le_of_lt_succ hj⟩) j1) a1)
theorem ON (hk:∀i j,i<n→j<n→key i=key j→i=j) (h1:1≤n):kOk (ltK key) n (kas_sort n) (fun p'=>BG p' n∧Srt key p' n):=by
 have h:BG (List.toArray (List.range n)) n:=by unfold BG;simp
 refine Dj (C3 (fun r ⟨a1,a2,a3,a4⟩=>?_) (NC hk h h1))
 by_cases q:r.1<n
 ·rw[if_pos q]
  have e:max r.1 1=r.1:=Nat.max_eq_left a1
  rw[e]
  exact O6 _ _ _ a3 (by exact lQ [] [_,_,_] (.a (.n 0) (.n 1)) (.n 2) [.L (.n 2) (.a (.n 1) (.n 0)),.E (.a (.n 1) (.n 0)) (.n 2)] [1,0,-1] [1,0,1] rfl (ns1 (a:=n) (b:=r.fst)) (nsE (a:=n) (b:=r.fst) (a2))) a4
 ·rw[if_neg q]
  have e:r.1=n:=by exact lQ [] [_,_] (.n 0) (.n 1) [.L (.n 1) (.n 0),.L (.n 0) (.n 1)] [1,1,0] [1,0,1] rfl (Nat.not_lt.mp q) a2
  exact⟨a3,e▸a4⟩
end
end Mine.Internal
end

section
namespace Mine.Internal
open PySem PySem.W PySem.Calls PyProof.Rows PySem.SeqAt
section
variable {W:Wd}{c:Cx}{P:Addr→Obj→Prop}{ρ:Loc}{H:Hp}{s:Shared}{Q:V→Hp→Prop}{E:Value→Shared→Prop}

theorem Hi {h:Heap}{vs:List Value}{ns:List Int} (h0:IntsAre vs ns):As W h (ns.map V.int) vs:=by
 induction h0 with
 | nil=>exact .nil
 | cons n t _ ih=>exact .cons (.int _ _) ih

theorem Sim.newN {h':Heap}{tk:Nat}{D:Addr}{it:Array Value}{n:Nat}{m:Str→Option Value}{xs:List V} (S:Sim W c P ρ H s) (hm:s.heap.Ns c.env.locals m) (hv:∀i x v,c.vis i=true→c.names[i]?=some x→ρ[i]?=some (some v)→HasVar W c.env s.heap m (Str.ofString x) v)
  (F:Fr noH c.env.locals h' m) (N:News noH c.env.locals h' ((D,{ cls:=.type "list",data:=.seq it n }) :: GX s.heap c.env.locals)) (hD:∀q∈GX s.heap c.env.locals,q.1<D) (r:KeepR W s.heap h'→As W h' xs it.toList) (h:Bb xs Q H) :
  PE W c P ρ Q (.ref D) { s with heap:=h',toks:=tk }:=by
 have hL:c.env.locals≠D:=fun q=>(N (D,_) (.head _)).2.1 q.symm
 have h0:s.heap.get? D=none:=by
  cases e:s.heap.get? D with
  | none=>rfl
  | some o=>exact absurd (hD (D,o) (DZ.mpr ⟨e,Ne.symm hL⟩)) (Nat.lt_irrefl _)
 have N':News noH c.env.locals h' (GX s.heap c.env.locals):=fun p hp=>N p (.tail _ hp)
 have S':=S.growL (tk:=tk) hm hv F N'
 obtain⟨f1,f2,f3,f4⟩:=S.fresh h0
 have hk:=GW N'
 have kr:KeepR W s.heap h':=by
  obtain⟨oL,esL,epL,eL,dL,kL,fL⟩:=hm
  have nt:∀b o,s.heap.get? b=some o→(∀es n,o.data≠.dict es n)→b≠c.env.locals:=fun b o e d q=>by rw[q,eL] at e;cases e;exact d _ _ dL
  exact⟨fun b o i n e k d ξ=>hk b o (nt b o e (by first | exact Ap d rfl | exact Aq d rfl | (rw[d];exact nofun))) e,fun b o C ws e k d=>⟨o,ws,hk b o (nt b o e (by first | exact Ap d rfl | exact Aq d rfl | (rw[d];exact nofun))) e,k,d⟩⟩
 exact⟨.ref D,_,S'.adopt f1 f2 f3 (Cf h.1 (N _ (.head _)).1 (r kr)),.ref _,h.2 D f4⟩

theorem Kz {D:Addr}{vs:List Value}{ns:List Int}{n:Nat}{Q:Value→Shared→Prop}{A:Around} (ho:s.heap.get? D=some (seqObj "list" vs.toArray n)) (hI:IntsAre vs ns) (h64:vs.length<64)
  (h:∀(out:Array Value) (ns':List Int),IntsAre out.toList ns'→ns'.Perm ns→ns'.Pairwise (·≤·)→Q .none { s with heap:=sortedHeap s.heap D vs out }):wpAny (model W.prog W.w) A (call (.builtin "list.sort") [.ref D]) Q E s :=
 wpAny_call_entry slot_list_sort ⟨_,ho,rfl⟩ entry_list_sort (list_sort_tree ho hI h64 fun out ns' a1 a2 a3=>⟨_,rfl,h out ns' a1 a2 a3⟩) (args_list_sort _)

theorem K8 {h:Heap}{a b:Int}{u:Value} (r:Rep W h (Bo (a,b)) u):∃x o n t t',u=.ref x∧h.get? x=some o∧o.cls=.type "tuple" ∧ o.data=.seq #[.int a t,.int b t'] n:=by
 obtain⟨x,o,items,n,rfl,g,k,d,l,rs⟩:=Rep.tupR (vs:=[.int a,.int b]) r
 obtain⟨u1,u2,e,⟨t,rfl⟩,⟨t',rfl⟩⟩:=rs.two
 have:items=#[.int a t,.int b t']:=Array.toList_inj.mp e
 subst this
 exact⟨x,o,n,t,t',rfl,g,k,d⟩

theorem FV {a:Addr}{vs:List Value}{n:Nat}{P:PySem.Fin→Shared→Prop}{A:Around} (ho:s.heap.get? a=some (seqObj "list" vs.toArray n)) (h2:vs.length<2)
  (h:P (.done (.ret .none)) { s with heap:=sortedHeap s.heap a vs vs.toArray }):wpAny (model W.prog W.w) A (Builtin.«list.sort» ⟨[.ref a],[]⟩) P E s:=by
 rw[list_sort_plain]
 have ha:a<s.heap.objs.size:=Heap.lt_size ho
 have hsz:vs.toArray.size=vs.length:=by simp
 refine wpAny_bind (listItems_at ho rfl ?_)
 refine wpAny_bind (listUpdate_at ho rfl ?_ (by rw[hsz,sizeLine_eq];exact lA [] [_] (.n 0) (.c 16777216) [.B (.n 0) (.c 2)] [1,1] rfl h2) (Nat.zero_le _))
 obtain⟨e1,ho1⟩:∃e1,(s.heap.update a (Obj.mapSeq fun ξ=>#[])).get? a=some (seqObj "list" #[] e1):=⟨_,get?_update_seq ho (fun ξ=>#[])⟩
 refine wpAny_bind (seqEpoch_at ho1 rfl ?_)
 refine wpAny_bind (wpAny_newTuple ?_ (by show vs.length≤_;rw[sizeLine_eq];exact lA [] [_] (.n 0) (.c 16777216) [.B (.n 0) (.c 2)] [1,1] rfl h2))
 refine wpAny_bind (wpAny_newList ?_ (Nat.zero_le _))
 refine wpAny_holding ?_
 have ho6:(((s.heap.update a (Obj.mapSeq fun ξ=>#[])).push (seqObj "tuple" vs.toArray 0)).push (seqObj "list" #[] 0)).get? a=some (seqObj "list" #[] e1):=by
  rw[Heap.get?_push_ne _ _ _ (by rw[size_push',Heap.size_update];exact Nat.ne_of_lt (Nat.lt_succ_of_lt ha)),Heap.get?_push_ne _ _ _ (by rw[Heap.size_update];exact Nat.ne_of_lt ha)]
  exact ho1
 show wpAny (model W.prog W.w) A _ P E { s with heap:=((s.heap.update a (Obj.mapSeq fun ξ=>#[])).push (seqObj "tuple" vs.toArray 0)).push (seqObj "list" #[] 0) }
 dsimp only
 have h2':vs.toArray.size<2:=by rw[hsz];exact h2
 rw[if_pos h2',if_pos h2']
 refine wpAny_bind (wpAny_pure ?_)
 rw[StateT.run_pure]
 refine wpAny_bind (wpAny_pure ?_)
 dsimp only
 have ez:(vs.toArray.zip vs.toArray).map (·.2)=vs.toArray:=by
  apply Array.toList_inj.mp
  simp [List.map_snd_zip]
 refine wpAny_bind (seqEpoch_at ho6 rfl ?_)
 refine wpAny_bind (listUpdate_at ho6 rfl ?_ (Nat.zero_le _) (by show ((vs.toArray.zip vs.toArray).map (·.2)).size≤_;rw[ez,hsz,sizeLine_eq];exact lA [] [_] (.n 0) (.a (.c 16777216) (.c 1)) [.B (.n 0) (.c 2)] [1,1] rfl h2))
 simp only[bne_self_eq_false,Bool.false_eq_true,if_false]
 refine wpAny_pure ?_
 show P _ { s with heap:=(((s.heap.update a (Obj.mapSeq fun ξ=>#[])).push (seqObj "tuple" vs.toArray 0)).push (seqObj "list" #[] 0)).update a (Obj.mapSeq fun ξ=>(vs.toArray.zip vs.toArray).map (·.2)) }
 rw[ez];exact h

theorem HD {l:Addr}{vs:List Value}{Q:Value→Shared→Prop}{A:Around} (hl:s.heap.IsList l vs.toArray) (h2:vs.length<2)
  (h:Q (.ref (s.heap.objs.size+1)) { s with heap:=sortedAll s.heap vs vs.toArray }):wpAny (model W.prog W.w) A (call (.builtin "sorted") [.ref l]) Q E s:=by
 refine Calls.call_function_entry kind_sorted plain_sorted entry_sorted (args_sorted1 _) ?_
 unfold Builtin.«sorted»
 refine wpAny_bind (m:=checkCount "sorted" 1 1 _) (wpAny_pure ?_)
 refine wpAny_bind (collect_list hl ?_ (by rw[sizeLine_eq];exact lA [] [_] (.n 0) (.c 16777216) [.B (.n 0) (.c 2)] [1,1] rfl h2))
 refine wpAny_bind (wpAny_newList ?_ (by rw[sizeLine_eq];exact lA [] [_] (.n 0) (.c 16777216) [.B (.n 0) (.c 2)] [1,1] rfl h2))
 have hsz:((s.heap.push (seqObj "list" #[] 0)).update s.heap.objs.size (Obj.mapSeq (·++vs.toArray))).objs.size=s.heap.objs.size+1:=by
  rw[Heap.size_update,size_push']
 have hoL:(((s.heap.push (seqObj "list" #[] 0)).update s.heap.objs.size (Obj.mapSeq (·++vs.toArray))).push (seqObj "list" vs.toArray 0)).get? (s.heap.objs.size+1)=some (seqObj "list" vs.toArray 0):=by
  rw[←hsz];exact Heap.get?_push_size _ rfl
 show wpAny _ _ _ _ _ { s with heap:=((s.heap.push (seqObj "list" #[] 0)).update s.heap.objs.size (Obj.mapSeq (·++vs.toArray))).push (seqObj "list" vs.toArray 0) }
 rw[hsz]
 refine wpAny_bind (wpAny_holding (wpAny_call_entry slot_list_sort ⟨_,hoL,rfl⟩ entry_list_sort (FV hoL h2 ⟨_,rfl,?_⟩) (args_list_sort _)))
 exact wpAny_pure ⟨_,rfl,h⟩

theorem JA {h:Heap}{ps:List (Int×Int)}:∀ {us:List Value},As W h (ps.map Bo) us→∃fs,KatTups h us fs∧fs.length=ps.length∧(∀v∈fs,∃i t,v=Value.int i t):=by
 induction ps with
 | nil=>intro us r;cases r;exact⟨[],trivial,rfl,fun ξ h=>by cases h⟩
 | cons p ps ih =>
  intro us r
  obtain⟨u,vs,rfl,r,rs⟩:=r
  obtain⟨x,o,n,t,t',rfl,g,k,d⟩:=K8 (a:=p.1) (b:=p.2) r
  obtain⟨fs,h1,h2,h3⟩:=ih rs
  refine⟨_ :: fs,KatTups.cons g k d (f:=.int p.1 t) rfl h1,congrArg (· + 1) h2,fun v hv=>?_⟩
  cases hv with
  | head=>exact⟨_,_,rfl⟩
  | tail _ hv=>exact h3 v hv

theorem IK {h:Heap}{ps:List (Int×Int)}{us:List Value} (r:As W h (ps.map Bo) us) {i:Nat} (hi:i<ps.length):∃x o n t t',us.getD i .none=.ref x∧h.get? x=some o∧o.cls=.type "tuple" ∧ o.data=.seq #[.int ps[i].1 t,.int ps[i].2 t'] n:=by
 obtain⟨u,e,r'⟩:=r.get (i:=i) (v:=Bo ps[i]) (by simp [hi])
 obtain⟨x,o,n,t,t',rfl,g,k,d⟩:=K8 (a:=ps[i].1) (b:=ps[i].2) r'
 exact⟨x,o,n,t,t',by simp [e],g,k,d⟩

theorem Hg {h:Heap}{ps:List (Int×Int)}{us:List Value} (r:As W h (ps.map Bo) us):∀(l:List Nat),(∀i∈l,i<ps.length)→As W h ((l.map fun i=>ps.getD i (0,0)).map Bo) (l.map fun i=>us.getD i .none)
 | [],_=>.nil
 | i :: l,hl=>by
  have hi:=hl i (.head _)
  obtain⟨u,e,r'⟩:=r.get (i:=i) (v:=Bo ps[i]) (by simp [hi])
  refine .cons ?_ (Hg r l fun j hj=>hl j (.tail _ hj))
  simpa [e,hi] using r'

theorem HE {ps:List (Int×Int)}{us:List Value}{a:Addr}{n:Nat} (S:Sim W c P ρ H s) (g:s.heap.get? a=some { cls:=.type "list",data:=.seq us.toArray n }) (r:As W s.heap (ps.map Bo) us) (h64:ps.length<64) (hn:(ps.map (·.1)).Nodup)
  (h:∀qs:List (Int×Int),qs.Perm ps→(qs.map (·.1)).Pairwise (·≤·)→Bb (qs.map Bo) Q H):wpAny (model W.prog W.w) c.A (call (.builtin "sorted") [.ref a]) (PE W c P ρ Q) E s:=by
 obtain⟨m,hm,hv⟩:=S.loc
 have hl:us.length=ps.length:=by have:=r.length;simpa using this.symm
 have hlist:s.heap.IsList a us.toArray:=⟨_,g,rfl,n,rfl⟩
 by_cases h2:us.length<2
 ·refine HD hlist h2 ?_
  obtain⟨e,he⟩:=sortedAll_at s.heap us us.toArray
  refine S.newN (tk:=s.toks) hm hv ((FM hm).kept fun ξ ξ=>sortedAll_old) ((Eo s.heap c.env.locals).kept_cons (FM hm) (fun ξ ξ=>sortedAll_old) (Nat.le_succ _) he) (fun q hq=>Nat.lt_succ_of_lt (Heap.lt_size (DZ.mp hq).1)) (fun k=>by simpa using r.mono k) (h ps (List.Perm.refl _) ?_)
  match ps,hl with
  | [],_=>simp
  | [_],_=>simp
  | _ :: _ :: _,q=>simp at q;omega
 ·refine kat_sorted (FM hm) (Eo s.heap c.env.locals) hlist (by exact (Nat.not_lt.mp h2)) (by exact lB [] [_,_] (.n 0) (.c 64) [.B (.n 1) (.c 64),.E (.n 0) (.n 1)] [1,1,1] rfl h64 hl) fun D e1 h' F' N' hD=>?_
  have N0:News noH c.env.locals h' (GX s.heap c.env.locals):=fun p hp=>N' p (.tail _ hp)
  have kr:KeepR W s.heap h':=by
   have hk:=GW N0
   obtain⟨oL,esL,epL,eL,dL,kL,fL⟩:=hm
   have nt:∀b o,s.heap.get? b=some o→(∀es n,o.data≠.dict es n)→b≠c.env.locals:=fun b o e d q=>by rw[q,eL] at e;cases e;exact d _ _ dL
   exact⟨fun b o i n e k d ξ=>hk b o (nt b o e (by first | exact Ap d rfl | exact Aq d rfl | (rw[d];exact nofun))) e,fun b o C ws e k d=>⟨o,ws,hk b o (nt b o e (by first | exact Ap d rfl | exact Aq d rfl | (rw[d];exact nofun))) e,k,d⟩⟩
  have r':=r.mono kr
  obtain⟨fs,t1,t2,t3⟩:=JA r'
  refine kat_kind (T:=.type "int") (s:={ s with heap:=h' }) t1 (by exact lB [] [_,_,_] (.c 0) (.n 0) [.E (.n 1) (.n 2),.L (.c 2) (.n 1),.E (.n 0) (.n 2)] [1,1,1,-1] rfl hl (Nat.not_lt.mp h2) t2) (fun v hv=>?_) rfl ?_
  ·obtain⟨i,t,rfl⟩:=t3 v hv
   exact Looks.of_pure rfl
  rw[show us.length=ps.length from hl]
  have hks:=ON (key:=fun i=>(ps.getD i (0,0)).1) (n:=ps.length) (fun i j hi hj e=>(List.getElem_inj (i:=i) (j:=j) (h₀:=by simpa using hi) (h₁:=by simpa using hj) hn).mp (by simpa [hi,hj] using e)) (by exact lA [] [_,_] (.c 1) (.n 0) [.E (.n 1) (.n 0),.L (.c 2) (.n 1)] [1,1,1] rfl hl (Nat.not_lt.mp h2))
  refine Mj (lt:=ltK fun i=>(ps.getD i (0,0)).1) (n:=ps.length) (fun i j C hi hj hc=>?_) (C3 (fun p ⟨p1,p2⟩=>?_) hks)
  ·unfold kas_ask
   obtain⟨x,ox,nx,t,t',e1',g1,k1,d1⟩:=IK r' hi
   obtain⟨y,oy,ny,u,u',e2',g2,k2,d2⟩:=IK r' hj
   rw[e1',e2']
   refine kat_lt (s:={ s with heap:=h' }) g1 d1 g2 d2 ?_
   have hc':C (decide (ps[i].1<ps[j].1)) { s with heap:=h' }:=by simpa [ltK,hi,hj] using hc
   refine kat_cons (EqAt.int_int _ _ _ _ W.prog W.w _ _ ?_)
   by_cases q:ps[i].1=ps[j].1
   ·have ij:i=j:=by
     have:=(List.getElem_inj (i:=i) (j:=j) (h₀:=by simpa using hi) (h₁:=by simpa using hj) hn).mp (by simpa using q)
     exact this
    subst ij
    rw[e1'] at e2';cases e2'
    rw[g1] at g2;cases g2
    rw[d1] at d2;cases d2
    rw[beq_self_eq_true]
    refine kat_yes (kat_cons (EqAt.int_int _ _ _ _ W.prog W.w _ _ ?_))
    rw[beq_self_eq_true]
    refine kat_yes (kat_nil ?_)
    simpa using hc'
   ·rw[beq_eq_false_iff_ne.mpr q]
    refine kat_no ?_
    exact oneLt_int hc'
  ·have hlt:∀i∈p.toList,i<ps.length:=fun i hi=>by simpa using p1.mem_iff.mp hi
   have hperm:(p.toList.map fun i=>ps.getD i (0,0)).Perm ps:=by
    have:=p1.map (fun i=>ps.getD i (0,0))
    refine this.trans (List.Perm.of_eq ?_)
    apply List.ext_getElem
    ·simp
    ·intro k h1 h2;simp [h2]
   have hsort:((p.toList.map fun i=>ps.getD i (0,0)).map (·.1)).Pairwise (·≤·):=by
    rw[List.map_map,List.pairwise_iff_getElem]
    intro i j hi hj hij
    have hs:=p1.size
    simp only[List.length_map,Array.length_toList] at hi hj
    have:=p2 i j (by exact lA [] [_,_] (.n 0) (.n 1) [.B (.n 0) (.n 1)] [1,1] rfl hij) (by exact lB [] [_,_,_] (.n 0) (.n 1) [.E (.n 2) (.n 1),.B (.n 0) (.n 2)] [1,1,1] rfl hs hj)
    unfold KK' at this
    simpa [Array.getD,hi,hj] using this
   refine⟨_,_,F',N',UpdF.head (fun q hq=>Nat.ne_of_lt (hD q hq)),fun h'' c' F'' N''=>?_⟩
   refine S.newN (tk:=s.toks) hm hv F'' N'' hD (fun k=>?_) (h _ hperm hsort)
   simpa using Hg (r.mono k) p.toList hlt

theorem B9.keys {h:Heap}{kvs:List (Int×V)}:∀ {ys:List (Int×Value)},B9 W h kvs ys→kvs.map (·.1)=ys.map (·.1):=by
 induction kvs with
 | nil=>intro ys r;cases r;rfl
 | cons p kvs ih =>
  intro ys r
  obtain⟨u,vs,rfl,a,b⟩:=r
  rw[List.map_cons,List.map_cons,a.1,ih b]
theorem Fg:∀ {vs:List Value}{ys:List (Int×Value)},vs.length=ys.length→(∀(j:Nat) (v:Value),vs[j]?=some v→∃k x,ys[j]?=some (k,x)∧(intKind W.prog W.w).is k v=true)→IntsAre vs (ys.map (·.1))
 | [],[],_,_=>.nil
 | [],_ :: _,h,_=>by simp at h
 | _ :: _,[],h,_=>by simp at h
 | v :: vs,y :: ys,h,k=>by
  obtain⟨k',x,e1,e2⟩:=k 0 v rfl
  cases e1
  obtain⟨t,rfl⟩:=Value.isInt_shape (show Value.isInt k' v=true from e2)
  exact .cons k' t (Fg (by simpa using h) fun j w e=>by simpa using k (j+1) w (by simpa using e))

theorem HC {xs:List V}{us:List Value} (S:Sim W c P ρ H s) (hh:c.A.handled=none) (hb:(W.base.get? cStatics).isSome=true) (r:As W s.heap xs us) (h:wbc .sorted xs Q H) :
  wpAny (model W.prog W.w) c.A (call (Li .sorted) us) (PE W c P ρ Q) E s:=by
 obtain⟨x,rfl,k⟩:=BX h
 obtain⟨u,rfl,rx⟩:=r.one
 obtain⟨a,rfl,k⟩:=AU k
 cases rx
 obtain⟨m,hm,hv⟩:=S.loc
 rcases Cd k with ⟨ys,ea,hlen,h⟩ | ⟨kvs,ea,hlen,h⟩
 ·obtain⟨hz,it,n,g,ri⟩:=S.heap _ _ ea
  rcases h with ⟨is,e,h⟩ | ⟨ps,e,hn,h⟩
  ·have hi:=GI ri e
   have hl:=ri.length
   refine kso_sorted (FM hm) (Eo s.heap c.env.locals) (vs:=it.toList) ⟨_,g,rfl,n,by simp⟩ hi ?_ fun D vs' ns' c' h' F' N' hD i' e' p' o' ξ=>?_
   ·rw[←IntsAre.length hi,←hl];exact hlen
   ·exact S.newN (tk:=s.toks) hm hv F' N' hD (fun ξ=>by simpa using Hi i') (h ns' p' o')
  ·subst e
   exact HE (us:=it.toList) (n:=n) (E:=E) S (by simpa using g) ri (by simpa using hlen) hn h
 ·obtain⟨⟨hz,_⟩,ys,hD,rk⟩:=S.heap _ _ ea
  obtain⟨ep,hAt⟩:=hD.dictAt
  have lo:(a == sysModules)=false:=BZ S ea hb
  have hkl:ys.length=kvs.length:=rk.length
  refine kdu_sorted (kdl_dict (kvs:=ys) (ep:=ep) (knd:=intKind W.prog W.w) lo) hh (FM hm) (Eo s.heap c.env.locals) hAt (by rw[sizeLine_eq];exact lA [] [_,_] (.n 0) (.c 16777216) [.B (.n 1) (.c 64),.E (.n 0) (.n 1)] [1,1,1] rfl hlen hkl) fun D h' tk vs F' N' hDD e1 e2=>?_
  have hI:IntsAre vs (ys.map (·.1)):=Fg e1 e2
  refine Kz (s:={ s with heap:=h',toks:=tk }) (vs:=vs) (n:=0) (N' _ (.head _)).1 hI (by exact lB [] [_,_,_] (.n 0) (.c 64) [.B (.n 1) (.c 64),.E (.n 2) (.n 1),.E (.n 0) (.n 2)] [1,1,1,1] rfl hlen hkl e1) fun out ns' a1 a2 a3=>?_
  have hD0:=(N' _ (.head _))
  have hLD:c.env.locals≠D:=fun q=>hD0.2.1 q.symm
  obtain⟨ec,he⟩:=sortedHeap_at (out:=out) (vs:=vs) (n:=0) hD0.1
  have keep:∀b o,b≠D→h'.get? b=some o→(sortedHeap h' D vs out).get? b=some o:=fun b o q e=>(sortedHeap_old q (Heap.lt_size e)).trans e
  have hkm:=rk.keys
  show PE W c P ρ Q (.ref D) { s with heap:=sortedHeap h' D vs out,toks:=tk }
  refine S.newN (tk:=tk) (it:=out) (n:=ec) hm hv (FM (F'.ns.at' fun o e=>keep _ o hLD e)) (fun p hp=>?_) hDD (fun ξ=>Hi a1) (h ns' (hkm▸a2) a3)
  cases hp with
  | head=>exact⟨he,hD0.2⟩
  | tail _ hp=>exact⟨keep _ _ (Nat.ne_of_lt (hDD _ hp)) (N' _ (.tail _ hp)).1,(N' _ (.tail _ hp)).2⟩

theorem Oz {T:Tx W}{K:Kc}{hd:Bool}{G:Gl}{f es xs q p} (hx:xs.isEmpty=false) (C:CxOk T c K hd) (g:K.gl (Str.ofString (Dg f))=true) (ms:NSs xs) (h:SEs W c G hd es xs) :
  SE W c G hd (.bc f es) (.Call (.Name (Str.ofString (Dg f)) q) xs [] p):=by
 obtain _ | ⟨x,xs⟩:=xs
 ·cases hx
 by_cases hf:f=.sorted
 ·subst hf
  intro P ρ H s Q X S w
  replace w:=Ar.mp w
  obtain⟨rfl,w⟩:=w
  refine wpAny_Call_Name_kw (AG C S g (T.bfs .sorted) ?_)
  exact callWith_builtin (ms _ _) (D6 (ms _ _) (wpAny_mono (h P ρ H s _ X p S w) (fun us s₁ hPt=>by obtain⟨vs,H₁,S₁,r,q⟩:=hPt;exact HC S₁ (C.hand rfl) T.mods r q) fun ξ ξ x=>x))
 ·exact se_bc hf C g ms h
end
end Mine.Internal
end

section
namespace Mine.Internal
open PySem PySem.W PySem.Calls PyProof.Rows PySem.SeqAt
section
variable {W:Wd}{T:Tx W}{c:Cx}{K:Kc}{hd:Bool}{P:Addr→Obj→Prop}{ρ:Loc}{H:Hp}{s:Shared}{E:Value→Shared→Prop}

theorem Sim.cell {ρ':Loc}{h':Heap}{tk:Nat}{d:Addr}{u₀:Option Value} (S:Sim W c P ρ H s) (ho:s.heap.IsCell d u₀) (hown:d∈c.own) (hnf:d∉c.frs) {u:Option Value} (hc:h'.IsCell d u) (hk:∀b o,b≠d→s.heap.get? b=some o→h'.get? b=some o)
  (hv:KeepR W s.heap h'→∀m,(∀i x v,c.vis i=true→c.names[i]?=some x→ρ[i]?=some (some v)→HasVar W c.env s.heap m (Str.ofString x) v)→∀i x v,c.vis i=true→c.names[i]?=some x→ρ'[i]?=some (some v)→HasVar W c.env h' m (Str.ofString x) v) :
  Sim W c P ρ' H { s with heap:=h',toks:=tk }:=by
 obtain⟨o₀,e₀,d₀⟩:=ho
 obtain⟨o₁,e₁,d₁⟩:=hc
 have nt:∀b o,s.heap.get? b=some o→(∀v,o.data≠.cell v)→b≠d:=fun b o e q z=>by rw[z,e₀] at e;cases e;exact q _ d₀
 have kr:KeepR W s.heap h':=⟨fun b o i n e k q ξ=>hk b o (nt b o e (by first | exact Ap q rfl | exact Aq q rfl | (rw[q];exact nofun))) e,fun b o C ws e k q=>⟨o,ws,hk b o (nt b o e (by first | exact Ap q rfl | exact Aq q rfl | (rw[q];exact nofun))) e,k,q⟩⟩
 have nH:∀a o,H a=some o→a≠d:=fun a o e q=>S.apart a o e (q▸Cx.mem_all_own hown)
 refine⟨?_,fun b o e=>hk b o (fun q=>by rw[q,S.ownNew _ hown] at e;cases e) (S.base b o e),AM S.frames fun b hb o e q=>⟨o,hk b o (fun z=>hnf (z▸hb)) e,q⟩,fun p hp=>?_,?_,S.locOwn,S.ownNew,S.ownOut,
  fun a o e=>(S.heap a o e).at kr fun ob h=>hk a ob (nH a o e) h,S.new,S.apart,fun b o p=>hk b o (fun q=>(S.protF b o p).1 (q▸hown)) (S.prot b o p),S.protH,S.protF,fun x a e=>?_,fun b hb=>?_,fun b hb=>(S.scr b hb).at fun o e ξ hPt=>by obtain⟨i,n,q⟩:=hPt;exact hk b o (nt b o e (by first | exact Ap q rfl | exact Aq q rfl | (rw[q];exact nofun))) e⟩
 ·obtain⟨h,tk',rfl⟩:=S.rest;exact⟨h',tk,rfl⟩
 ·obtain⟨o,es,ep,e,r⟩:=S.outer p hp
  exact⟨o,es,ep,hk _ _ (S.ownOut _ hown p hp) e,r⟩
 ·obtain⟨m,⟨o,es,ep,e,dd,r⟩,hv'⟩:=S.loc
  exact⟨m,⟨o,es,ep,hk _ _ (nt _ _ e (by first | exact Ap dd rfl | exact Aq dd rfl | (rw[dd];exact nofun))) e,dd,r⟩,hv kr m hv'⟩
 ·by_cases q:a=d
  ·subst q;exact⟨u,o₁,e₁,d₁⟩
  ·obtain⟨u',o,e1,e2⟩:=S.cells x a e;exact⟨u',o,hk a o q e1,e2⟩
 ·by_cases q:b=d
  ·subst q;exact⟨o₁,e₁,.inr ⟨_,d₁⟩⟩
  ·obtain⟨o,e,z⟩:=S.ownD b hb;exact⟨o,hk b o q e,z⟩

theorem B3 {i:Nat}{x:Str}{v:V}{u:Value}{Q:Unit→Shared→Prop} (C:CxOk T c K hd) (S:Sim W c P ρ H s) (g:K.tgt i x=true) (r:Rep W s.heap v u)
  (h:∀s',Sim W c P (ρ.set i (some v)) H s'→KeepR W s.heap s'.heap→Q () s'):wpAny (model W.prog W.w) c.A (storeName c.env x u) Q E s:=by
 have hk:c.env.kindOf x=some .local∨(c.env.kindOf x=some .cell∧K.inC=false):=by
  have:=Kc.tgt_kind g
  unfold Env.kindOf;rw[C.sc];exact this
 obtain⟨h1,y,h2,rfl⟩:=Kc.tgt_spec g
 have look:∀(j:Nat) (w:V),(ρ.set i (some v))[j]?=some (some w)→(j=i∧w=v)∨(j≠i∧ρ[j]?=some (some w)):=fun j w e=>by
  by_cases q:j=i
  ·subst q
   rw[List.getElem?_set] at e
   simp only[if_true] at e
   split at e
   ·cases e;exact .inl ⟨rfl,rfl⟩
   ·cases e
  ·rw[List.getElem?_set_ne (Ne.symm q)] at e;exact .inr ⟨q,e⟩
 rcases hk with hl | ⟨hl,hin⟩
 ·obtain⟨m,hn,hv⟩:=S.loc
  refine wpAny_storeName_local hl hn (fun h' hn' hs'=>?_) (by rw[C.sc,C.kind];rfl)
  have hkeep:∀b o,b≠c.env.locals→s.heap.get? b=some o→h'.get? b=some o:=fun b o q e=>hs'.extBut b o q e
  have kr:KeepR W s.heap h':=by
   obtain⟨oL,esL,epL,eL,dL,kL,fL⟩:=id hn
   have nt:∀b o,s.heap.get? b=some o→(∀es n,o.data≠.dict es n)→b≠c.env.locals:=fun b o e d q=>by rw[q,eL] at e;cases e;exact d _ _ dL
   exact⟨fun b o i n e k d ξ=>hkeep b o (nt b o e (by first | exact Ap d rfl | exact Aq d rfl | (rw[d];exact nofun))) e,fun b o C ws e k d=>⟨o,ws,hkeep b o (nt b o e (by first | exact Ap d rfl | exact Aq d rfl | (rw[d];exact nofun))) e,k,d⟩⟩
  refine h _ (S.names (tk:=s.toks+1) hn hn' hkeep fun kr' kc j z w hj1 hj2 hj3=>?_) kr
  rcases look j w hj3 with ⟨rfl,rfl⟩ | ⟨q,e⟩
  ·rw[C.names,h2] at hj2;cases hj2
   exact .loc hl u (by simp) (r.mono kr)
  ·have ne:Str.ofString z≠Str.ofString y:=fun q'=>q (C.inj j i z y hj2 (by rw[C.names];exact h2) q')
   rcases hv j z w hj1 hj2 e with ⟨k,u',e',r'⟩ | ⟨k,cl,o,u',e',ho,hd',r'⟩
   ·exact .loc k u' (by simp [ne,e']) (r'.mono kr)
   ·exact .cel k cl o u' e' (kc cl o _ ho hd') hd' (r'.mono kr)
 ·obtain⟨a,ha⟩:=C.cellKind _ hl
  have hown:=C.cellOwn _ _ ha hin
  have hnf:=C.cellFr _ _ ha
  obtain⟨u₀,hcell⟩:=S.cells _ _ ha
  refine wpAny_storeName_cell C.kindF hl ha hcell fun h' hc' hs'=>?_
  obtain⟨o₀,e₀,d₀⟩:=id hcell
  have hkeep:∀b o,b≠a→s.heap.get? b=some o→h'.get? b=some o:=fun b o q e=>hs'.extBut b o q e
  have nt:∀b o,s.heap.get? b=some o→(∀v,o.data≠.cell v)→b≠a:=fun b o e q z=>by rw[z,e₀] at e;cases e;exact q _ d₀
  have kr:KeepR W s.heap h':=⟨fun b o i n e k q ξ=>hkeep b o (nt b o e (by first | exact Ap q rfl | exact Aq q rfl | (rw[q];exact nofun))) e,fun b o C ws e k q=>⟨o,ws,hkeep b o (nt b o e (by first | exact Ap q rfl | exact Aq q rfl | (rw[q];exact nofun))) e,k,q⟩⟩
  refine h _ (S.cell (tk:=s.toks) hcell hown hnf hc' hkeep fun kr' m hv j z w hj1 hj2 hj3=>?_) kr
  rcases look j w hj3 with ⟨rfl,rfl⟩ | ⟨q,e⟩
  ·rw[C.names,h2] at hj2;cases hj2
   obtain⟨o₁,e₁,d₁⟩:=hc'
   exact .cel hl a o₁ u ha e₁ d₁ (r.mono kr)
  ·have ne:Str.ofString z≠Str.ofString y:=fun q'=>q (C.inj j i z y hj2 (by rw[C.names];exact h2) q')
   rcases hv j z w hj1 hj2 e with ⟨k,u',e',r'⟩ | ⟨k,cl,o,u',e',ho,hd',r'⟩
   ·exact .loc k u' e' (r'.mono kr)
   ·refine .cel k cl o u' e' (hkeep cl o ?_ ho) hd' (r'.mono kr)
    rintro rfl
    exact ne (C.cellInj _ _ _ e' ha)
end
end Mine.Internal
end

section
namespace Mine.Internal
open PySem PySem.W PySem.Calls PyProof.Rows PySem.SeqAt
section
variable {W:Wd}{T:Tx W}{c:Cx}{K:Kc}{hd:Bool}{P:Addr→Obj→Prop}{ρ:Loc}{H:Hp}{s:Shared}{E:Value→Shared→Prop}

theorem Sim.exc {h':Heap}{tk:Nat}{X:Addr→Prop} (S:Sim W c P ρ H s)
  (hX:∀b,X b→W.base.get? b=none∧(∀o,¬P b o)∧(∀o,s.heap.get? b=some o→∃vs,o.data=.fields vs∧∃o' vs',h'.get? b=some o'∧o'.cls=o.cls∧o'.data=.fields vs'))
  (k1:∀b o,¬X b→b∉c.frs→s.heap.get? b=some o→h'.get? b=some o)
  (k2:∀b o,b∈c.frs→s.heap.get? b=some o→∃sl,h'.get? b=some { o with slots:=sl }):Sim W c P ρ H { s with heap:=h',toks:=tk }:=by
 have nX:∀b o,s.heap.get? b=some o→(∀vs,o.data≠.fields vs)→¬X b:=fun b o e d x=>by
  obtain⟨vs,d',_⟩:=(hX b x).2.2 o e
  exact d vs d'
 have nF:∀b o,s.heap.get? b=some o→((∃i n,o.data=.seq i n)∨(∃vs,o.data=.fields vs))→b∉c.frs:=fun b o e d m=>by
  obtain⟨o',e',q⟩:=S.ownD b (.inr m)
  rw[e] at e';cases e'
  rcases d with ⟨_,_,d⟩ | ⟨_,d⟩ <;> rcases q with ⟨_,_,q⟩ | ⟨_,q⟩ <;> rw[d] at q <;> cases q
 have kr:KeepR W s.heap h':=⟨fun b o i n e k d ξ=>k1 b o (nX b o e (by first | exact Ap d rfl | exact Aq d rfl | (rw[d];exact nofun))) (nF b o e (.inl ⟨_,_,d⟩)) e,fun b o C ws e k d=>by
  by_cases x:X b
  ·obtain⟨vs,_,o',vs',e',c',d'⟩:=(hX b x).2.2 o e
   exact⟨o',vs',e',c'.trans k,d'⟩
  ·exact⟨o,ws,k1 b o x (nF b o e (.inr ⟨_,d⟩)) e,k,d⟩⟩
 have any:∀b o,s.heap.get? b=some o→(∀vs,o.data≠.fields vs)→∃sl,h'.get? b=some { o with slots:=sl }:=fun b o e d=>by
  by_cases m:b∈c.frs
  ·exact k2 b o m e
  ·exact⟨o.slots,k1 b o (nX b o e d) m e⟩
 have nsk:∀a m,s.heap.Ns a m→h'.Ns a m:=fun a m hPt=>by
  obtain⟨o,es,ep,e,d,r⟩:=hPt
  obtain⟨sl,e'⟩:=any a o e (by first | exact Ap d rfl | exact Aq d rfl | (rw[d];exact nofun))
  exact⟨_,es,ep,e',d,r⟩
 have hb:∀b o,s.heap.get? b=some o→b∈c.frs→W.base.get? b=none:=fun b o e m=>(S.frames.mem m).1
 refine⟨?_,fun b o e=>k1 b o (fun x=>by rw[(hX b x).1] at e;cases e) (fun m=>by rw[(S.frames.mem m).1] at e;cases e) (S.base b o e),AM S.frames fun b hb o e d=>?_,fun p hp=>nsk _ _ (S.outer p hp),?_,S.locOwn,S.ownNew,S.ownOut,
  fun a o e=>?_,S.new,S.apart,fun b o p=>k1 b o (fun x=>(hX b x).2.1 o p) (S.protF b o p).2 (S.prot b o p),S.protH,S.protF,fun x a e=>?_,fun b hb=>?_,fun b hb=>(S.scr b hb).at fun o e ξ hPt=>by obtain⟨i,n,d⟩:=hPt;exact k1 b o (nX b o e (by first | exact Ap d rfl | exact Aq d rfl | (rw[d];exact nofun))) (nF b o e (.inl ⟨_,_,d⟩)) e⟩
 ·obtain⟨h,tk',rfl⟩:=S.rest;exact⟨h',tk,rfl⟩
 ·obtain⟨sl,e'⟩:=k2 b o hb e;exact⟨_,e',d⟩
 ·obtain⟨m,hn,hv⟩:=S.loc
  refine⟨m,nsk _ _ hn,fun i x v h1 h2 h3=>(hv i x v h1 h2 h3).mono kr fun cl o u ξ ho hq=>?_⟩
  obtain⟨sl,e'⟩:=any cl o ho (by first | exact Ap hq rfl | exact Aq hq rfl | (rw[hq];exact nofun))
  exact⟨_,e',rfl⟩
 ·have ha:∀ob,s.heap.get? a=some ob→h'.get? a=some ob:=fun ob h=>k1 a ob (fun x=>by
   obtain⟨vs,d,_⟩:=(hX a x).2.2 ob h
   cases o with
   | list vs'=>obtain⟨_,it,n,g,_⟩:=S.heap _ _ e;rw[h] at g;cases g;cases d
   | dict kvs=>obtain⟨_,ys,⟨o',es,ep,g,_,d',_⟩,_⟩:=S.heap _ _ e;rw[h] at g;cases g;rw[d] at d';cases d') (fun m=>S.apart a o e (Cx.mem_all_frs m)) h
  exact (S.heap a o e).at kr ha
 ·obtain⟨u,o,e1,e2⟩:=S.cells x a e
  obtain⟨sl,e'⟩:=any a o e1 (by first | exact Ap e2 rfl | exact Aq e2 rfl | (rw[e2];exact nofun))
  exact⟨u,_,e',e2⟩
 ·obtain⟨o,e,q⟩:=S.ownD b hb
  obtain⟨sl,e'⟩:=any b o e (by rcases q with ⟨_,_,q⟩ | ⟨_,q⟩ <;> rw[q] <;> exact nofun)
  exact⟨_,e',q⟩

inductive FlyAt (W:Wd) (P:Addr→Obj→Prop) (fl:Value) (h:Heap) (e:Value) (k:String):Prop
 | mk (a C:Addr) (oe:Obj) (vs:Array Value) (a0:Value) (T:Addr) (oT:Obj) (ts:Array Value) (h1:e=.ref a) (h2:W.cls k=some C) (h3:h.get? a=some oe) (h4:oe.cls=.ref C) (h5:oe.data=.fields vs) (h6:vs[0]?=some a0) (h7:W.base.get? a=none) (h8:∀o,¬P a o)
   (t1:vs[1]?=some (.ref T)) (t2:T≠a) (t3:W.base.get? T=none) (t4:∀o,¬P T o) (t5:h.get? T=some oT) (t6:oT.data=.fields ts) (t7:ts[3]?=some fl)
theorem FlyAt.fly {f:Option Addr}{h:Heap}{e:Value}{k:String} (x:FlyAt W P .none h e k):Fly W P f h e k:=by
 obtain⟨a,C,oe,vs,a0,T,oT,ts,h1,h2,h3,h4,h5,h6,h7,h8,t1,t2,t3,t4,t5,t6,t7⟩:=x
 exact⟨a,C,oe,vs,a0,h1,h2,h3,h4,h5,h6,h7,h8,.inr ⟨T,oT,ts,_,t1,t2,t3,t4,t5,t6,t7,.inl rfl⟩⟩
theorem FlyAt.flyL {L:Addr}{h:Heap}{e:Value}{k:String} (x:FlyAt W P (rawInt L) h e k):Fly W P (some L) h e k:=by
 obtain⟨a,C,oe,vs,a0,T,oT,ts,h1,h2,h3,h4,h5,h6,h7,h8,t1,t2,t3,t4,t5,t6,t7⟩:=x
 exact⟨a,C,oe,vs,a0,h1,h2,h3,h4,h5,h6,h7,h8,.inr ⟨T,oT,ts,_,t1,t2,t3,t4,t5,t6,t7,.inr ⟨L,rfl,rfl⟩⟩⟩

theorem Bx {fl:Value}{f:Option Addr}{e:Value}{k:String}{Q:Unit→Shared→Prop}{A:Around} (S:Sim W c P ρ H s) (F:FlyAt W P fl s.heap e k)
  (h:∀h',Sim W c P ρ H { s with heap:=h' }→FlyAt W P (f.elim .none fun f=>rawInt f) h' e k→Q () { s with heap:=h' }):wpAny (model W.prog W.w) A (setFlight e f) Q E s:=by
 obtain⟨a,C,oe,vs,a0,T,oT,ts,rfl,h2,h3,h4,h5,h6,h7,h8,t1,t2,t3,t4,t5,t6,t7⟩:=F
 have hsz:3<ts.size:=(Array.getElem?_eq_some_iff.mp t7).1
 unfold setFlight
 refine wpAny_bind (wpAny_field h3 h5 t1 ?_)
 rw[if_pos (show (Value.ref T != Value.none)=true from by simp)]
 refine wpAny_setField t5 t6 hsz ?_
 have eT:=Heap.get?_update_self (Obj.mapFields (·.setIfInBounds 3 (f.elim Value.none fun f=>rawInt f))) t5 (Obj.isFreed_of_fields (Obj.data_mapFields t6 _))
 have other:∀b,b≠T→(s.heap.update T (Obj.mapFields (·.setIfInBounds 3 (f.elim Value.none fun f=>rawInt f)))).get? b=s.heap.get? b:=fun b hb=>Heap.get?_update_other _ _ (Ne.symm hb)
 refine h _ (S.exc (tk:=s.toks) (X:=fun b=>b=T) (fun b hb=>?_) (fun b o x ξ e=>(other b x).trans e) fun b o m e=>⟨o.slots,(other b ?_).trans e⟩) ?_
 ·subst hb
  refine⟨t3,t4,fun o e=>?_⟩
  rw[t5] at e;cases e
  exact⟨ts,t6,_,_,eT,Obj.cls_mapFields _ _,Obj.data_mapFields t6 _⟩
 ·rintro rfl
  obtain⟨_,o',e',d⟩:=S.frames.mem m
  rw[t5] at e';cases e';exact d _ t6
 ·exact⟨a,C,oe,vs,a0,T,_,_,rfl,h2,(other a (Ne.symm t2)).trans h3,h4,h5,h6,h7,h8,t1,t2,t3,t4,eT,Obj.data_mapFields t6 _,by simp [hsz]⟩

theorem Hk {a C L:Addr}{oe:Obj}{vs:Array Value}{a0 head:Value}{hadNext:Bool}{k:String}{env:Env}{outer:List Env}{Q:Unit→Shared→Prop}{A:Around} (S:Sim W c P ρ H s) (hfr:A.frames=some (env :: outer)) (he:c.fenvs=env :: outer) (hf:env.frame=some L)
  (h2:W.cls k=some C) (h3:s.heap.get? a=some oe) (h4:oe.cls=.ref C) (h5:oe.data=.fields vs) (h6:vs[0]?=some a0) (h7:W.base.get? a=none) (h8:∀o,¬P a o) (hsz:1<vs.size)
  (h:∀h',Sim W c P ρ H { s with heap:=h' }→FlyAt W P (rawInt L) h' (.ref a) k→Q () { s with heap:=h' }) :
  wpAny (model W.prog W.w) A (do let a' ←frameOf env;let pl ←entryPlaceOf L hadNext;let b ←EntryCells.newEntry head a' .none (rawInt L) .none pl;setField (.ref a) 1 b) Q E s:=by
 have frs:∀b,b∈c.frs ↔ b∈(env :: outer).filterMap (·.frame):=fun b=>by unfold Cx.frs;rw[he]
 have hl:s.heap.FunFrames (hideAll s.heap ([a]++c.frs)) (env :: outer):=by
  refine funFrames_hide (by rw[←he];exact S.frames) fun env' hm b hb=>?_
  simp only[List.mem_append]
  right
  rw[frs]
  exact List.mem_filterMap.mpr ⟨env',hm,hb⟩
 refine wpAny_entryW (base:=hideAll s.heap ([a]++c.frs)) hfr hl hf h3 (fun b o e=>of_hideAll _ e) (hideAll_none _ (by simp)) h5 hsz h6 fun h' hx=>?_
 obtain⟨x1,x2,⟨oe',vs',T',oT',ts',y1,⟨y2,y3⟩,y4,y5,y6,y7,y8,y9,y10⟩,x4⟩:=hx
 have keep:∀b o,b≠a→b∉c.frs→s.heap.get? b=some o→h'.get? b=some o:=fun b o i j e=>x1 b o (hideAll_get _ e (by simp [i,j]))
 have hT0:s.heap.get? T'=none:=by
  cases q:s.heap.get? T' with
  | none=>rfl
  | some o =>
   by_cases j:T'∈c.frs
   ·obtain⟨_,o',e',d⟩:=S.frames.mem j
    obtain⟨sl,z⟩:=x4 _ _ e' d
    rw[y8] at z;cases z;exact absurd y9 (d _)
   ·rw[hideAll_get _ q (by simp [y7,j])] at y6;cases y6
 obtain⟨f1,_,f3,_⟩:=S.fresh hT0
 refine h h' (S.exc (tk:=s.toks) (X:=fun b=>b=a) (fun b hb=>?_) (fun b o i j e=>keep b o i j e) fun b o m e=>?_) ⟨a,C,oe',vs',a0,T',oT',ts',rfl,h2,y1,by rw[y2,h4],y4,y3,h7,h8,y5,y7,f1,f3,y8,y9,y10⟩
 ·subst hb
  refine⟨h7,h8,fun o e=>?_⟩
  rw[h3] at e;cases e
  exact⟨_,h5,oe',vs',y1,y2,y4⟩
 ·obtain⟨_,o',e',d⟩:=S.frames.mem m
  rw[e] at e';cases e'
  exact x4 b o e d

theorem EQ {e:Value}{k:String}{L:Addr}{env:Env}{outer:List Env}{Q:Unit→Shared→Prop}{A:Around} (S:Sim W c P ρ H s) (hfr:A.frames=some (env :: outer)) (he:c.fenvs=env :: outer) (hf:env.frame=some L) (F:Fly W P (some L) s.heap e k)
  (h:∀h',Sim W c P ρ H { s with heap:=h' }→FlyAt W P (rawInt L) h' e k→Q () { s with heap:=h' }):wpAny (model W.prog W.w) A (noteFrame e env) Q E s:=by
 obtain⟨a,C,oe,vs,a0,rfl,h2,h3,h4,h5,h6,h7,h8,h9⟩:=F
 rcases h9 with h1 | ⟨Tb,oT,ts,fl,t1,t2,t3,t4,t5,t6,t7,t8⟩
 ·unfold noteFrame
  simp only[hf]
  refine wpAny_bind (wpAny_field h3 h5 h1 ?_)
  rw[if_neg (by decide)]
  exact Hk S hfr he hf h2 h3 h4 h5 h6 h7 h8 (Array.getElem?_eq_some_iff.mp h1).1 h
 ·rcases t8 with rfl | ⟨L',e,rfl⟩
  ·have hsz:3<ts.size:=(Array.getElem?_eq_some_iff.mp t7).1
   unfold noteFrame
   simp only[hf]
   refine wpAny_bind (wpAny_field h3 h5 t1 ?_)
   rw[if_pos (show (Value.ref Tb != Value.none)=true from by simp)]
   refine wpAny_bind (wpAny_field t5 t6 t7 ?_)
   rw[if_neg (show ¬((Value.none == rawInt L)=true) from by simp [rawInt])]
   refine wpAny_bind (wpAny_setField t5 t6 hsz ?_)
   have eT:=Heap.get?_update_self (Obj.mapFields (·.setIfInBounds 3 Value.none)) t5 (Obj.isFreed_of_fields (Obj.data_mapFields t6 _))
   have other:∀b,b≠Tb→(s.heap.update Tb (Obj.mapFields (·.setIfInBounds 3 Value.none))).get? b=s.heap.get? b:=fun b hb=>Heap.get?_update_other _ _ (Ne.symm hb)
   have S₁:Sim W c P ρ H { s with heap:=s.heap.update Tb (Obj.mapFields (·.setIfInBounds 3 Value.none)) }:=by
    refine S.exc (tk:=s.toks) (X:=fun b=>b=Tb) (fun b hb=>?_) (fun b o x ξ e=>(other b x).trans e) fun b o m e=>⟨o.slots,(other b ?_).trans e⟩
    ·subst hb
     refine⟨t3,t4,fun o e=>?_⟩
     rw[t5] at e;cases e
     exact⟨ts,t6,_,_,eT,Obj.cls_mapFields _ _,Obj.data_mapFields t6 _⟩
    ·rintro rfl
     obtain⟨_,o',e',d⟩:=S.frames.mem m
     rw[t5] at e';cases e';exact d _ t6
   exact Hk (s:={ s with heap:=s.heap.update Tb (Obj.mapFields (·.setIfInBounds 3 Value.none)) }) S₁ hfr he hf h2 ((other a (Ne.symm t2)).trans h3) h4 h5 h6 h7 h8 (Array.getElem?_eq_some_iff.mp t1).1 h
  ·cases e
   refine wpAny_noteFrame_againW (base:=noH) (cls:=oe.cls) (a0:=a0) hf ⟨oe,vs,Tb,oT,ts,h3,⟨rfl,h6⟩,h5,t1,HM _,t2,t5,t6,t7⟩ ?_
   exact h s.heap S ⟨a,C,oe,vs,a0,Tb,oT,ts,rfl,h2,h3,h4,h5,h6,h7,h8,t1,t2,t3,t4,t5,t6,t7⟩

inductive EXs (W:Wd) (c:Cx) (P:Addr→Obj→Prop) (X:String→Loc→Hp→Prop) (e:Value) (s':Shared):Prop
 | mk (k:String) (ρ':Loc) (H':Hp) (S:Sim W c P ρ' H' s') (F:Fly W P c.env.frame s'.heap e k) (x:X k ρ' H')
theorem EXs.weaken {P':Addr→Obj→Prop}{X:String→Loc→Hp→Prop}{e:Value}{s':Shared} (h:EXs W c P' X e s') (q:∀b o,P b o→P' b o):EXs W c P X e s' :=
 let ⟨k,ρ',H',S,F,x⟩:=h;⟨k,ρ',H',S.weaken q,F.weaken q,x⟩
theorem EX.toS {X:String→Loc→Hp→Prop}{e:Value}{s':Shared} (h:EX W c P ρ (fun k H'=>X k ρ H') e s'):EXs W c P X e s':=let ⟨k,H',S,F,x⟩:=h;⟨k,ρ,H',S,F,x⟩

theorem Ju {X:String→Loc→Hp→Prop}{A A':Around}{L:Addr}{outer:List Env} (hfr:A'.frames=some (c.env :: outer)) (he:c.fenvs=c.env :: outer) (hf:c.env.frame=some L):PassesOwnAt (model W.prog W.w) A' A c.env (EXs W c P X):=by
 intro e s' ⟨k,ρ',H',S,F,x⟩
 unfold notedBy cameBackBy
 rw[hf] at F
 refine EQ S hfr he hf F fun h' S' F'=>?_
 obtain⟨a,C,oe,vs,a0,T,oT,ts,rfl,h2,h3,h4,h5,h6,h7,h8,t1,t2,t3,t4,t5,t6,t7⟩:=id F'
 refine wpAny_bind (wpAny_field h3 h5 t1 ?_)
 rw[if_neg (by simp)]
 rw[hf]
 refine Bx (s:={ s' with heap:=h' }) (f:=some L) S' F' fun h'' S'' F''=>?_
 exact⟨k,ρ',H',S'',by rw[hf];exact FlyAt.flyL F'',x⟩
end
end Mine.Internal
end

section
namespace Mine.Internal
open PySem PySem.W PySem.Calls PyProof.Rows PySem.SeqAt

noncomputable def Jb (W:Wd) (h:Heap):It→Value→Prop
 | .v x,u=>Rep W h x u
 | .p x y,u=>Rep W h (.tup [x,y]) u
theorem Jb.mono {W:Wd}{h h':Heap}{it:It}{u:Value} (r:Jb W h it u) (k:KeepR W h h'):Jb W h' it u:=by
 cases it with
 | v x=>exact Rep.mono (v:=x) k r
 | p x y=>exact Rep.mono (v:=.tup [x,y]) k r

inductive TgX:Expr→Prop
 | name {x p}:TgX (.Name x p)
 | tup {es k p}:TgX (.Tuple es k p)
noncomputable def TgI:It→Expr→Prop
 | .v _,tx=>TgX tx
 | .p _ _,tx=>∃es k p,tx=.Tuple es k p
theorem MTg.x {K:Kc}{t:Tg}{x:Expr} (h:MTg K t x):TgX x:=by cases h;exact .name;exact .tup
theorem MTg.xi {K:Kc}{t:Tg}{x:Expr}{it:It}{ρ ρ':Loc} (h:MTg K t x) (e:Bt t it ρ=some ρ'):TgI it x:=by
 cases it with
 | v _=>exact h.x
 | p _ _=>cases h with
  | one _=>cases e
  | two _ _=>exact⟨_,_,_,rfl⟩

noncomputable def DQ (W:Wd) (c:Cx) (P:Addr→Obj→Prop) (H:Hp) (b:Addr):Prop:=W.base.get? b=none∧b∉c.all∧(∀o,¬P b o)∧H b=none

inductive ItRec (W:Wd) (b:Addr) (o:Obj):Prop
 | mk (n:String) (c:o.cls=.type n) (t:n = "tuple" → W.scr b) (d1:∀es k,o.data≠.dict es k) (d2:∀v,o.data≠.cell v)
theorem ItRec.of {W:Wd}{b:Addr}{o:Obj} (h:(∃n,o.cls=.type n∧n ≠ "tuple")∧(∃vs,o.data=.fields vs)):ItRec W b o :=
 let ⟨⟨n,h1,h2⟩,vs,h3⟩:=h;⟨n,h1,fun q=>absurd q h2,by first | exact Ap h3 rfl | exact Aq h3 rfl | (rw[h3];exact nofun),by first | exact Ap h3 rfl | exact Aq h3 rfl | (rw[h3];exact nofun)⟩
structure ItOk (W:Wd) (z:Addr→Prop) (A:Around) (I:Addr) (ad:List Addr) (w:List (Addr×Ob)) (R:List It→Heap→Prop):Prop where
 sub:∀b,W.scr b→z b
 frame:∀its h h',R its h→(∀b∈ad,∀o,h.get? b=some o→h'.get? b=some o)→R its h'
 there:∀its h,R its h→∀b∈ad,∃o,h.get? b=some o∧ItRec (W.z z) b o
 item:∀(c:Cx) (P:Addr→Obj→Prop) (ρ:Loc) (H:Hp) (s:Shared) (it:It) (its:List It) (tx:Expr) (E:Value→Shared→Prop),c.A=A→Sim (W.z z) c P ρ H s→(∀b∈ad,DQ W c P H b)→okH w H→R (it :: its) s.heap→TgI it tx →
  wpAny (model W.prog W.w) A (pyNext (.ref I)) (fun r s₁=>∃v,r=some v∧wpAny (model W.prog W.w) A (letOwnedTupleGo tx (.ref I) v) (fun ξ s₂=>Sim (W.z z) c P ρ H s₂∧KeepR (W.z z) s.heap s₂.heap∧Jb (W.z z) s₂.heap it v∧R its s₂.heap) E s₁) E s
 fin:∀(c:Cx) (P:Addr→Obj→Prop) (ρ:Loc) (H:Hp) (s:Shared) (E:Value→Shared→Prop),c.A=A→Sim (W.z z) c P ρ H s→(∀b∈ad,DQ W c P H b)→okH w H→R [] s.heap →
  wpAny (model W.prog W.w) A (pyNext (.ref I)) (fun r s₁=>r=none∧Sim W c P ρ H s₁∧KeepR (W.z z) s.heap s₁.heap) E s
 self:∀(its:List It) (s:Shared) (Q:Value→Shared→Prop) (E:Value→Shared→Prop),R its s.heap→Q (.ref I) s→wpAny (model W.prog W.w) A (pyIter (.ref I)) Q E s

section
variable {W:Wd}{A:Around}

theorem Sim.turn {c:Cx}{P:Addr→Obj→Prop}{ρ:Loc}{H:Hp}{s:Shared}{h':Heap}{tk:Nat}{d:Addr}{o:Obj} (S:Sim W c P ρ H s) (f:DQ W c P H d) (e:s.heap.get? d=some o) (hc:∃n,o.cls=.type n∧n ≠ "tuple") (hd:∃vs,o.data=.fields vs)
  (hk:∀b o,b≠d→s.heap.get? b=some o→h'.get? b=some o):Sim W c P ρ H { s with heap:=h',toks:=tk }∧KeepR W s.heap h':=by
 obtain⟨n,hc,hn⟩:=hc
 obtain⟨vs,hd⟩:=hd
 refine⟨S.change d (fun o' e'=>?_) f.1 f.2.1 f.2.2.1 hk (fun ξ ξ=>rfl) (fun o' e'=>by rw[f.2.2.2] at e';cases e'),⟨fun b o' i m e' k q ξ=>hk b o' ?_ e',fun b o' C ws e' k q=>⟨o',ws,hk b o' ?_ e',k,q⟩⟩⟩
 ·rw[e] at e';cases e'
  exact⟨by rw[hc];intro q;exact hn (by cases q;rfl),by first | exact Ap hc rfl | exact Aq hc rfl | (rw[hc];exact nofun),by first | exact Ap hd rfl | exact Aq hd rfl | (rw[hd];exact nofun)⟩
 ·rintro rfl;rw[e] at e';cases e';rw[hc] at k;exact hn (by cases k;rfl)
 ·rintro rfl;rw[e] at e';cases e';rw[hc] at k;cases k

theorem GK {I:Addr}{o:Obj}{v:Value}{tx:Expr}{n:String}{vs:Array Value}{Q:Unit→Shared→Prop}{E:Value→Shared→Prop}{s:Shared} (g:s.heap.get? I=some o) (hc:o.cls=.type n) (hd:o.data=.fields vs)
  (hn:(["enumerate", "zip", "dict_itemiterator", "dict_reverseitemiterator", "odict_iterator", "itertools.zip_longest", "itertools.pairwise"].contains n)=false) (t:TgX tx) (h:Q () s):wpAny (model W.prog W.w) A (letOwnedTupleGo tx (.ref I) v) Q E s:=by
 cases t with
 | name=>exact wpAny_pure h
 | tup =>
  unfold letOwnedTupleGo
  cases v <;> first | exact wpAny_pure h | skip
  refine wpAny_bind (wpAny_load g ?_)
  rw[hc,hd]
  dsimp only
  rw[hn,Bool.false_and]
  exact wpAny_pure h

theorem KU (hh:A.handled=none) (I l:Addr) (xs:List V):ItOk W W.scr A I [I] [(l,.list xs)] (fun its h=>∃i,h.IsListIter I l i∧its=(xs.drop i).map It.v) where
 sub:=fun ξ q=>q
 frame:=fun its h h' hR k=>by obtain⟨i,x,e⟩:=hR;exact⟨i,x.at fun o z=>k I (by simp) o z,e⟩
 there:=fun its h hR b hb=>by obtain⟨i,⟨o,x,hc,hd⟩,e⟩:=hR;simp at hb;subst hb;exact⟨o,x,_,hc,fun q=>absurd q (by decide),by first | exact Ap hd rfl | exact Aq hd rfl | (rw[hd];exact nofun),by first | exact Ap hd rfl | exact Aq hd rfl | (rw[hd];exact nofun)⟩
 item:=fun c P ρ H s it its tx E hA S f ok hR t=>by
  obtain⟨i,x,e⟩:=hR
  have ha:=ok (l,.list xs) (by simp)
  obtain⟨_,items,n,g,r⟩:=S.heap _ _ ha
  have hlt:i<xs.length:=by
   rcases Nat.lt_or_ge i xs.length with q | q
   ·exact q
   ·rw[List.drop_eq_nil_of_le q] at e;cases e
  rw[List.drop_eq_getElem_cons hlt] at e
  simp only[List.map_cons,List.cons.injEq] at e
  obtain⟨rfl,rfl⟩:=e
  obtain⟨u,e1,r1⟩:=r.get (i:=i) (v:=xs[i]) (by simp [hlt])
  obtain⟨o,ho,hc,hd⟩:=id x
  have hl:s.heap.IsList l items:=⟨_,g,rfl,n,rfl⟩
  refine wpAny_pyNext_list_item x hl (x:=u) (by simpa using e1) fun h' x' hs'=>⟨u,rfl,?_⟩
  have hk:∀b o,b≠I→s.heap.get? b=some o→h'.get? b=some o:=fun b o q e=>hs'.extBut b o q e
  obtain⟨S',kr⟩:=S.turn (tk:=s.toks) (f I (by simp)) ho ⟨_,hc,by decide⟩ ⟨_,hd⟩ hk
  obtain⟨o',ho',hc',hd'⟩:=id x'
  exact GK (s:={ s with heap:=h' }) ho' hc' hd' (by decide) t ⟨S',kr,r1.mono kr,i+1,x',rfl⟩
 fin:=fun c P ρ H s E hA S f ok hR=>by
  obtain⟨i,x,e⟩:=hR
  have ha:=ok (l,.list xs) (by simp)
  obtain⟨_,items,n,g,r⟩:=S.heap _ _ ha
  obtain⟨o,ho,hc,hd⟩:=id x
  have hl:s.heap.IsList l items:=⟨_,g,rfl,n,rfl⟩
  have hge:xs.length≤i:=by
   rcases Nat.lt_or_ge i xs.length with q | q
   ·rw[List.drop_eq_getElem_cons q] at e;cases e
   ·exact q
  have hsz:items.size=xs.length:=by rw[r.length];simp
  refine wpAny_pyNext_list_end hh x hl (by simp;exact lA [] [_,_,_] (.n 0) (.n 1) [.L (.n 2) (.n 1),.E (.n 0) (.n 2)] [1,1,1] rfl hge hsz) fun h' hs'=>⟨rfl,?_⟩
  exact S.turn (tk:=s.toks) (f I (by simp)) ho ⟨_,hc,by decide⟩ ⟨_,hd⟩ fun b o q e=>hs' b o q e
 self:=fun its s Q E hR h=>by obtain⟨i,x,e⟩:=hR;exact wpAny_pyIter_listiter x h

theorem JB (hh:A.handled=none) (I:Addr) (st:Int):ItOk W W.scr A I [I] [] (fun its h=>∃(x:Int) (n:Nat),IsRangeIter h I x n st∧its=Bm x st n) where
 sub:=fun ξ q=>q
 frame:=fun its h h' hR k=>by obtain⟨i,n,x,e⟩:=hR;exact⟨i,n,k I (by simp) _ x,e⟩
 there:=fun its h hR b hb=>by obtain⟨i,n,x,e⟩:=hR;simp at hb;subst hb;exact⟨_,x,_,rfl,fun q=>absurd q (by decide),by first | exact Ap rfl rfl | exact Aq rfl rfl | exact nofun,by first | exact Ap rfl rfl | exact Aq rfl rfl | exact nofun⟩
 item:=fun c P ρ H s it its tx E hA S f ok hR t=>by
  obtain⟨i,n,x,e⟩:=hR
  cases n with
  | zero=>cases e
  | succ n =>
   rw[DX] at e
   simp only[List.cons.injEq] at e
   obtain⟨rfl,rfl⟩:=e
   refine wpAny_pyNext_range_item x (by exact lb [] [_] (.c 0) (.t (.a (.n 0) (.c 1))) [] [1] rfl) fun h' x' hs'=>⟨_,rfl,?_⟩
   obtain⟨S',kr⟩:=S.turn (tk:=s.toks+1) (f I (by simp)) x ⟨_,rfl,by decide⟩ ⟨_,rfl⟩ fun b o q e=>hs'.extBut b o q e
   have x'':IsRangeIter h' I (i+st) n st:=by
    have e:((n+1:Nat):Int)-1=n:=by exact lq [] [_] (.s (.t (.a (.n 0) (.c 1))) (.c 1)) (.t (.n 0)) [] [1] [1] rfl
    rw[e] at x';exact x'
   exact GK (s:={ s with heap:=h',toks:=s.toks+1 }) x'' rfl rfl (by decide) t ⟨S',kr,Rep.int (W:=W) (h:=h') _ _,_,n,x'',rfl⟩
 fin:=fun c P ρ H s E hA S f ok hR=>by
  obtain⟨i,n,x,e⟩:=hR
  cases n with
  | succ n=>rw[DX] at e;cases e
  | zero =>
   refine wpAny_pyNext_range_end hh x (by simp) fun h' hs'=>⟨rfl,?_⟩
   exact S.turn (tk:=s.toks) (f I (by simp)) x ⟨_,rfl,by decide⟩ ⟨_,rfl⟩ fun b o q e=>hs' b o q e
 self:=fun its s Q E hR h=>by obtain⟨i,n,x,e⟩:=hR;exact wpAny_pyIter_rangeiter x h
end
end Mine.Internal
end

section
namespace Mine.Internal
open PySem PySem.W PySem.Calls PyProof.Rows PySem.SeqAt
section
variable {W:Wd}{T:Tx W}{c:Cx}{K:Kc}{hd:Bool}{G:Gl}

inductive Itr (W:Wd) (c:Cx) (P:Addr→Obj→Prop) (ρ:Loc) (KK:List It→List (Addr×Ob)→Hp→Prop) (it:Value) (s₂:Shared):Prop
 | mk (I:Addr) (ad:List Addr) (w:List (Addr×Ob)) (R:List It→Heap→Prop) (its:List It) (H₂:Hp) (z:Addr→Prop) (e:it=.ref I) (k:ItOk W z c.A I ad w R) (r:R its s₂.heap) (S:Sim (W.z z) c P ρ H₂ s₂) (f:∀b∈ad,DQ W c P H₂ b) (q:KK its w H₂)
noncomputable def SS (W:Wd) (c:Cx) (G:Gl) (hd:Bool) (src:Sr) (sx:Expr):Prop:=∀(P:Addr→Obj→Prop) (ρ:Loc) (H:Hp) (s:Shared) (KK:List It→List (Addr×Ob)→Hp→Prop) (X:String→Hp→Prop),hd=false→Sim W c P ρ H s→CS G hd src ρ KK X H →
 wpAny (model W.prog W.w) c.A (eval sx c.env) (fun xv s₁=>wpAny (model W.prog W.w) c.A (pyIter xv) (Itr W c P ρ KK) (EX W c P ρ X) s₁) (EX W c P ρ X) s

theorem Sim.free {P:Addr→Obj→Prop}{ρ:Loc}{H:Hp}{s:Shared} (S:Sim W c P ρ H s) {a:Addr} (h:s.heap.get? a=none):DQ W c P H a:=S.fresh h

theorem ss_ex {e x} (C:CxOk T c K hd) (h:SE W c G hd e x):SS W c G hd (.ex e) x:=fun P ρ H s KK X hf S w=>by
 replace w:=LX.mp w
 refine wpAny_mono (h P ρ H s _ X S w) (fun u s₁ hx=>?_) fun ξ ξ x=>x
 obtain⟨v,H₁,S₁,r,q⟩:=hx
 obtain⟨a,rfl,q⟩:=AU q
 cases r
 obtain⟨xs,ea,q⟩:=Hm q
 obtain⟨_,it,n,g,ri⟩:=S₁.heap _ _ ea
 refine wpAny_pyIter_list (items:=it) ⟨_,g,rfl,n,rfl⟩ ?_
 refine⟨s₁.heap.objs.size,_,_,_,_,H₁,W.scr,rfl,KU (C.hand hf) s₁.heap.objs.size a xs,⟨0,⟨_,Heap.get?_push_size _ rfl,rfl,rfl⟩,rfl⟩,S₁.grow (tk:=s₁.toks) fun b o e=>Heap.get?_push_of_some _ e,fun b hb=>?_,by simpa using q⟩
 simp at hb;subst hb
 exact S₁.free (AD _)

theorem GG {P:Addr→Obj→Prop}{ρ:Loc}{H:Hp}{s:Shared}{KK:List It→List (Addr×Ob)→Hp→Prop}{E:Value→Shared→Prop}{a b st:Int}{t u v:Tok}{r:Addr} (hh:c.A.handled=none) (S:Sim W c P ρ H s) (hr:IsRange s.heap r a b st t u v) (hs:Builtin.Range.small a b st=true)
  (hz:Builtin.Range.rangeSize a b st=(Bj a b st:Nat)) (q:KK (Bm a st (Bj a b st)) [] H):wpAny (model W.prog W.w) c.A (pyIter (.ref r)) (Itr W c P ρ KK) E s:=by
 refine wpAny_pyIter_range hr hs ?_
 rw[hz]
 refine⟨s.heap.objs.size,_,_,_,_,H,W.scr,rfl,JB hh s.heap.objs.size st,⟨a,Bj a b st,Heap.get?_push_size _ rfl,rfl⟩,S.grow (tk:=s.toks) fun b o e=>Heap.get?_push_of_some _ e,fun b hb=>?_,q⟩
 simp at hb;subst hb
 exact S.free (AD _)

theorem Ds {a b st:Int} (h:st≠0):Builtin.Range.rangeSize a b st=(Bj a b st:Nat):=by
 unfold Builtin.Range.rangeSize Bj
 by_cases c:st > 0
 ·rw[if_pos c,if_pos c]
  by_cases q:a<b
  ·rw[if_pos q]
   have e:(b-a+st-1) / st=(b-a-1) / st+1:=by
    rw[show b-a+st-1=(b-a-1)+1*st by exact lq [_,_,_] [] (.s (.a (.s (.v 0) (.v 1)) (.v 2)) (.c 1)) (.a (.s (.s (.v 0) (.v 1)) (.c 1)) (.m 1 (.v 2))) [] [1] [1] rfl,Int.add_mul_ediv_right _ _ h]
   rw[e]
   have:0≤(b-a-1) / st:=Int.ediv_nonneg (by exact la [_,_] [] (.c 0) (.s (.s (.v 0) (.v 1)) (.c 1)) [.b (.v 1) (.v 0)] [1,1] rfl q) (by exact la [_] [] (.c 0) (.v 0) [.b (.c 0) (.v 0)] [1,1] rfl c)
   exact lq [_] [_] (.a (.v 0) (.c 1)) (.t (.n 0)) [.e (.t (.n 0)) (.a (.v 0) (.c 1)),.l (.a (.v 0) (.c 1)) (.t (.n 0))] [1,1,0] [1,-1,0] rfl (tnE (a:=(b-a-1) / st+1) (la [_] [] (.c 0) (.a (.v 0) (.c 1)) [.l (.c 0) (.v 0)] [1,1] rfl this)) (tn0 (a:=(b-a-1) / st+1))
  ·rw[if_neg q]
   have:(b-a+st-1) / st≤0:=by
    have:=Int.ediv_le_ediv (c:=st) c (show b-a+st-1≤st-1 by exact la [_,_,_] [] (.s (.a (.s (.v 0) (.v 1)) (.v 2)) (.c 1)) (.s (.v 2) (.c 1)) [.l (.v 0) (.v 1)] [1,1] rfl (Int.not_lt.mp q))
    rw[Int.ediv_eq_zero_of_lt (a:=st-1) (by exact la [_] [] (.c 0) (.s (.v 0) (.c 1)) [.b (.c 0) (.v 0)] [1,1] rfl c) (by exact lb [_] [] (.s (.v 0) (.c 1)) (.v 0) [] [1] rfl)] at this
    exact this
   exact lq [] [_] (.c 0) (.t (.n 0)) [.E (.n 0) (.c 0)] [1,1] [1,-1] rfl (tnZ (a:=(b-a+st-1) / st) (this))
 ·rw[if_neg c,if_neg c]
  by_cases q:a > b
  ·rw[if_pos q]
   have e:(a-b-st-1) / (-st)=(a-b-1) / (-st)+1:=by
    rw[show a-b-st-1=(a-b-1)+1*(-st) by exact lq [_,_,_] [] (.s (.s (.s (.v 0) (.v 1)) (.v 2)) (.c 1)) (.a (.s (.s (.v 0) (.v 1)) (.c 1)) (.m 1 (.g (.v 2)))) [] [1] [1] rfl,Int.add_mul_ediv_right _ _ (by omega)]
   rw[e]
   have:0≤(a-b-1) / (-st):=Int.ediv_nonneg (by exact la [_,_] [] (.c 0) (.s (.s (.v 0) (.v 1)) (.c 1)) [.b (.v 1) (.v 0)] [1,1] rfl q) (by exact la [_] [] (.c 0) (.g (.v 0)) [.l (.v 0) (.c 0)] [1,1] rfl (Int.not_lt.mp c))
   exact lq [_] [_] (.a (.v 0) (.c 1)) (.t (.n 0)) [.e (.t (.n 0)) (.a (.v 0) (.c 1)),.l (.a (.v 0) (.c 1)) (.t (.n 0))] [1,1,0] [1,-1,0] rfl (tnE (a:=(a-b-1) / -st+1) (la [_] [] (.c 0) (.a (.v 0) (.c 1)) [.l (.c 0) (.v 0)] [1,1] rfl this)) (tn0 (a:=(a-b-1) / -st+1))
  ·rw[if_neg q]
   have:(a-b-st-1) / (-st)≤0:=by
    have:=Int.ediv_le_ediv (c:=-st) (by omega) (show a-b-st-1≤-st-1 by exact la [_,_,_] [] (.s (.s (.s (.v 0) (.v 1)) (.v 2)) (.c 1)) (.s (.g (.v 2)) (.c 1)) [.l (.v 0) (.v 1)] [1,1] rfl (Int.not_lt.mp q))
    rw[Int.ediv_eq_zero_of_lt (a:=-st-1) (by omega) (by exact lb [_] [] (.s (.g (.v 0)) (.c 1)) (.g (.v 0)) [] [1] rfl)] at this
    exact this
   exact lq [] [_] (.c 0) (.t (.n 0)) [.E (.n 0) (.c 0)] [1,1] [1,-1] rfl (tnZ (a:=(a-b-st-1) / -st) (this))
theorem Kq (a b:Int):Bj a b 1=(b-a).toNat:=by unfold Bj;simp
theorem Gj {a b st:Int} (ha:Ix a) (hb:Ix b) (hs:Ix st) (h:st≠0):Builtin.Range.small a b st=true:=by
 unfold Ix at *
 have hz:0≤Builtin.Range.rangeSize a b st∧Builtin.Range.rangeSize a b st≤9223372036854775807:=by
  rw[Ds h]
  refine⟨by exact la [] [_] (.c 0) (.t (.n 0)) [] [1] rfl,?_⟩
  unfold Bj
  by_cases c:0<st
  ·rw[if_pos c]
   have e:(b-a+st-1) / st=(b-a-1) / st+1:=by
    rw[show b-a+st-1=(b-a-1)+1*st by exact lq [_,_,_] [] (.s (.a (.s (.v 0) (.v 1)) (.v 2)) (.c 1)) (.a (.s (.s (.v 0) (.v 1)) (.c 1)) (.m 1 (.v 2))) [] [1] [1] rfl,Int.add_mul_ediv_right _ _ h]
   rw[e]
   by_cases q:0≤b-a-1
   ·have:=Int.ediv_le_self (b:=st) q
    omega
   ·have:=Int.ediv_neg_of_neg_of_pos (show b-a-1<0 by exact (Int.not_le.mp q)) c
    exact la [] [_] (.t (.n 0)) (.c 9223372036854775807) [.E (.n 0) (.c 0)] [1,1] rfl (tnZ (a:=(b-a-1) / st+1) (la [_] [] (.a (.v 0) (.c 1)) (.c 0) [.b (.v 0) (.c 0)] [1,1] rfl this))
  ·rw[if_neg c]
   have e:(a-b-st-1) / (-st)=(a-b-1) / (-st)+1:=by
    rw[show a-b-st-1=(a-b-1)+1*(-st) by exact lq [_,_,_] [] (.s (.s (.s (.v 0) (.v 1)) (.v 2)) (.c 1)) (.a (.s (.s (.v 0) (.v 1)) (.c 1)) (.m 1 (.g (.v 2)))) [] [1] [1] rfl,Int.add_mul_ediv_right _ _ (by omega)]
   rw[e]
   by_cases q:0≤a-b-1
   ·have:=Int.ediv_le_self (b:=-st) q
    omega
   ·have:=Int.ediv_neg_of_neg_of_pos (show a-b-1<0 by exact (Int.not_le.mp q)) (show 0 < -st by omega)
    exact la [] [_] (.t (.n 0)) (.c 9223372036854775807) [.E (.n 0) (.c 0)] [1,1] rfl (tnZ (a:=(a-b-1) / -st+1) (la [_] [] (.a (.v 0) (.c 1)) (.c 0) [.b (.v 0) (.c 0)] [1,1] rfl this))
 unfold Builtin.Range.small
 simp only[Builtin.Range.rangeFitsLong,Bool.and_eq_true,Bool.or_eq_true,decide_eq_true_eq,beq_iff_eq]
 refine⟨⟨⟨⟨by exact⟨la [_] [] (.c (-(2 ^ 63))) (.v 0) [.b (.c (-4611686018427387904)) (.v 0)] [1,1] rfl ha.1,lb [_] [] (.v 0) (.c (2 ^ 63)) [.b (.v 0) (.c 4611686018427387904)] [1,1] rfl ha.2⟩,by exact⟨la [_] [] (.c (-(2 ^ 63))) (.v 0) [.b (.c (-4611686018427387904)) (.v 0)] [1,1] rfl hb.1,lb [_] [] (.v 0) (.c (2 ^ 63)) [.b (.v 0) (.c 4611686018427387904)] [1,1] rfl hb.2⟩⟩,by exact⟨la [_] [] (.c (-(2 ^ 63))) (.v 0) [.b (.c (-4611686018427387904)) (.v 0)] [1,1] rfl hs.1,lb [_] [] (.v 0) (.c (2 ^ 63)) [.b (.v 0) (.c 4611686018427387904)] [1,1] rfl hs.2⟩⟩,by exact⟨la [_] [] (.c (-(2 ^ 63))) (.v 0) [.l (.c 0) (.v 0)] [1,1] rfl hz.1,lb [_] [] (.v 0) (.c (2 ^ 63)) [.l (.v 0) (.c 9223372036854775807)] [1,1] rfl hz.2⟩⟩,?_⟩
 right
 split <;> simp only[Bool.and_eq_true,decide_eq_true_eq] <;> (first | exact⟨la [_,_] [] (.c (-(2 ^ 63))) (.a (.v 0) (.s (.v 1) (.c 1))) [.b (.c (-4611686018427387904)) (.v 0),.b (.c (-4611686018427387904)) (.v 1)] [1,1,1] rfl hb.1 hs.1,lb [_,_] [] (.a (.v 0) (.s (.v 1) (.c 1))) (.c (2 ^ 63)) [.b (.v 0) (.c 4611686018427387904),.b (.v 1) (.c 4611686018427387904)] [1,1,1] rfl hb.2 hs.2⟩ | exact⟨la [_,_] [] (.c (-(2 ^ 63))) (.a (.v 0) (.a (.v 1) (.c 1))) [.b (.c (-4611686018427387904)) (.v 0),.b (.c (-4611686018427387904)) (.v 1)] [1,1,1] rfl hb.1 hs.1,lb [_,_] [] (.a (.v 0) (.a (.v 1) (.c 1))) (.c (2 ^ 63)) [.b (.v 0) (.c 4611686018427387904),.b (.v 1) (.c 4611686018427387904)] [1,1,1] rfl hb.2 hs.2⟩)

theorem Os (n:Int):Builtin.Range.rangeSize 0 n 1=(Bj 0 n 1:Nat):=Ds (by decide)
theorem N8 {n:Int} (h:Ix n):Builtin.Range.small 0 n 1=true:=Gj ⟨by decide,by decide⟩ h ⟨by decide,by decide⟩ (by decide)
theorem Ks {b x q p} (C:CxOk T c K hd) (g:K.gl (Str.ofString "range")=true) (m:Pl x) (h:SE W c G hd b x):SS W c G hd (.range1 b) (.Call (.Name (Str.ofString "range") q) [x] [] p):=fun P ρ H s KK X hf S w=>by
 replace w:=Jp.mp w
 refine wpAny_Call_Name_kw (AG C S g T.rng ?_)
 rw[m.star]
 refine PySem.callWith_type rfl (evalArgs_plain (spliced_cons (wpAny_mono (h P ρ H s _ X S w) (fun u s₁ hPt=>?_) fun ξ ξ x=>x)))
 obtain⟨v,H₁,S₁,r,q⟩:=hPt
 refine spliced_nil ?_
 obtain⟨n,rfl,hn,q⟩:=AV q
 obtain⟨t,rfl⟩:=r
 refine call_range_1 ?_
 exact GG (s:={ s₁ with heap:=s₁.heap.push { cls:=.type "range",data:=.fields #[.int 0 s₁.toks,.int n _,.int 1 (s₁.toks+1)] },toks:=s₁.toks+1+1 }) (C.hand hf) (S₁.grow fun b o e=>Heap.get?_push_of_some _ e) (IsRange.new ..) (N8 hn) (Os _) (by rw[Kq];simpa using q)
theorem Kr {a b d x y z q p} (C:CxOk T c K hd) (g:K.gl (Str.ofString "range")=true) (m:Pl x) (m':Pl y) (m'':Pl z) (h1:SE W c G hd a x) (h2:SE W c G hd b y) (h3:SE W c G hd d z):SS W c G hd (.range3 a b d) (.Call (.Name (Str.ofString "range") q) [x,y,z] [] p):=fun P ρ H s KK X hf S w=>by
 replace w:=Go.mp w
 refine wpAny_Call_Name_kw (AG C S g T.rng ?_)
 rw[m.star,m'.star,m''.star]
 refine PySem.callWith_type rfl (evalArgs_plain (spliced_cons (wpAny_mono (h1.two h2 S w) (fun u s₁ h₁=>spliced_cons (wpAny_mono h₁ (fun u' s₂ hPt=>?_) fun ξ ξ x=>x)) fun ξ ξ x=>x)))
 obtain⟨v,v',H₂,S₂,r,r',q⟩:=hPt
 refine spliced_cons (wpAny_mono (h3.max S₂ q) (fun u'' s₃ hPt=>?_) fun ξ ξ x=>x)
 obtain⟨k,v'',H₃,S₃,r'',q⟩:=hPt
 refine spliced_nil ?_
 have r:=r.mono k
 have r':=r'.mono k
 obtain⟨lo,rfl,q1⟩:=AV q
 obtain⟨hi,st,t,t',rfl,rfl,hl,hn,hs,h0,q2⟩:=Bc q1 r' r''
 obtain⟨t₀,rfl⟩:=r
 refine call_range_3 h0 ?_ (.inl ?_)
 ·exact GG (s:={ s₃ with heap:=s₃.heap.push { cls:=.type "range",data:=.fields #[.int _ _,.int _ _,.int _ _] },toks:=s₃.toks }) (C.hand hf) (S₃.grow fun b o e=>Heap.get?_push_of_some _ e) (IsRange.new ..) (Gj hl hn hs h0) (Ds h0) q2
 ·refine PyProof.noPylong_of_log2 ?_
  unfold Ix at hs
  refine (Nat.log2_lt (by omega)).mpr (Nat.lt_of_lt_of_le (m:=2 ^ 62) (by omega) (Nat.pow_le_pow_right (by decide) (by decide)))
end
end Mine.Internal
end

section
namespace Mine.Internal
open PySem PySem.W PySem.Calls PyProof.Rows PySem.SeqAt
section
variable {prog:Program}{w:World}{A:Around}{E:Value→Shared→Prop}{s:Shared}
theorem Fc {it:Addr}{x left step:Int}{Q:Value→Shared→Prop} (hit:IsRangeIter s.heap it x left step) (hleft:0<left)
  (hQ:∀h',IsRangeIter h' it (x+step) (left-1) step→Heap.SameBut it s.heap h'→Q (.int x s.toks) { s with heap:=h',toks:=s.toks+1 }) :
  wpAny (model prog w) A (Builtin.SmallTypes.nextOf (.ref it)) Q E s:=by
 have hT:s.TypeIs (.ref it) "range_iterator" := ⟨_,hit,rfl⟩
 unfold Builtin.SmallTypes.nextOf
 refine wpAny_bind (wpAny_callSpecial?_slot (name:=Str.ofString "__next__") hT F.slot_range_iterator_next
  (call_meets F.slot_range_iterator_next hT F.entry_range_iterator_next (F.args_range_iterator_next_1 _) (AutoRange.range_iterator___next___range_iterator_1 it x left step (by exact lf [_] [] [.b (.c 0) (.v 0),.l (.v 0) (.c 0)] [1,1] rfl hleft)) ⟨hit,?_⟩))
 exact wpAny_pure (hQ _ (Heap.get?_update_self _ (Heap.get?_update_self _ hit rfl) rfl) ((Heap.SameBut.update ..).trans (Heap.SameBut.update ..)))
theorem Fu {it:Addr}{x left step:Int}{Q:Value→Shared→Prop} (hh:A.handled=none) (hit:IsRangeIter s.heap it x left step) (hleft:left≤0)
  (hE:∀h' e,Heap.ExtBut it s.heap h'→(∃o,h'.get? e=some o∧o.cls=.type "StopIteration")→E (.ref e) { s with heap:=h' }):wpAny (model prog w) A (Builtin.SmallTypes.nextOf (.ref it)) Q E s:=by
 have hT:s.TypeIs (.ref it) "range_iterator" := ⟨_,hit,rfl⟩
 unfold Builtin.SmallTypes.nextOf
 refine wpAny_bind (wpAny_callSpecial?_slot (name:=Str.ofString "__next__") hT F.slot_range_iterator_next
  (wpAny_call_entry F.slot_range_iterator_next hT F.entry_range_iterator_next ?_ (F.args_range_iterator_next_1 _)))
 show wpAny _ _ (field (.ref it) 0 >>= _) _ _ s
 refine wpAny_bind (wpAny_field hit rfl (x:=rawInt x) rfl ?_)
 show wpAny _ _ (field (.ref it) 1 >>= _) _ _ s
 refine wpAny_bind (wpAny_field hit rfl (x:=rawInt left) rfl ?_)
 show wpAny _ _ (field (.ref it) 2 >>= _) _ _ s
 refine wpAny_bind (wpAny_field hit rfl (x:=rawInt step) rfl ?_)
 show wpAny _ _ (if left≤0 then _ else _) _ _ s
 rw[if_pos hleft]
 refine wpAny_bind (wpAny_rule ?_)
 refine wpAny_bind ?_
 show wpAny _ _ (newExc (.type "StopIteration") [] >>= _) _ _ _
 refine wpAny_bind ?_
 simp only[newExc,newTuple]
 refine wpAny_bind (wpAny_newObj_type ?_ (by size_fits))
 refine wpAny_bind (m:=firstArgMember _ _) (wpAny_of_eq (a:=Value.none) (by first | rfl | (simp only[firstArgMember];rfl)) ?_)
 refine wpAny_newObj_type ?_ (by size_fits)
 simp only[raiseNew]
 refine wpAny_bind (wpAny_handled ?_)
 first | rw[show A.in1.handled=none from hh] | rw[hh]
 refine wpAny_bind (wpAny_pure (wpAny_throw ?_))
 exact hE _ _ (((Heap.ExtBut.refl it s.heap).push _).push _) ⟨_,Heap.get?_push_size _ rfl,rfl⟩
end
theorem J1 {prog:Program}{w:World}{A:Around} (hh:A.handled=none) (it:Addr) (a st:Int) (n:Nat) :
  Draws prog w A it [it] n (fun i v=>∃t,v=.int (a+(i:Int)*st) t) (fun i h=>i≤n∧IsRangeIter h it (a+(i:Int)*st) ((n-i:Nat):Int) st) where
 live:=fun ξ ξ x=>⟨_,x.2⟩
 frame:=fun ξ ξ ξ x hk=>⟨x.1,hk it (by simp) _ x.2⟩
 item:=fun i s Q E hi x hQ=>by
  refine Fc x.2 (by exact lb [] [_,_,_] (.c 0) (.t (.n 0)) [.B (.n 1) (.n 2),.L (.n 2) (.a (.n 0) (.n 1))] [1,1,1] rfl hi (ns1 (a:=n) (b:=i))) fun h' hit' hs'=>?_
  refine hQ _ h' (s.toks+1) ⟨_,rfl⟩ ⟨by exact lA [] [_,_] (.a (.n 0) (.c 1)) (.n 1) [.B (.n 0) (.n 1)] [1,1] rfl hi,?_⟩ hs'
  have e1:a+(i:Int)*st+st=a+((i+1:Nat):Int)*st:=by rw[Int.natCast_succ,Int.add_mul];exact lq [_,_,_] [] (.a (.a (.v 0) (.v 1)) (.v 2)) (.a (.v 0) (.a (.v 1) (.m 1 (.v 2)))) [] [1] [1] rfl
  have e2:((n-i:Nat):Int)-1=((n-(i+1):Nat):Int):=by exact lq [] [_,_,_,_] (.s (.t (.n 0)) (.c 1)) (.t (.n 1)) [.E (.a (.n 0) (.n 2)) (.n 3),.E (.a (.n 1) (.a (.n 2) (.c 1))) (.n 3)] [1,-1,1] [1,1,-1] rfl (nsE (a:=n) (b:=i) (x.1)) (nsE (a:=n) (b:=i+1) (lA [] [_,_] (.a (.n 0) (.c 1)) (.n 1) [.B (.n 0) (.n 1)] [1,1] rfl hi))
  rw[e1,e2] at hit';exact hit'
 done:=fun s Q E x hE=>Fu hh x.2 (by exact la [] [_,_] (.t (.n 0)) (.c 0) [.E (.a (.n 0) (.n 1)) (.n 1)] [1,1] rfl (nsE (a:=n) (b:=n) (x.1))) hE
theorem Sim.turnZ {W:Wd}{z:Addr→Prop}{c:Cx}{P:Addr→Obj→Prop}{ρ:Loc}{H:Hp}{s:Shared}{h':Heap}{tk:Nat}{ad:List Addr} (hz:∀b,W.scr b→z b) (S:Sim (W.z z) c P ρ H s) (f:∀b∈ad,DQ W c P H b)
  (th:∀b∈ad,∀o,s.heap.get? b=some o→ItRec (W.z z) b o) (ht:∀b∈ad,W.scr b→TupAt s.heap b→TupAt h' b) (hk:∀b o,b∉ad→s.heap.get? b=some o→h'.get? b=some o) :
  Sim W c P ρ H { s with heap:=h',toks:=tk }∧KeepR (W.z z) s.heap h':=by
 have kr:KeepR (W.z z) s.heap h':=⟨fun b o i m e k q nz=>hk b o (fun hb=>by obtain⟨n,h1,h2,_,_⟩:=th b hb o e;rw[h1] at k;exact nz (h2 (by cases k;rfl))) e,
  fun b o C ws e k q=>⟨o,ws,hk b o (fun hb=>by obtain⟨n,h1,_,_,_⟩:=th b hb o e;rw[h1] at k;cases k) e,k,q⟩⟩
 have nz:Ie (W.z z) W.scr s.heap:=fun ξ ξ ξ ξ ξ ξ ξ q w=>q (hz _ w)
 have nall:∀b,b∈c.all→b∉ad:=fun b hb q=>(f b q).2.1 hb
 have nH:∀b o,H b=some o→b∉ad:=fun b o e q=>by rw[(f b q).2.2.2] at e;cases e
 refine⟨⟨?_,fun b o e=>hk b o (fun q=>by rw[(f b q).1] at e;cases e) (S.base b o e),AM S.frames fun b hb o e d=>⟨o,hk b o (nall b (Cx.mem_all_frs hb)) e,d⟩,fun p hp=>?_,?_,S.locOwn,S.ownNew,S.ownOut,
  fun a o e=>(S.heap a o e).atZ kr nz (fun ob q=>hk a ob (nH a o e) q) (fun ξ q=>.inl q),S.new,S.apart,fun b o p=>hk b o (fun q=>(f b q).2.2.1 o p) (S.prot b o p),S.protH,S.protF,fun x a e=>?_,fun b hb=>?_,fun b hb=>?_⟩,kr⟩
 ·obtain⟨h,tk',rfl⟩:=S.rest;exact⟨h',tk,rfl⟩
 ·obtain⟨o,es,ep,e,r⟩:=S.outer p hp
  exact⟨o,es,ep,hk _ _ (nall _ (Cx.mem_all_outer hp)) e,r⟩
 ·obtain⟨m,⟨o,es,ep,e,r⟩,hv⟩:=S.loc
  refine⟨m,⟨o,es,ep,hk _ _ (nall _ (Cx.mem_all_own S.locOwn)) e,r⟩,fun i x v h1 h2 h3=>(hv i x v h1 h2 h3).monoZ kr nz fun cl o u ξ ho hq=>⟨o,hk _ _ (fun q=>?_) ho,rfl⟩⟩
  obtain⟨_,_,_,_,hd⟩:=th _ q o ho;exact hd _ hq
 ·obtain⟨u,o,e1,e2⟩:=S.cells x a e
  exact⟨u,o,hk a o (fun q=>by obtain⟨_,_,_,_,hd⟩:=th _ q o e1;exact hd _ e2) e1,e2⟩
 ·obtain⟨o,e,q⟩:=S.ownD b hb
  exact⟨o,hk b o (nall b (hb.elim Cx.mem_all_own Cx.mem_all_frs)) e,q⟩
 ·by_cases q:b∈ad
  ·exact ht b q hb (S.scr b (hz b hb))
  ·exact (S.scr b (hz b hb)).at fun o e ξ ξ=>hk b o q e
theorem Sim.turnS {W:Wd}{c:Cx}{P:Addr→Obj→Prop}{ρ:Loc}{H:Hp}{s:Shared}{h':Heap}{tk:Nat}{ad:List Addr} (S:Sim W c P ρ H s) (f:∀b∈ad,DQ W c P H b)
  (th:∀b∈ad,∀o,s.heap.get? b=some o→(∃n,o.cls=.type n∧n ≠ "tuple")∧(∃vs,o.data=.fields vs)) (hk:∀b o,b∉ad→s.heap.get? b=some o→h'.get? b=some o) :
  Sim W c P ρ H { s with heap:=h',toks:=tk }∧KeepR W s.heap h' :=
 Sim.turnZ (z:=W.scr) (fun ξ q=>q) S f (fun b hb o e=>.of (th b hb o e)) (fun b hb ξ hPt=>by obtain⟨o,i,n,e,k,d⟩:=hPt;obtain⟨_,vs,q⟩:=th b hb o e;rw[d] at q;cases q) hk
section
variable {W:Wd}{A:Around}
theorem two_th {h:Heap}{e it:Addr}{o1 o2:Obj} (x:h.get? e=some o1) (y:h.get? it=some o2) (h1:(∃n,o1.cls=.type n∧n ≠ "tuple")∧(∃vs,o1.data=.fields vs)) (h2:(∃n,o2.cls=.type n∧n ≠ "tuple")∧(∃vs,o2.data=.fields vs)) :
  ∀b∈[e,it],∀o,h.get? b=some o→(∃n,o.cls=.type n∧n ≠ "tuple")∧(∃vs,o.data=.fields vs):=fun b hb o eo=>by
 rcases List.mem_cons.mp hb with rfl | hb
 ·rw[x] at eo;exact Option.some.inj eo▸h1
 ·rw[List.mem_singleton.mp hb,y] at eo;exact Option.some.inj eo▸h2
inductive EnG (e it:Addr) (n:Nat) (val:Nat→V) (R:Nat→Heap→Prop) (its:List It) (h:Heap):Prop
 | mk (i:Nat) (old:Value) (hi:i≤n) (x:IsEnum h e it (i:Int) old) (y:R i h) (e':its=((List.range n).drop i).map fun (j:Nat)=>It.p (.int j) (val j))
structure EnD (W:Wd) (A:Around) (e it:Addr) (w:List (Addr×Ob)) (n:Nat) (val:Nat→V) (R:Nat→Heap→Prop):Prop where
 th:∀i h,R i h→∃o,h.get? it=some o∧(∃n,o.cls=.type n∧n ≠ "tuple")∧(∃vs,o.data=.fields vs)
 fr:∀i h h',R i h→(∀o,h.get? it=some o→h'.get? it=some o)→R i h'
 dr:∀c P ρ H s,Sim W c P ρ H s→okH w H→∃(fp:List Addr) (Pv:Nat→Value→Prop) (St:Nat→Heap→Prop),Draws W.prog W.w A.in1 it fp n Pv St∧e∉fp∧it∈fp∧(∀i,R i s.heap→St i s.heap)∧(∀i h,St i h→R i h)∧∀i v,i<n→Pv i v→Rep W s.heap (val i) v
theorem EnD.two {e it:Addr}{w:List (Addr×Ob)}{n i:Nat}{val:Nat→V}{R:Nat→Heap→Prop}{h:Heap}{oe:Obj} (D:EnD W A e it w n val R) (x:h.get? e=some oe) (xe:(∃n,oe.cls=.type n∧n ≠ "tuple")∧(∃vs,oe.data=.fields vs)) (y:R i h) :
  ∀b∈[e,it],∀o,h.get? b=some o→(∃n,o.cls=.type n∧n ≠ "tuple")∧(∃vs,o.data=.fields vs):=by
 obtain⟨o,z,q⟩:=D.th i h y
 exact two_th x z xe q
theorem GE {e it:Addr}{w:List (Addr×Ob)}{n:Nat}{val:Nat→V}{R:Nat→Heap→Prop} (hne:e≠it) (D0:EnD W A e it w n val R):ItOk W W.scr A e [e,it] w (EnG e it n val R) where
 sub:=fun ξ q=>q
 frame:=fun its h h' hR k=>by
  obtain⟨i,old,hi,x,y,e'⟩:=hR
  exact⟨i,old,hi,k e (List.mem_cons_self ..) _ x,D0.fr i h h' y fun o z=>k it (List.mem_cons_of_mem _ (List.mem_cons_self ..)) o z,e'⟩
 there:=fun its h hR b hb=>by
  obtain⟨i,old,hi,x,y,e'⟩:=hR
  rcases List.mem_cons.mp hb with rfl | hb
  ·exact⟨_,x,.of ⟨⟨_,rfl,by decide⟩,_,rfl⟩⟩
  ·rw[List.mem_singleton.mp hb]
   obtain⟨o,z,q⟩:=D0.th i h y
   exact⟨o,z,.of q⟩
 item:=fun c P ρ H s itm its tx E hA S f ok hR t=>by
  obtain⟨i,old,hi,x,y,e'⟩:=hR
  obtain⟨fp,Pv,St,Dr,h1,h2,hs,hr,hv⟩:=D0.dr c P ρ H s S ok
  have hlt:i<n:=by
   rcases Nat.lt_or_ge i n with q | q
   ·exact q
   ·rw[List.drop_eq_nil_of_le (by rw[List.length_range];exact q)] at e';cases e'
  rw[List.drop_eq_getElem_cons (by rw[List.length_range];exact hlt),List.map_cons,List.getElem_range] at e'
  obtain⟨rfl,rfl⟩:=List.cons.inj e'
  obtain⟨es,k,p,rfl⟩:=t
  have D:=WalksT.enumerateD (A:=A) Dr e hne h1 h2
  refine D.item i s _ _ hlt ⟨⟨old,x⟩,hs i y⟩ fun T vals h₁ tk hP hT hI hM hk=>⟨_,rfl,?_⟩
  obtain⟨S₁,k₁⟩:=S.turnS (tk:=tk) f (D0.two x ⟨⟨_,rfl,by decide⟩,_,rfl⟩ y) hk
  obtain⟨⟨_,x₁⟩,y₁,n1,n2⟩:=id hM
  refine D.go es k p i T { s with heap:=h₁,toks:=tk } _ _ hM fun h₂ hS₂ hk₂=>?_
  obtain⟨S₂,k₂⟩:=S₁.turnS (tk:=tk) f (D0.two x₁ ⟨⟨_,rfl,by decide⟩,_,rfl⟩ (hr _ _ y₁)) hk₂
  obtain⟨⟨old',x₂⟩,y₂⟩:=hS₂
  obtain⟨o,ho,hc,m,hd⟩:=hI
  obtain⟨t1,v1,hv1,rfl⟩:=hP
  refine⟨S₂,k₁.trans k₂,?_,i+1,old',hlt,x₂,hr _ _ y₂,rfl⟩
  exact Rep.tup (W:=W) (hk₂ T o (fun z=>(List.mem_cons.mp z).elim n1 fun z=>n2 (List.mem_singleton.mp z)) ho) hc hd (Nat.le_of_ble_eq_true rfl) (.cons (.int _ _) (.cons ((hv i v1 hlt hv1).mono (k₁.trans k₂)) .nil)) (S.noScr (Heap.get?_none_of_le hT))
 fin:=fun c P ρ H s E hA S f ok hR=>by
  obtain⟨i,old,hi,x,y,e'⟩:=hR
  obtain⟨fp,Pv,St,Dr,h1,h2,hs,hr,hv⟩:=D0.dr c P ρ H s S ok
  have hge:i=n:=by
   rcases Nat.lt_or_ge i n with q | q
   ·rw[List.drop_eq_getElem_cons (by rw[List.length_range];exact q)] at e';cases e'
   ·exact Nat.le_antisymm hi q
  subst hge
  have D:=WalksT.enumerateD (A:=A) Dr e hne h1 h2
  exact D.done s _ _ ⟨⟨old,x⟩,hs i y⟩ fun h₁ tk hk=>⟨rfl,S.turnS (tk:=tk) f (D0.two x ⟨⟨_,rfl,by decide⟩,_,rfl⟩ y) hk⟩
 self:=fun its s Q E hR h=>by obtain⟨i,old,hi,x,y,e'⟩:=hR;exact wpAny_pyIter_enum x h
theorem La (hh:A.handled=none) (e it:Addr) (hne:e≠it) (a st:Int) (n:Nat):EnD W A e it [] n (fun j=>.int (a+(j:Int)*st)) (fun i h=>i≤n∧IsRangeIter h it (a+(i:Int)*st) ((n-i:Nat):Int) st) where
 th:=fun i h y=>⟨_,y.2,⟨_,rfl,by decide⟩,_,rfl⟩
 fr:=fun i h h' y k=>⟨y.1,k _ y.2⟩
 dr:=fun c P ρ H s S ok=>⟨[it],fun i v=>∃t,v=.int (a+(i:Int)*st) t,_,J1 (A:=A.in1) hh it a st n,fun z=>hne (List.mem_singleton.mp z),List.mem_singleton.mpr rfl,fun i y=>y,fun i h y=>y,fun i v ξ z=>z⟩
end
end Mine.Internal
end

section
set_option maxRecDepth 100000
namespace Mine.Internal
open PySem PySem.W PySem.Calls PyProof.Rows PySem.SeqAt
open AutoSeq1 (wpAny_loadPart')

set_option tactic.hygienic true in
theorem Fw (r:Addr) (a b c:Int) (t u v:Tok) (hs:Builtin.Range.small a b c=true) :
  Meets (Builtin.«enumerate.__new__» ⟨[.type "enumerate",.ref r],[]⟩) (fun ξ R s=>IsRange s.heap r a b c t u v ∧
   R (.ok (.ret (.ref (s.heap.push { cls:=.type "range_iterator",data:=.fields #[rawInt a,rawInt (Builtin.Range.rangeSize a b c),rawInt c] }).objs.size)))
    { s with heap:=(s.heap.push { cls:=.type "range_iterator",data:=.fields #[rawInt a,rawInt (Builtin.Range.rangeSize a b c),rawInt c] }).push { cls:=.type "enumerate",data:=.fields #[.none,.bool false,.ref s.heap.objs.size,rawInt 0,.none,.none] } }) :=
 .of_wp fun prog w A R s h=>by
  obtain⟨hp,g,d,tk,os⟩:=s;obtain⟨hl,h⟩:=h
  have hsub:=sub_enumerate
  have hL:IsRange (Shared.heap ⟨hp,g,d,tk,os⟩) r a b c t u v:=hl
  wp_walk using wpAny_loadPart' hl
  refine wpAny_stack_any fun st=>wpAny_pure ?_
  split
  ·rename_i c _ _ _ _ _
   cases (c == Value.type "enumerate")
   ·wp_walk using wpAny_loadPart' hl,wpAny_pyIter_range hL hs
    exact⟨_,rfl,h⟩
   ·wp_walk using wpAny_loadPart' hl,wpAny_pyIter_range hL hs
    exact⟨_,rfl,h⟩
  ·wp_walk using wpAny_loadPart' hl,wpAny_pyIter_range hL hs
   exact⟨_,rfl,h⟩
section
variable {prog:Program}{w:World}{A:Around}{E:Value→Shared→Prop}{s:Shared}
theorem G1 {r:Addr}{a b c:Int}{t u v:Tok}{Q:Value→Shared→Prop} (hr:IsRange s.heap r a b c t u v) (hs:Builtin.Range.small a b c=true)
  (h:∀h',IsEnum h' (s.heap.objs.size+1) s.heap.objs.size 0 .none→IsRangeIter h' s.heap.objs.size a (Builtin.Range.rangeSize a b c) c →
   (∀b o,s.heap.get? b=some o→h'.get? b=some o)→Q (.ref (s.heap.objs.size+1)) { s with heap:=h' }) :
  wpAny (model prog w) A (call (.type "enumerate") [.ref r]) Q E s:=by
 refine callType_new F.called_enumerate (by decide) (F.typeCall_enumerate_1 _) (F.newCall_enumerate_1 _) (fun obj=>F.args_object_init_2 obj _) F.entry_enumerate_new
  (Fw r a b c t u v hs) ⟨hr,?_⟩
 have hz:(s.heap.push { cls:=.type "range_iterator",data:=.fields #[rawInt a,rawInt (Builtin.Range.rangeSize a b c),rawInt c] }).objs.size=s.heap.objs.size+1:=Heap.size_push ..
 show _∧_
 rw[hz]
 have he:IsEnum ((s.heap.push { cls:=.type "range_iterator",data:=.fields #[rawInt a,rawInt (Builtin.Range.rangeSize a b c),rawInt c] }).push
   { cls:=.type "enumerate",data:=.fields #[.none,.bool false,.ref s.heap.objs.size,rawInt 0,.none,.none] }) (s.heap.objs.size+1) s.heap.objs.size 0 .none:=by
  have:=Heap.get?_push_size (s.heap.push { cls:=.type "range_iterator",data:=.fields #[rawInt a,rawInt (Builtin.Range.rangeSize a b c),rawInt c] })
   (o:={ cls:=.type "enumerate",data:=.fields #[.none,.bool false,.ref s.heap.objs.size,rawInt 0,.none,.none] }) rfl
  rw[hz] at this;exact this
 exact⟨⟨_,he,rfl⟩,h _ he (Heap.get?_push_of_some _ (Heap.get?_push_size _ rfl)) fun b o x=>Heap.get?_push_of_some _ (Heap.get?_push_of_some _ x)⟩
end
section
variable {W:Wd}{T:Tx W}{c:Cx}{K:Kc}{hd:Bool}{G:Gl}
theorem KW {P:Addr→Obj→Prop}{ρ:Loc}{H:Hp}{s:Shared}{KK:List It→List (Addr×Ob)→Hp→Prop}{E:Value→Shared→Prop}{a b st:Int}{t u v:Tok}{r:Addr} (hh:c.A.handled=none) (S:Sim W c P ρ H s) (hr:IsRange s.heap r a b st t u v) (hs:Builtin.Range.small a b st=true)
  (hz:Builtin.Range.rangeSize a b st=(Bj a b st:Nat)) (q:∃js,Eg 0 (Bm a st (Bj a b st))=some js∧KK js [] H) :
  wpAny (model W.prog W.w) c.A (call (.type "enumerate") [.ref r]) (fun xv s₁=>wpAny (model W.prog W.w) c.A (pyIter xv) (Itr W c P ρ KK) E s₁) E s:=by
 obtain⟨js,ej,q⟩:=q
 rw[FN] at ej
 cases ej
 refine G1 hr hs fun h' he hi hk=>?_
 have hne:s.heap.objs.size+1≠s.heap.objs.size:=by exact lf [] [_] [.E (.a (.n 0) (.c 1)) (.n 0)] [1] rfl
 have O:=GE (W:=W) hne (La (A:=c.A) hh (s.heap.objs.size+1) s.heap.objs.size hne a st (Bj a b st))
 have R0:EnG (s.heap.objs.size+1) s.heap.objs.size (Bj a b st) (fun j=>.int (a+(j:Int)*st)) (fun i h=>i≤Bj a b st∧IsRangeIter h s.heap.objs.size (a+(i:Int)*st) ((Bj a b st-i:Nat):Int) st) ((List.range (Bj a b st)).map fun (j:Nat)=>It.p (.int (0+(j:Int))) (.int (a+(j:Int)*st))) h':=by
  refine⟨0,_,Nat.zero_le _,he,⟨Nat.zero_le _,?_⟩,?_⟩
  ·rw[hz] at hi;simpa using hi
  ·simp
 refine O.self _ { s with heap:=h' } _ _ R0 ⟨s.heap.objs.size+1,_,_,_,_,H,W.scr,rfl,O,R0,S.grow (tk:=s.toks) hk,fun b hb=>?_,q⟩
 simp only[List.mem_cons,List.not_mem_nil,or_false] at hb
 rcases hb with rfl | rfl
 ·exact S.free (Heap.get?_none_of_le (by exact lA [] [_] (.n 0) (.a (.n 0) (.c 1)) [] [1] rfl))
 ·exact S.free (AD _)
theorem Kt {a b d x y z q p q' p'} (C:CxOk T c K hd) (g0:K.gl (Str.ofString "enumerate")=true) (g:K.gl (Str.ofString "range")=true) (m:Pl x) (m':Pl y) (m'':Pl z) (h1:SE W c G hd a x) (h2:SE W c G hd b y) (h3:SE W c G hd d z) :
  SS W c G hd (.enum (.range3 a b d)) (.Call (.Name (Str.ofString "enumerate") q') [.Call (.Name (Str.ofString "range") q) [x,y,z] [] p] [] p'):=fun P ρ H s KK X hf S w=>by
 rw[ID,Go] at w
 refine wpAny_Call_Name_kw (AG C S g0 T.enm ?_)
 refine PySem.callWith_type rfl (evalArgs_plain (spliced_cons ?_))
 refine wpAny_Call_Name_kw (AG C S g T.rng ?_)
 rw[m.star,m'.star,m''.star]
 refine PySem.callWith_type rfl (evalArgs_plain (spliced_cons (wpAny_mono (h1.two h2 S w) (fun u s₁ h₁=>spliced_cons (wpAny_mono h₁ (fun u' s₂ hPt=>?_) fun ξ ξ x=>x)) fun ξ ξ x=>x)))
 obtain⟨v,v',H₂,S₂,r,r',q⟩:=hPt
 refine spliced_cons (wpAny_mono (h3.max S₂ q) (fun u'' s₃ hPt=>?_) fun ξ ξ x=>x)
 obtain⟨k,v'',H₃,S₃,r'',q⟩:=hPt
 refine spliced_nil ?_
 have r:=r.mono k
 have r':=r'.mono k
 obtain⟨lo,rfl,q1⟩:=AV q
 obtain⟨hi,st,t,t',rfl,rfl,hl,hn,hs,h0,q2⟩:=Bc q1 r' r''
 obtain⟨t₀,rfl⟩:=r
 refine call_range_3 h0 ?_ (.inl ?_)
 ·refine spliced_nil ?_
  exact KW (s:={ s₃ with heap:=s₃.heap.push { cls:=.type "range",data:=.fields #[.int _ _,.int _ _,.int _ _] },toks:=s₃.toks }) (C.hand hf) (S₃.grow fun b o e=>Heap.get?_push_of_some _ e) (IsRange.new ..) (Gj hl hn hs h0) (Ds h0) q2
 ·refine PyProof.noPylong_of_log2 ?_
  unfold Ix at hs
  refine (Nat.log2_lt (by omega)).mpr (Nat.lt_of_lt_of_le (m:=2 ^ 62) (by omega) (Nat.pow_le_pow_right (by decide) (by decide)))
end
end Mine.Internal
end

section
set_option maxRecDepth 100000
namespace Mine.Internal
open PySem PySem.W PySem.Calls PyProof.Rows PySem.SeqAt
theorem JL (xs:List V):∀k,Eg k (xs.map It.v)=some ((List.range xs.length).map fun (j:Nat)=>It.p (.int (k+(j:Int))) (xs.getD j .none)):=by
 induction xs with
 | nil=>intro k;rfl
 | cons x xs ih =>
  intro k
  rw[List.map_cons,Eg,ih,List.length_cons,List.range_succ_eq_map,List.map_cons,List.map_map,Option.map_some]
  refine congrArg some (congr (congrArg _ (by rw[Int.natCast_zero,Int.add_zero];rfl)) (List.map_congr_left fun j ξ=>?_))
  show It.p (.int (k+1+(j:Int))) _=It.p (.int (k+((j+1:Nat):Int))) _
  rw[Int.natCast_succ,Int.add_assoc,Int.add_comm 1];rfl
section
variable {W:Wd}{A:Around}
theorem MB (hh:A.handled=none) (e it l:Addr) (hne:e≠it) (hel:e≠l) (hli:l≠it) (xs:List V):EnD W A e it [(l,.list xs)] xs.length (fun j=>xs.getD j .none) (fun i h=>h.IsListIter it l i) where
 th:=fun i h y=>by obtain⟨o,h1,h2,h3⟩:=y;exact⟨o,h1,⟨_,h2,by decide⟩,_,h3⟩
 fr:=fun i h h' y k=>y.at k
 dr:=fun c P ρ H s S ok=>by
  obtain⟨_,items,n,g,r⟩:=S.heap _ _ (ok (l,.list xs) (List.mem_singleton.mpr rfl))
  have hsz:items.size=xs.length:=r.size
  refine⟨[it,l],fun i v=>items[i]?=some v,fun i h=>h.IsListIter it l i∧h.IsList l items,hsz▸Draws.list (prog:=W.prog) (w:=W.w) (A:=A.in1) hh it l hli items,by simp [hne,hel],by simp,fun i y=>⟨y,⟨_,g,rfl,n,rfl⟩⟩,fun i h y=>y.1,fun i v hi z=>?_⟩
  obtain⟨u,e1,r1⟩:=r.get (i:=i) (v:=xs.getD i .none) (by simp [List.getD,hi])
  rw[Array.getElem?_toList] at e1
  rw[z] at e1;cases e1
  exact r1
end
section
variable {W:Wd}{T:Tx W}{c:Cx}{K:Kc}{hd:Bool}{G:Gl}
theorem LG {e x q p} (C:CxOk T c K hd) (g0:K.gl (Str.ofString "enumerate")=true) (m:Pl x) (h1:SE W c G hd e x):SS W c G hd (.enum (.ex e)) (.Call (.Name (Str.ofString "enumerate") q) [x] [] p):=fun P ρ H s KK X hf S w=>by
 rw[ID,LX] at w
 refine wpAny_Call_Name_kw (AG C S g0 T.enm ?_)
 rw[m.star]
 refine PySem.callWith_type rfl (evalArgs_plain (spliced_cons (wpAny_mono (h1 P ρ H s _ X S w) (fun u s₁ hx=>spliced_nil ?_) fun ξ ξ x=>x)))
 obtain⟨v,H₁,S₁,r,q⟩:=hx
 obtain⟨l,rfl,q⟩:=AU q
 cases r
 obtain⟨xs,ea,js,ej,q⟩:=Hm q
 rw[JL] at ej
 cases ej
 obtain⟨_,items,n,g,r⟩:=S₁.heap _ _ ea
 have hL:s₁.heap.IsList l items:=⟨_,g,rfl,n,rfl⟩
 have hlt:=Heap.lt_size g
 refine call_enumerate_list hL fun h' he hi ξ hk=>?_
 have hne:s₁.heap.objs.size+1≠s₁.heap.objs.size:=Nat.succ_ne_self _
 have O:=GE (W:=W) hne (MB (A:=c.A) (C.hand hf) (s₁.heap.objs.size+1) s₁.heap.objs.size l hne (Nat.ne_of_gt (Nat.lt_succ_of_lt hlt)) (Nat.ne_of_lt hlt) xs)
 have R0:EnG (s₁.heap.objs.size+1) s₁.heap.objs.size xs.length (fun j=>xs.getD j .none) (fun i h=>h.IsListIter s₁.heap.objs.size l i) ((List.range xs.length).map fun (j:Nat)=>It.p (.int (0+(j:Int))) (xs.getD j .none)) h':=⟨0,_,Nat.zero_le _,he,hi,by simp⟩
 refine O.self _ { s₁ with heap:=h' } _ _ R0 ⟨s₁.heap.objs.size+1,_,_,_,_,H₁,W.scr,rfl,O,R0,S₁.grow (tk:=s₁.toks) hk,fun b hb=>?_,q⟩
 simp only[List.mem_cons,List.not_mem_nil,or_false] at hb
 rcases hb with rfl | rfl
 ·exact S₁.free (Heap.get?_none_of_le (Nat.le_succ _))
 ·exact S₁.free (AD _)
end
end Mine.Internal
end

section
set_option maxRecDepth 100000
namespace Mine.Internal
open PySem PySem.W PySem.Calls PyProof.Rows PySem.SeqAt
section
variable {W:Wd}{A:Around}
theorem TupAt.of {h:Heap}{T:Addr}{a b:Value} (p:IsPair h T a b):TupAt h T:=⟨_,_,_,p,rfl,rfl⟩
inductive ZipI (z TI TO i1 i2 l1 l2:Addr) (xs ys:List V) (its:List It) (h:Heap):Prop
 | mk (i:Nat) (a b:Value) (hz:IsZip h z TI TO .none) (hI:IsPair h TI (.ref i1) (.ref i2)) (hO:IsPair h TO a b) (h1:h.IsListIter i1 l1 i) (h2:h.IsListIter i2 l2 i) (e:its=Ga (xs.drop i) (ys.drop i))
theorem Ko {xs ys:List V}{i:Nat}{it:It}{its:List It} (e:it :: its=Ga (xs.drop i) (ys.drop i)) :
  ∃x y,xs[i]?=some x∧ys[i]?=some y∧it=.p x y∧its=Ga (xs.drop (i+1)) (ys.drop (i+1)):=by
 rcases Nat.lt_or_ge i xs.length with q | q
 ·rcases Nat.lt_or_ge i ys.length with q' | q'
  ·rw[List.drop_eq_getElem_cons q,List.drop_eq_getElem_cons q'] at e
   cases e
   exact⟨_,_,List.getElem?_eq_getElem q,List.getElem?_eq_getElem q',rfl,rfl⟩
  ·rw[List.drop_eq_nil_of_le q',List.drop_eq_getElem_cons q] at e;cases e
 ·rw[List.drop_eq_nil_of_le q] at e;cases e
theorem Lj {xs ys:List V}{i:Nat} (e:[]=Ga (xs.drop i) (ys.drop i)):xs.length≤i∨ys.length≤i:=by
 rcases Nat.lt_or_ge i xs.length with q | q
 ·rcases Nat.lt_or_ge i ys.length with q' | q'
  ·rw[List.drop_eq_getElem_cons q,List.drop_eq_getElem_cons q'] at e;cases e
  ·exact .inr q'
 ·exact .inl q
theorem Hx {h:Heap}{z TI TO i1 i2 l1 l2:Addr}{f0 a b:Value}{k1 k2:Nat} (s1:W.scr TI) (s2:W.scr TO) (hz:IsZip h z TI TO f0) (hI:IsPair h TI (.ref i1) (.ref i2)) (hO:IsPair h TO a b) (h1:h.IsListIter i1 l1 k1) (h2:h.IsListIter i2 l2 k2) :
  ∀x∈[z,TI,TO,i1,i2],∃o,h.get? x=some o∧ItRec W x o:=fun x hx=>by
 simp only[List.mem_cons,List.not_mem_nil,or_false] at hx
 rcases hx with rfl | rfl | rfl | rfl | rfl
 ·exact⟨_,hz,.of ⟨⟨_,rfl,by decide⟩,_,rfl⟩⟩
 ·exact⟨_,hI,_,rfl,fun ξ=>s1,by first | exact Ap rfl rfl | exact Aq rfl rfl | exact nofun,by first | exact Ap rfl rfl | exact Aq rfl rfl | exact nofun⟩
 ·exact⟨_,hO,_,rfl,fun ξ=>s2,by first | exact Ap rfl rfl | exact Aq rfl rfl | exact nofun,by first | exact Ap rfl rfl | exact Aq rfl rfl | exact nofun⟩
 ·obtain⟨o,e,hc,hd⟩:=h1;exact⟨o,e,.of ⟨⟨_,hc,by decide⟩,_,hd⟩⟩
 ·obtain⟨o,e,hc,hd⟩:=h2;exact⟨o,e,.of ⟨⟨_,hc,by decide⟩,_,hd⟩⟩
theorem IM {x z TI TO i1 i2:Addr} (h:x∉[z,TI,TO,i1,i2]):x≠z∧x≠TO∧x≠i1∧x≠i2:=by
 simp only[List.mem_cons,List.not_mem_nil,or_false,not_or] at h
 exact⟨h.1,h.2.2.1,h.2.2.2.1,h.2.2.2.2⟩
theorem Mk (hh:A.handled=none) {Z:Addr→Prop} (sub:∀b,W.scr b→Z b) {z TI TO i1 i2 l1 l2:Addr} (D:ZipApart z TI TO i1 i2 l1 l2) (s1:Z TI) (s2:Z TO) (n1:¬W.scr TI) (n2:¬W.scr TO) (xs ys:List V) :
  ItOk W Z A z [z,TI,TO,i1,i2] [(l1,.list xs),(l2,.list ys)] (ZipI z TI TO i1 i2 l1 l2 xs ys) where
 sub:=sub
 frame:=fun its h h' hPt k=>by obtain⟨i,a,b,hz,hI,hO,h1,h2,e⟩:=hPt;exact⟨i,a,b,k z (by simp) _ hz,k TI (by simp) _ hI,k TO (by simp) _ hO,h1.at fun o q=>k i1 (by simp) o q,h2.at fun o q=>k i2 (by simp) o q,e⟩
 there:=fun its h hPt=>by obtain⟨i,a,b,hz,hI,hO,h1,h2,e⟩:=hPt;exact Hx (W:=W.z Z) s1 s2 hz hI hO h1 h2
 item:=fun c P ρ H s it its tx E hA S f ok hPt t=>by
  obtain⟨i,a,b,hz,hI,hO,h1,h2,e⟩:=hPt
  obtain⟨x,y,ex,ey,rfl,rfl⟩:=Ko e
  obtain⟨es,k,p,rfl⟩:=t
  obtain⟨_,it1,m1,g1,r1⟩:=S.heap _ _ (ok (l1,.list xs) (by simp))
  obtain⟨_,it2,m2,g2,r2⟩:=S.heap _ _ (ok (l2,.list ys) (by simp))
  obtain⟨u,eu,ru⟩:=r1.get ex
  obtain⟨v,ev,rv⟩:=r2.get ey
  have th:∀b∈[z,TI,TO,i1,i2],∀o,s.heap.get? b=some o→ItRec (W.z Z) b o:=fun b hb o eo=>by
   obtain⟨o',eo',q⟩:=Hx (W:=W.z Z) s1 s2 hz hI hO h1 h2 b hb
   rw[eo] at eo';cases eo';exact q
  have nz:s.heap.objs.size≠z:=Nat.ne_of_gt (Heap.lt_size hz)
  refine wpAny_pyNext_zip_item D hz hI hO h1 h2 (xs:=it1) (ys:=it2) ⟨_,g1,rfl,m1,rfl⟩ ⟨_,g2,rfl,m2,rfl⟩ (by simpa using eu) (by simpa using ev) fun h' a1 a2 a3 a4 a5 a6 hk=>⟨_,rfl,?_⟩
  have hI':IsPair h' TI (.ref i1) (.ref i2):=hk _ _ D.TIz D.TITO D.TIi1 D.TIi2 hI
  have ht:∀b∈[z,TI,TO,i1,i2],(W.z Z).scr b→TupAt s.heap b→TupAt h' b:=fun b hb ξ tb=>by
   simp only[List.mem_cons,List.not_mem_nil,or_false] at hb
   rcases hb with rfl | rfl | rfl | rfl | rfl
   ·obtain⟨o,_,_,eo,_,hd⟩:=tb;rw[hz] at eo;cases eo;cases hd
   ·exact .of hI'
   ·exact .of a2
   ·obtain⟨o,_,_,eo,_,hd⟩:=tb;obtain⟨o',eo',_,hd'⟩:=h1;rw[eo] at eo';cases eo';rw[hd] at hd';cases hd'
   ·obtain⟨o,_,_,eo,_,hd⟩:=tb;obtain⟨o',eo',_,hd'⟩:=h2;rw[eo] at eo';cases eo';rw[hd] at hd';cases hd'
  obtain⟨S₁,k₁⟩:=Sim.turnZ (W:=W.z Z) (z:=Z) (h':=h') (tk:=s.toks) (fun ξ q=>q) S f th ht fun b o hb eo=>by obtain⟨q1,q2,q3,q4⟩:=IM hb;exact hk b o q1 q2 q3 q4 eo
  refine wpAny_letOwnedTupleGo_zip (s:={ s with heap:=h' }) a1 fun h'' hz'' hs''=>?_
  obtain⟨S₂,k₂⟩:=S₁.turn (tk:=s.toks) (h':=h'') (f z (by simp)) a1 ⟨_,rfl,by decide⟩ ⟨_,rfl⟩ fun b o q eo=>hs''.extBut b o q eo
  have kk:=k₁.trans k₂
  refine⟨S₂,kk,?_,i+1,u,v,hz'',hs''.extBut _ _ D.TIz hI',hs''.extBut _ _ D.TOz a2,a3.extBut hs''.extBut D.i1z,a4.extBut hs''.extBut D.i2z,rfl⟩
  exact Rep.tup (W:=W.z Z) (hs''.extBut _ _ nz a5) rfl rfl (Nat.le_of_ble_eq_true rfl) (.cons (ru.mono kk) (.cons (rv.mono kk) .nil)) (S.noScr (AD _))
 fin:=fun c P ρ H s E hA S f ok hPt=>by
  obtain⟨i,a,b,hz,hI,hO,h1,h2,e⟩:=hPt
  obtain⟨_,it1,m1,g1,r1⟩:=S.heap _ _ (ok (l1,.list xs) (by simp))
  obtain⟨_,it2,m2,g2,r2⟩:=S.heap _ _ (ok (l2,.list ys) (by simp))
  have th:∀b∈[z,TI,TO,i1,i2],∀o,s.heap.get? b=some o→ItRec (W.z Z) b o:=fun b hb o eo=>by
   obtain⟨o',eo',q⟩:=Hx (W:=W.z Z) s1 s2 hz hI hO h1 h2 b hb
   rw[eo] at eo';cases eo';exact q
  have hend:it1[i]?=none∨it2[i]?=none:=by
   rcases Lj e with q | q
   ·exact .inl (Array.getElem?_eq_none (by rw[r1.size];exact q))
   ·exact .inr (Array.getElem?_eq_none (by rw[r2.size];exact q))
  refine wpAny_pyNext_zip_end hh D hz hI hO h1 h2 (xs:=it1) (ys:=it2) ⟨_,g1,rfl,m1,rfl⟩ ⟨_,g2,rfl,m2,rfl⟩ hend fun h' hk=>⟨rfl,?_⟩
  refine Sim.turnZ (W:=W) (z:=Z) (tk:=s.toks) sub S f th (fun b hb w tb=>?_) fun b o hb eo=>by obtain⟨q1,q2,q3,q4⟩:=IM hb;exact hk b o q1 q2 q3 q4 eo
  simp only[List.mem_cons,List.not_mem_nil,or_false] at hb
  rcases hb with rfl | rfl | rfl | rfl | rfl
  ·obtain⟨o,_,_,eo,_,hd⟩:=tb;rw[hz] at eo;cases eo;cases hd
  ·exact (n1 w).elim
  ·exact (n2 w).elim
  ·obtain⟨o,_,_,eo,_,hd⟩:=tb;obtain⟨o',eo',_,hd'⟩:=h1;rw[eo] at eo';cases eo';rw[hd] at hd';cases hd'
  ·obtain⟨o,_,_,eo,_,hd⟩:=tb;obtain⟨o',eo',_,hd'⟩:=h2;rw[eo] at eo';cases eo';rw[hd] at hd';cases hd'
 self:=fun its s Q E hPt h=>by obtain⟨i,a,b,hz,hI,hO,h1,h2,e⟩:=hPt;exact wpAny_pyIter_zip hz h
end
section
variable {W:Wd}{T:Tx W}{c:Cx}{K:Kc}{hd:Bool}{G:Gl}
theorem Ml {P:Addr→Obj→Prop}{ρ:Loc}{H:Hp}{s:Shared}{KK:List It→List (Addr×Ob)→Hp→Prop}{E:Value→Shared→Prop}{l1 l2:Addr}{xs ys:List V} (hh:c.A.handled=none) (S:Sim W c P ρ H s) (e1:H l1=some (.list xs)) (e2:H l2=some (.list ys)) (q:KK (Ga xs ys) [(l1,.list xs),(l2,.list ys)] H) :
  wpAny (model W.prog W.w) c.A (call (.type "zip") [.ref l1,.ref l2]) (fun xv s₁=>wpAny (model W.prog W.w) c.A (pyIter xv) (Itr W c P ρ KK) E s₁) E s:=by
 obtain⟨_,it1,m1,g1,r1⟩:=S.heap _ _ e1
 obtain⟨_,it2,m2,g2,r2⟩:=S.heap _ _ e2
 refine call_zip_2 (xs:=it1) (ys:=it2) ⟨_,g1,rfl,m1,rfl⟩ ⟨_,g2,rfl,m2,rfl⟩ fun h' hz hI hO h1 h2 hsz hk=>?_
 have b1:l1<s.heap.objs.size:=Heap.lt_size g1
 have b2:l2<s.heap.objs.size:=Heap.lt_size g2
 have fr:∀k,s.heap.get? (s.heap.objs.size+k)=none:=fun k=>Heap.get?_none_of_le (Nat.le_add_right ..)
 have D:ZipApart (s.heap.objs.size+4) (s.heap.objs.size+2) (s.heap.objs.size+3) s.heap.objs.size (s.heap.objs.size+1) l1 l2:=zipApart_new b1 b2
 let Z:Addr→Prop:=fun b=>W.scr b∨b=s.heap.objs.size+2∨b=s.heap.objs.size+3
 have S':Sim (W.z Z) c P ρ H { s with heap:=h' }:=by
  refine S.growZ (z:=Z) (tk:=s.toks) (fun b o i n eb ξ ξ w q=>?_) (fun b q=>?_) hk fun ξ ξ q=>.inl q
  ·rcases q with q | q | q
   ·exact w q
   ·rw[q,fr 2] at eb;cases eb
   ·rw[q,fr 3] at eb;cases eb
  ·rcases q with q | q | q
   ·exact (S.scr b q).at fun o e ξ ξ=>hk b o e
   ·rw[q];exact .of hI
   ·rw[q];exact .of hO
 have O:=Mk (W:=W) (A:=c.A) hh (Z:=Z) (fun b q=>.inl q) D (.inr (.inl rfl)) (.inr (.inr rfl)) (S.noScr (fr 2)) (S.noScr (fr 3)) xs ys
 have R0:ZipI (s.heap.objs.size+4) (s.heap.objs.size+2) (s.heap.objs.size+3) s.heap.objs.size (s.heap.objs.size+1) l1 l2 xs ys (Ga xs ys) h':=⟨0,_,_,hz,hI,hO,h1,h2,rfl⟩
 refine O.self _ { s with heap:=h' } _ _ R0 ⟨s.heap.objs.size+4,_,_,_,_,H,Z,rfl,O,R0,S',fun b hb=>?_,q⟩
 simp only[List.mem_cons,List.not_mem_nil,or_false] at hb
 rcases hb with rfl | rfl | rfl | rfl | rfl
 ·exact S.free (fr 4)
 ·exact S.free (fr 2)
 ·exact S.free (fr 3)
 ·exact S.free (fr 0)
 ·exact S.free (fr 1)
theorem On {a b x y q p} (C:CxOk T c K hd) (g:K.gl (Str.ofString "zip")=true) (m:Pl x) (m':Pl y) (h1:SE W c G hd a x) (h2:SE W c G hd b y):SS W c G hd (.zip a b) (.Call (.Name (Str.ofString "zip") q) [x,y] [] p):=fun P ρ H s KK X hf S w=>by
 replace w:=Nq.mp w
 refine wpAny_Call_Name_kw (AG C S g T.zip ?_)
 rw[m.star,m'.star]
 refine PySem.callWith_type rfl (evalArgs_plain (spliced_cons (wpAny_mono (h1.two h2 S w) (fun u s₁ h₁=>spliced_cons (wpAny_mono h₁ (fun u' s₂ hPt=>?_) fun ξ ξ x=>x)) fun ξ ξ x=>x)))
 obtain⟨v,v',H₂,S₂,r,r',q⟩:=hPt
 refine spliced_nil ?_
 obtain⟨l1,rfl,q1⟩:=AU q
 obtain⟨l2,rfl,xs,ys,e1,e2,q2⟩:=AU q1
 cases r;cases r'
 exact Ml (C.hand hf) S₂ e1 e2 q2
end
end Mine.Internal
end

section
namespace Mine.Internal
open PySem PySem.W PySem.Calls PyProof.Rows PySem.SeqAt
section
variable {W:Wd}{T:Tx W}{c:Cx}{K:Kc}{hd:Bool}{G:Gl}

inductive Bind2 (i j:Nat) (it:It) (ρ ρ':Loc):Prop
 | p (x y:V) (hi:it=.p x y) (hr:ρ'=(ρ.set i (some x)).set j (some y))
 | v (x y:V) (hi:it=.v (.tup [x,y])) (hr:ρ'=(ρ.set i (some x)).set j (some y))
theorem EC {i j:Nat}{it:It}{ρ ρ':Loc} (b:Bt (.two i j) it ρ=some ρ'):Bind2 i j it ρ ρ':=by
 cases it with
 | p x y=>exact .p x y rfl (Option.some.inj b).symm
 | v z =>
  cases z with
  | tup l =>
   cases l with
   | nil=>cases b
   | cons x l=>cases l with
    | nil=>cases b
    | cons y l=>cases l with
     | nil=>exact .v x y rfl (Option.some.inj b).symm
     | cons _ _=>cases b
  | _=>cases b
set_option tactic.hygienic true in
theorem Dt {t:Tg}{tx:Expr}{it:It}{v:Value}{P:Addr→Obj→Prop}{ρ ρ':Loc}{H:Hp}{s:Shared}{E:Value→Shared→Prop}{Q:Unit→Shared→Prop} (C:CxOk T c K hd) (hh:c.A.handled=none) (S:Sim W c P ρ H s) (m:MTg K t tx) (b:Bt t it ρ=some ρ') (r:Jb W s.heap it v)
  (h:∀s',Sim W c P ρ' H s'→KeepR W s.heap s'.heap→Q () s'):wpAny (model W.prog W.w) c.A (assign tx c.env v) Q E s:=by
 cases m with
 | one g =>
  cases it with
  | p _ _=>cases b
  | v x =>
   cases b
   exact wpAny_assign_Name (B3 C S g r h)
 | two g1 g2 =>
  rename_i i j _ _ _ _ _ _
  have r':∃x y,Rep W s.heap (.tup [x,y]) v∧ρ'=(ρ.set i (some x)).set j (some y):=by
   cases EC b with
   | p x y hi hr=>subst hi;exact⟨x,y,r,hr⟩
   | v x y hi hr=>subst hi;exact⟨x,y,r,hr⟩
  obtain⟨x,y,r',rfl⟩:=r'
  obtain⟨a,o,items,n,rfl,e,k,d,l,rs⟩:=r'.tupR
  obtain⟨u1,u2,e2,r1,r2⟩:=rs.two
  have hs:items.size=2:=by rw[←Array.length_toList,e2];rfl
  refine wpAny_assign_Tuple hh (items:=items) ⟨_,e,k,n,d⟩ (by rw[hs];rfl) rfl fun h' hx=>?_
  have hk:∀b o,s.heap.get? b=some o→h'.get? b=some o:=fun b o e=>hx b o (fun q=>by rw[q,AD] at e;cases e) e
  have S₁:Sim W c P ρ H { s with heap:=h' }:=S.grow (tk:=s.toks) hk
  rw[e2]
  show wpAny _ _ (assignInOrder [assign (.Name _ _) c.env,assign (.Name _ _) c.env] [u1,u2]) _ _ _
  refine wpAny_assignInOrder_more (wpAny_assign_Name (B3 C S₁ g1 (r1.mono (.of_keeps hk)) fun s₂ S₂ k₂=>?_))
  refine wpAny_assignInOrder_more (wpAny_assign_Name (B3 C S₂ g2 (r2.mono ((KeepR.of_keeps hk).trans k₂)) fun s₃ S₃ k₃=>?_))
  exact wpAny_assignInOrder_none (h s₃ S₃ (((KeepR.of_keeps hk).trans k₂).trans k₃))

theorem Dq {scope:Scope}{t:Tg} (h:cOk K scope t=true):scope.kind=.function∧(∀y∈scope.names,y.2≠.cell)∧(∀y∈scope.names,y.2=.local→scope.names.lookup y.1=some .local)∧(∀y∈scope.names,y.2=.free→K.sc.names.lookup y.1=some .cell) ∧
  (∀i x,K.names[i]?=some x→scope.names.lookup (Str.ofString x)=some .local→i∈t.slots):=by
 unfold cOk at h
 simp only[Bool.and_eq_true,beq_iff_eq,List.all_eq_true] at h
 obtain⟨⟨h1,h2⟩,h3⟩:=h
 refine⟨h1,fun y hy=>?_,fun y hy q=>?_,fun y hy q=>?_,fun i x e q=>?_⟩
 ·have:=(h2 y hy).1.1;simpa using this
 ·have:=(h2 y hy).1.2;simpa [q] using this
 ·have:=(h2 y hy).2;simpa [q] using this
 ·have hi:i<K.names.length:=by
   rcases Nat.lt_or_ge i K.names.length with z | z
   ·exact z
   ·rw[List.getElem?_eq_none z] at e;cases e
  have:=h3 i (List.mem_range.mpr hi)
  simp only[e,q] at this
  simpa using this

theorem Br {names:List (Str×NameKind)}{x:Str}{k:NameKind} (h:names.lookup x=some k):(x,k)∈names:=by
 induction names with
 | nil=>cases h
 | cons p r ih =>
  obtain⟨n,k'⟩:=p
  rw[List.lookup_cons] at h
  cases q:x == n with
  | true=>rw[q] at h;cases h;rw[beq_iff_eq.mp q];exact .head _
  | false=>rw[q] at h;exact .tail _ (ih h)

theorem EU {env:Env}:∀(names:List (Str×NameKind)) (cs:List (Str×Addr)),(∀y∈names,y.2=.free→∃a,env.cells.lookup y.1=some a)→(∀x a,cs.lookup x=some a→env.cells.lookup x=some a) →
  ∃cl,(forIn names cs fun (x:Str×NameKind) (r:List (Str×Addr))=>(do if x.2 == .free then pure (ForInStep.yield ((x.1,←cellOf env x.1) :: r)) else pure (ForInStep.yield r):Sem _))=pure cl∧(∀x a,cl.lookup x=some a→env.cells.lookup x=some a)∧(∀x a,cs.lookup x=some a→cl.lookup x=some a)∧(∀y∈names,y.2=.free→∃a,cl.lookup y.1=some a)
 | [],cs,_,h=>⟨cs,rfl,h,fun ξ ξ e=>e,fun ξ h=>by cases h⟩
 | (n,k) :: r,cs,hf,h=>by
  by_cases hk:k=.free
  ·subst hk
   obtain⟨a,ha⟩:=hf (n,.free) (.head _) rfl
   obtain⟨cl,e1,e2,e3,e4⟩:=EU r ((n,a) :: cs) (fun y hy=>hf y (.tail _ hy)) (fun x b e=>by
    rw[List.lookup_cons] at e
    cases q:x == n with
    | true=>rw[q] at e;cases e;rw[beq_iff_eq.mp q];exact ha
    | false=>rw[q] at e;exact h x b e)
   have hn:cl.lookup n=some a:=e3 n a (by rw[List.lookup_cons,beq_self_eq_true])
   refine⟨cl,?_,e2,fun x b e=>?_,fun y hy q=>?_⟩
   ·rw[List.forIn_cons,←e1]
    simp only[beq_self_eq_true,if_true]
    unfold cellOf
    rw[ha]
    rfl
   ·by_cases q:x=n
    ·subst q
     have:=h x b e
     rw[ha] at this;cases this;exact hn
    ·exact e3 x b (by rw[List.lookup_cons,beq_eq_false_iff_ne.mpr q];exact e)
   ·rcases List.mem_cons.mp hy with rfl | hy
    ·exact⟨a,hn⟩
    ·exact e4 y hy q
  ·obtain⟨cl,e1,e2,e3,e4⟩:=EU r cs (fun y hy=>hf y (.tail _ hy)) h
   refine⟨cl,?_,e2,e3,fun y hy q=>?_⟩
   ·rw[List.forIn_cons,←e1]
    simp only[beq_eq_false_iff_ne.mpr hk,Bool.false_eq_true,if_false]
    rfl
   ·rcases List.mem_cons.mp hy with rfl | hy
    ·exact absurd q hk
    ·exact e4 y hy q
theorem GT {scope:Scope}{t:Tg} (C:CxOk T c K hd) (h:cOk K scope t=true):∃cl,closureFor scope c.env=pure cl∧(∀x a,cl.lookup x=some a→c.env.cells.lookup x=some a)∧(∀x,scope.names.lookup x=some .free→∃a,cl.lookup x=some a):=by
 obtain⟨h1,h2,h3,h4,h5⟩:=Dq h
 obtain⟨cl,e1,e2,e3,e4⟩:=EU (env:=c.env) scope.names [] (fun y hy q=>C.cellKind _ (by unfold Env.kindOf;rw[C.sc];exact h4 y hy q)) (fun x a e=>by cases e)
 refine⟨cl,?_,e2,fun x e=>e4 (x,.free) (Br e) rfl⟩
 unfold closureFor
 show (forIn scope.names [] _ >>= pure)=pure cl
 rw[show (fun (x:Str×NameKind) (r:List (Str×Addr))=>(match x with | (name,kind)=>if (kind == NameKind.free)=true then (do let __do_lift ←cellOf c.env name;pure (ForInStep.yield ((name,__do_lift) :: r))) else pure (ForInStep.yield r):Sem (ForInStep (List (Str×Addr)))))=(fun x r=>do if x.2 == .free then pure (ForInStep.yield ((x.1,←cellOf c.env x.1) :: r)) else pure (ForInStep.yield r)) from rfl,e1]
 rfl
end
end Mine.Internal
end

section
namespace Mine.Internal
open PySem PySem.W PySem.Calls PyProof.Rows PySem.SeqAt
section
variable {W:Wd}{T:Tx W}{c:Cx}{K:Kc}{hd:Bool}{G:Gl}

noncomputable def Cx.comp (c:Cx) (K:Kc) (scope:Scope) (cl:List (Str×Addr)) (C:Addr) (m:Str→Option Value):Cx :=
 { A:=c.A,env:=compEnvC scope cl C c.env,fenvs:=c.fenvs,names:=c.names,vis:=(K.comp scope).vis,own:=[C],outer:=(c.env.locals,m) :: c.outer }
noncomputable def PC (c:Cx) (H:Hp) (h:Heap) (ad:List Addr):Addr→Obj→Prop:=fun b o=>h.get? b=some o∧H b=none∧b∉c.frs∧b∉ad

theorem DU {scope outer:Scope}{x:Str}:(CK scope outer).names.lookup x=(scope.names.lookup x).map fun k=>if (k == .free && outer.kind == .function && outer.names.lookup x == some .cell) then .cell else k:=by
 unfold CK
 dsimp only
 induction scope.names with
 | nil=>rfl
 | cons p r ih =>
  obtain⟨n,k⟩:=p
  have key:∀k':NameKind,(x,k')=(x,k'):=fun ξ=>rfl
  by_cases hc:(k == .free && outer.kind == .function && outer.names.lookup n == some .cell)=true
  ·rw[List.map_cons]
   simp only[hc,if_true]
   rw[List.lookup_cons,List.lookup_cons]
   cases q:x == n with
   | true=>have e:=beq_iff_eq.mp q;subst e;simp only[Option.map,hc,if_true]
   | false=>exact ih
  ·rw[List.map_cons]
   simp only[hc,Bool.false_eq_true,if_false]
   rw[List.lookup_cons,List.lookup_cons]
   cases q:x == n with
   | true=>have e:=beq_iff_eq.mp q;subst e;simp only[Option.map,hc,Bool.false_eq_true,if_false]
   | false=>exact ih

theorem CxOk.comp {scope:Scope}{t:Tg}{cl:List (Str×Addr)}{C:Addr}{m:Str→Option Value} (O:CxOk T c K hd) (h:cOk K scope t=true) (e2:∀x a,cl.lookup x=some a→c.env.cells.lookup x=some a) (e3:∀x,scope.names.lookup x=some .free→∃a,cl.lookup x=some a) :
  CxOk T (c.comp K scope cl C m) (K.comp scope) hd:=by
 obtain⟨h1,h2,h3,h4,h5⟩:=Dq h
 refine⟨?_,h1,O.names,rfl,O.gint,O.fns,O.cls,O.glob,O.bi,O.hand,O.units,O.frames,O.inj,(fun x a e q=>by cases q),fun x a e=>O.cellFr x a (e2 x a e),fun x e=>?_,fun x y a ex ey=>O.cellInj x y a (e2 x a ex) (e2 y a ey)⟩
 ·show CK scope c.env.scope=CK scope K.sc
  rw[O.sc]
 ·have e:(CK scope c.env.scope).names.lookup x=some .cell:=e
  rw[DU] at e
  cases q:scope.names.lookup x with
  | none=>rw[q] at e;cases e
  | some k =>
   rw[q] at e
   cases k with
   | free=>exact e3 x q
   | cell=>exact absurd rfl (h2 _ (Br q))
   | _=>simp at e

theorem Sim.intoC {P:Addr→Obj→Prop}{ρ ρ₀:Loc}{H:Hp}{s:Shared}{h':Heap}{tk:Nat}{scope:Scope}{t:Tg}{cl:List (Str×Addr)}{C:Addr}{m:Str→Option Value}{ad:List Addr} (O:CxOk T c K hd) (h:cOk K scope t=true) (e2:∀x a,cl.lookup x=some a→c.env.cells.lookup x=some a)
  (e3:∀x,scope.names.lookup x=some .free→∃a,cl.lookup x=some a) (S:Sim W c P ρ H s) (hk:∀b o,s.heap.get? b=some o→h'.get? b=some o) (hC:s.heap.get? C=none) (hn:h'.Ns C (fun ξ=>none)) (hm:s.heap.Ns c.env.locals m)
  (hv:∀i x v,c.vis i=true→c.names[i]?=some x→ρ[i]?=some (some v)→HasVar W c.env s.heap m (Str.ofString x) v) (h0:∀(i:Nat) (v:V),ρ₀[i]?=some (some v)→ρ[i]?=some (some v)∧i∉t.slots) :
  Sim W (c.comp K scope cl C m) (PC c H s.heap ad) ρ₀ H { s with heap:=h',toks:=tk }:=by
 obtain⟨h1,h2,h3,h4,h5⟩:=Dq h
 have kr:KeepR W s.heap h':=.of_keeps hk
 obtain⟨f1,f2,f3,f4⟩:=S.fresh hC
 have hCne:∀b o,s.heap.get? b=some o→b≠C:=fun b o e q=>by rw[q,hC] at e;cases e
 obtain⟨oC,esC,epC,eC,dC,rC⟩:=id hn
 refine⟨?_,fun b o e=>hk b o (S.base b o e),AM S.frames fun b hb o e d=>⟨o,hk b o e,d⟩,fun p hp=>?_,⟨fun ξ=>none,hn,fun i x v v1 v2 v3=>?_⟩,by simp [Cx.comp,compEnvC],fun b hb=>?_,fun b hb p hp=>?_,
  fun a o e=>(S.heap a o e).at kr fun ob z=>hk a ob z,S.new,fun a o e=>?_,fun b o p=>hk b o p.1,fun b o p=>p.2.1,fun b o p=>⟨?_,p.2.2.1⟩,fun x a e=>?_,fun b hb=>?_,fun b hb=>(S.scr b hb).at fun o e ξ ξ=>hk b o e⟩
 ·obtain⟨hp,tk',e⟩:=S.rest
  exact⟨h',tk,by rw[e]⟩
 ·rcases List.mem_cons.mp hp with rfl | hp
  ·exact hm.at' fun o e=>hk _ o e
  ·exact (S.outer p hp).at' fun o e=>hk _ o e
 ·obtain⟨w1,w2⟩:=h0 i v v3
  have v2':K.names[i]?=some x:=by rw[←O.names];exact v2
  have v1':(K.comp scope).vis i=true:=v1
  unfold Kc.comp at v1'
  dsimp only at v1'
  rw[v2'] at v1'
  dsimp only at v1'
  split at v1'
  ·rename_i q;exact absurd (h5 i x v2' q) w2
  ·rename_i q
   simp only[Bool.and_eq_true,beq_iff_eq] at v1'
   obtain⟨z1,z2⟩:=v1'
   obtain⟨a,ha⟩:=e3 _ q
   have ke:c.env.kindOf (Str.ofString x)=some .cell:=by unfold Env.kindOf;rw[O.sc];exact z2
   rcases hv i x v (by rw[O.vis];exact z1) v2 w1 with ⟨k,_⟩ | ⟨k,cl',o,u,e',ho,hd',r'⟩
   ·rw[ke] at k;cases k
   ·have:=e2 _ _ ha
    rw[e'] at this;cases this
    refine .cel (?_) a o u ha (hk _ _ ho) hd' (r'.mono kr)
    show (CK scope c.env.scope).names.lookup (Str.ofString x)=some .cell
    rw[DU,q,O.sc]
    simp [O.kind,z2]
  ·cases v1'
 ·simp [Cx.comp] at hb;subst hb;exact f1
 ·simp [Cx.comp] at hb;subst hb
  rcases List.mem_cons.mp hp with rfl | hp
  ·rintro q
   obtain⟨o,_,_,e,_⟩:=hm
   exact hCne _ _ e q
  ·rintro q
   obtain⟨o,_,_,e,_⟩:=S.outer p hp
   exact hCne _ _ e q
 ·have:=S.apart a o e
  obtain⟨ob,ea,_⟩:=(S.heap a o e).obj
  have ne:=hCne _ _ ea
  simp only[Cx.all,Cx.comp,Cx.frs,List.mem_append,List.map_cons,List.mem_cons,List.not_mem_nil,or_false,not_or] at this ⊢
  exact⟨⟨ne,this.1.2⟩,fun q=>this.1.1 (q▸S.locOwn),this.2⟩
 ·simp [Cx.comp];exact hCne _ _ p.1
 ·obtain⟨u,o,e1,e2'⟩:=S.cells x a (e2 x a e)
  exact⟨u,o,hk _ _ e1,e2'⟩
 ·rcases hb with hb | hb
  ·simp [Cx.comp] at hb;subst hb
   exact⟨oC,eC,.inl ⟨_,_,dC⟩⟩
  ·obtain⟨o,e,q⟩:=S.ownD b (.inr hb)
   exact⟨o,hk _ _ e,q⟩

theorem Sim.outC {z:Addr→Prop} (hz:∀b,W.scr b→z b) {P:Addr→Obj→Prop}{ρ ρc:Loc}{H H':Hp}{s s':Shared}{h'':Heap}{scope:Scope}{cl:List (Str×Addr)}{C:Addr}{m:Str→Option Value}{ad:List Addr} (O:CxOk T c K hd) (S:Sim (W.z z) c P ρ H s) (hC:s.heap.get? C=none) (hm:s.heap.Ns c.env.locals m)
  (hv:∀i x v,c.vis i=true→c.names[i]?=some x→ρ[i]?=some (some v)→HasVar (W.z z) c.env s.heap m (Str.ofString x) v) (hin:K.inC=false) (had:∀b∈ad,DQ W c P H b) (hadT:∀b∈ad,∀o,s.heap.get? b=some o→ItRec (W.z z) b o)
  (S':Sim W (c.comp K scope cl C m) (PC c H s.heap ad) ρc H' s') (hs:Heap.SameBut C s'.heap h''):Sim W c P ρ H' { s' with heap:=h'' }∧KeepR (W.z z) s.heap h'':=by
 have k0:∀b o,b≠C→s'.heap.get? b=some o→h''.get? b=some o:=fun b o q e=>hs.extBut b o q e
 have hCne:∀b o,s.heap.get? b=some o→b≠C:=fun b o e q=>by rw[q,hC] at e;cases e
 have kp:∀b o,s.heap.get? b=some o→H b=none→b∉c.frs→b∉ad→h''.get? b=some o:=fun b o e q1 q2 q3=>k0 b o (hCne b o e) (S'.prot b o ⟨e,q1,q2,q3⟩)
 obtain⟨f1,f2,f3,f4⟩:=S.fresh hC
 have nfr:∀b o,s.heap.get? b=some o→(∀es n,o.data≠.dict es n)→(∀v,o.data≠.cell v)→b∉c.frs:=fun b o e d1 d2 mm=>by
  obtain⟨o',e',q⟩:=S.ownD b (.inr mm)
  rw[e] at e';cases e'
  rcases q with ⟨_,_,q⟩ | ⟨_,q⟩
  ·exact d1 _ _ q
  ·exact d2 _ q
 have nH:∀b o,s.heap.get? b=some o→o.cls≠.type "list" → o.cls≠.type "dict" → H b=none:=fun b o e h1 h2=>by
  cases q:H b with
  | none=>rfl
  | some x =>
   obtain⟨ob,e',k,_⟩:=(S.heap b x q).obj
   rw[e] at e';cases e'
   rcases k with k | k
   ·exact absurd k h1
   ·exact absurd k h2
 have kr:KeepR (W.z z) s.heap h'':=by
  refine⟨fun b o i n e k d nz=>kp b o e (nH b o e (by rw[k];decide) (by rw[k];decide)) (nfr b o e (by first | exact Ap d rfl | exact Aq d rfl | (rw[d];exact nofun)) (by first | exact Ap d rfl | exact Aq d rfl | (rw[d];exact nofun))) fun z=>?_,fun b o D ws e k d=>⟨o,ws,kp b o e (nH b o e (by first | exact Ap k rfl | exact Aq k rfl | (rw[k];exact nofun)) (by first | exact Ap k rfl | exact Aq k rfl | (rw[k];exact nofun))) (nfr b o e (by first | exact Ap d rfl | exact Aq d rfl | (rw[d];exact nofun)) (by first | exact Ap d rfl | exact Aq d rfl | (rw[d];exact nofun))) fun z=>?_,k,d⟩⟩
  ·obtain⟨n',q1,q2,_,_⟩:=hadT b z o e
   rw[k] at q1;cases q1;exact nz (q2 rfl)
  ·obtain⟨n',q1,q2,_,_⟩:=hadT b z o e
   rw[k] at q1;cases q1
 have nad:∀b o,s.heap.get? b=some o→((∃es n,o.data=.dict es n)∨(∃v,o.data=.cell v))→b∉ad:=fun b o e q z=>by
  obtain⟨_,_,_,d1,d2⟩:=hadT b z o e
  rcases q with ⟨_,_,q⟩ | ⟨_,q⟩
  ·exact d1 _ _ q
  ·exact d2 _ q
 have own:∀b,b∈c.own→b∉c.frs→∃o,s.heap.get? b=some o∧h''.get? b=some o∧H' b=none:=fun b hb hf=>by
  obtain⟨o,e,q⟩:=S.ownD b (.inl hb)
  have hH:H b=none:=by
   cases z:H b with
   | none=>rfl
   | some x=>exact absurd (Cx.mem_all_own hb) (S.apart b x z)
  exact⟨o,e,kp b o e hH hf (nad b o e q),S'.protH b o ⟨e,hH,hf,nad b o e q⟩⟩
 have fr:∀b,b∈c.frs→∃o,h''.get? b=some o∧((∃es n,o.data=.dict es n)∨(∃v,o.data=.cell v)):=fun b hb=>by
  obtain⟨o,e,q⟩:=S'.ownD b (.inr hb)
  obtain⟨o',e',_⟩:=S.ownD b (.inr hb)
  exact⟨o,k0 b o (hCne b o' e') e,q⟩
 refine⟨⟨?_,fun b o e=>k0 b o (fun q=>by rw[q,f1] at e;cases e) (S'.base b o e),AM (h:=s'.heap) S'.frames fun b hb o e d=>⟨o,k0 b o ?_ e,d⟩,fun p hp=>?_,⟨m,?_,fun i x v h1 h2 h3=>(hv i x v h1 h2 h3).monoZ (z:=W.scr) kr (fun ξ ξ ξ ξ ξ ξ ξ q w=>q (hz _ w)) fun cl' o u e1 ho hq=>?_⟩,S.locOwn,S.ownNew,S.ownOut,
  fun a o e=>?_,S'.new,fun a o e=>?_,fun b o p=>?_,fun b o p=>?_,S.protF,fun x a e=>?_,fun b hb=>?_,fun b hb=>?_⟩,kr⟩
 ·obtain⟨hp,tk',e⟩:=S'.rest;exact⟨h'',tk',by rw[e]⟩
 ·obtain⟨o',e',_⟩:=S.ownD b (.inr hb);exact hCne b o' e'
 ·refine (S'.outer p (.tail _ hp)).at' fun o e=>k0 _ o ?_ e
  obtain⟨o',_,_,e',_⟩:=S.outer p hp
  exact hCne _ _ e'
 ·refine (S'.outer (c.env.locals,m) (.head _)).at' fun o e=>k0 _ o ?_ e
  obtain⟨o',_,_,e',_⟩:=hm
  exact hCne _ _ e'
 ·obtain⟨o',q1,q2,_⟩:=own cl' (O.cellOwn _ _ e1 hin) (O.cellFr _ _ e1)
  rw[ho] at q1;cases q1
  exact⟨o,q2,rfl⟩
 ·have z:=S'.heap a o e
  obtain⟨ob,ea,_⟩:=z.obj
  have ne:a≠C:=by
   have:=S'.apart a o e
   simp only[Cx.all,Cx.comp,List.mem_append,List.mem_cons,List.not_mem_nil,or_false,not_or] at this
   exact this.1.1
  refine z.at ?_ fun ob' e'=>k0 _ _ ne e'
  have hl:=S'.loc
  obtain⟨m',⟨oC,esC,epC,eC,dC,_⟩,_⟩:=hl
  have nt:∀b o,s'.heap.get? b=some o→(∀es n,o.data≠.dict es n)→b≠C:=fun b o e d q=>by rw[q,show s'.heap.get? C=some oC from eC] at e;cases e;exact d _ _ dC
  exact⟨fun b o i n e k d ξ=>k0 b o (nt b o e (by first | exact Ap d rfl | exact Aq d rfl | (rw[d];exact nofun))) e,fun b o D ws e k d=>⟨o,ws,k0 b o (nt b o e (by first | exact Ap d rfl | exact Aq d rfl | (rw[d];exact nofun))) e,k,d⟩⟩
 ·have:=S'.apart a o e
  simp only[Cx.all,Cx.comp,Cx.frs,List.mem_append,List.map_cons,List.mem_cons,List.not_mem_nil,or_false,not_or] at this ⊢
  refine⟨⟨fun q=>?_,this.1.2⟩,this.2.2⟩
  by_cases hf:a∈c.frs
  ·exact this.1.2 hf
  ·obtain⟨_,_,_,z⟩:=own a q hf
   rw[e] at z;cases z
 ·exact kp b o (S.prot b o p) (S.protH b o p) (S.protF b o p).2 fun z=>(had b z).2.2.1 o p
 ·exact S'.protH b o ⟨S.prot b o p,S.protH b o p,(S.protF b o p).2,fun z=>(had b z).2.2.1 o p⟩
 ·obtain⟨u,o,e1,e2⟩:=S.cells x a e
  obtain⟨o',q1,q2,_⟩:=own a (O.cellOwn _ _ e hin) (O.cellFr _ _ e)
  rw[e1] at q1;cases q1
  exact⟨u,o,q2,e2⟩
 ·rcases hb with hb | hb
  ·by_cases hf:b∈c.frs
   ·exact fr b hf
   ·obtain⟨o,e,q2,_⟩:=own b hb hf
    obtain⟨o',e',q⟩:=S.ownD b (.inl hb)
    rw[e] at e';cases e'
    exact⟨o,q2,q⟩
  ·exact fr b hb
 ·obtain⟨m',⟨oC,esC,epC,eC,dC,_⟩,_⟩:=S'.loc
  exact (S'.scr b hb).at fun o e ξ hPt=>by obtain⟨i,n,d⟩:=hPt;exact k0 b o (fun q=>by rw[q,show s'.heap.get? C=some oC from eC] at e;cases e;rw[d] at dC;cases dC) e
end
end Mine.Internal
end

section
namespace Mine.Internal
open PySem PySem.W PySem.Calls PyProof.Rows PySem.SeqAt
section
variable {W:Wd}{T:Tx W}{c:Cx}{K:Kc}{hd:Bool}{G:Gl}

theorem Ld {prog:Program}{w:World}{A:Around}{R:Result→Shared→Prop}{s:Shared}{elt target iter:Expr}{ifs:List Expr}{scope:Scope}{pos:Pos}{it acc:Value}{env:Env} (I:Nat→Shared→Prop)
  (turn:∀n s,I n s→wpAny (model prog w) A (pyNext it) (fun r s₁=>match r with
   | none=>R (.ok .next) s₁
   | some v=>wpAny (model prog w) A (letOwnedTupleGo target it v) (fun ξ s₁'=>wpAny (model prog w) A (assign target env v) (fun ξ s₂ =>
     wpAny (model prog w) A (forIn ifs true fun c r=>if r=true then do let ok ←isTrue c env (eval c env);pure (ForInStep.yield ok) else pure (ForInStep.yield r)) (fun ok s₃ =>
      if ok=true then wpAny (model prog w) A (eval elt env) (fun x s₄ =>
       wpAny (model prog w) A (call (.builtin "list.append") [acc,x]) (fun ξ s₅=>∃m,m<n∧I m s₅) (fun ξ ξ=>False) s₄) (fun ξ ξ=>False) s₃
      else ∃m,m<n∧I m s₃) (fun ξ ξ=>False) s₂) (fun ξ ξ=>False) s₁') (fun ξ ξ=>False) s₁) (fun ξ ξ=>False) s)
  (n:Nat) (h:I n s):codeAny (model prog w) A (.compLoop (.ListComp elt [⟨target,iter,ifs,0⟩] scope pos) 0 it acc env) R s:=by
 refine codeAny_loop rfl I (fun n s hI=>?_) n h
 show wpAny _ A ((compTurn (.ListComp elt [⟨target,iter,ifs,0⟩] scope pos) 0 it acc env).onRaise (fun x=>do noteFrame x env;theTreesLotGoes x)) _ _ s
 refine wpAny_noted ?_
 rw[compTurn_list]
 refine wpAny_bind (wpAny_standAt (wpAny_bind (wpAny_mono (turn n s hI) (fun r s₁ h₁=>?_) fun ξ ξ f=>f.elim)))
 cases r with
 | none=>exact wpAny_pure h₁
 | some v =>
  refine wpAny_bind (wpAny_mono h₁ (fun ξ s₁' h₁'=>?_) fun ξ ξ f=>f.elim)
  refine wpAny_bind (wpAny_mono h₁' (fun ξ s₂ h₂=>wpAny_bind (wpAny_mono h₂ (fun ok s₃ h₃=>?_) fun ξ ξ f=>f.elim)) fun ξ ξ f=>f.elim)
  cases ok with
  | false=>exact wpAny_pure ⟨rfl,h₃⟩
  | true =>
   exact wpAny_bind (wpAny_bind (wpAny_mono h₃ (fun x s₄ h₄=>wpAny_bind (wpAny_mono h₄ (fun ξ s₅ h₅=>wpAny_pure (wpAny_pure ⟨rfl,h₅⟩)) fun ξ ξ f=>f.elim)) fun ξ ξ f=>f.elim))

theorem Sim.addP {P:Addr→Obj→Prop}{ρ:Loc}{H:Hp}{s:Shared} (S:Sim W c P ρ H s) (X:Addr→Obj→Prop) (hX:∀b o,X b o→s.heap.get? b=some o∧H b=none∧b∉c.own∧b∉c.frs):Sim W c (fun b o=>P b o∨X b o) ρ H s :=
 { S with prot:=fun b o p=>p.elim (S.prot b o) fun x=>(hX b o x).1,protH:=fun b o p=>p.elim (S.protH b o) fun x=>(hX b o x).2.1,protF:=fun b o p=>p.elim (S.protF b o) fun x=>(hX b o x).2.2 }
theorem DQ.out {P:Addr→Obj→Prop}{H:Hp}{b:Addr} (f:DQ W c P H b):b∉c.own∧b∉c.frs:=⟨fun m=>f.2.1 (Cx.mem_all_own m),fun m=>f.2.1 (Cx.mem_all_frs m)⟩

inductive CompI (W:Wd) (c:Cx) (P:Addr→Obj→Prop) (ρ:Loc) (D:Addr) (ad:List Addr) (w:List (Addr×Ob)) (R:List It→Heap→Prop) (t:Tg) (elt:Loc→(V→Hp→Prop)→Hp→Prop) (test:Loc→(Bool→Hp→Prop)→Hp→Prop) (QQ:List V→Hp→Prop) (n:Nat) (s:Shared):Prop
 | mk (its:List It) (acc:List V) (ρc:Loc) (H:Hp) (items:Array Value) (k:Nat) (en:n=its.length) (S:Sim W c P ρc H s) (hb:∀it ρ',Bt t it ρ=some ρ'→Bt t it ρc=some ρ') (gD:s.heap.get? D=some { cls:=.type "list",data:=.seq items k }) (rD:As W s.heap acc items.toList) (hl:acc.length≤Lim)
  (fD:DQ W c P H D) (r:R its s.heap) (fad:∀b∈ad,DQ W c P H b) (g:AT t w ρ elt test its acc QQ H)
theorem JQ {z:Addr→Prop}{A:Around}{P:Addr→Obj→Prop}{ρ:Loc}{D I:Addr}{ad:List Addr}{w:List (Addr×Ob)}{R:List It→Heap→Prop}{t:Tg}{tx sx x:Expr}{ifs:List Expr}{scope:Scope}{pos:Pos}{RR:Result→Shared→Prop}{elt:Loc→(V→Hp→Prop)→Hp→Prop}{test:Loc→(Bool→Hp→Prop)→Hp→Prop}{QQ:List V→Hp→Prop}
  (C:CxOk T c K false) (hA:c.A=A) (O:ItOk W z A I ad w R) (m:MTg K t tx)
  (hE:∀(P':Addr→Obj→Prop) (ρ':Loc) (H':Hp) (s':Shared) (Q:V→Hp→Prop),Sim (W.z z) c P' ρ' H' s'→elt ρ' Q H'→wpAny (model W.prog W.w) A (eval x c.env) (PE (W.z z) c P' ρ' Q) (fun ξ ξ=>False) s')
  (hT:∀(P':Addr→Obj→Prop) (ρ':Loc) (H':Hp) (s':Shared) (B:Bool→Hp→Prop),Sim (W.z z) c P' ρ' H' s'→test ρ' B H'→wpAny (model W.prog W.w) A (forIn ifs true fun cx r=>if r=true then do let ok ←isTrue cx c.env (eval cx c.env);pure (ForInStep.yield ok) else pure (ForInStep.yield r)) (fun b s''=>∃H'',Sim (W.z z) c P' ρ' H'' s''∧B b H'') (fun ξ ξ=>False) s')
  (hset:∀it it' ρ₁ ρ₂,Bt t it ρ=some ρ₁→Bt t it' ρ=some ρ₂→Bt t it' ρ₁=some ρ₂)
  (hRR:∀vs H' s' ρc,Sim W c P ρc H' s'→H' D=none→DQ W c P H' D→(∃items n,s'.heap.get? D=some { cls:=.type "list",data:=.seq items n }∧As W s'.heap vs items.toList)→QQ vs H'→vs.length≤Lim→RR (.ok .next) s') (hDad:D∉ad) :
  ∀(its:List It) (acc:List V) (ρc:Loc) (H:Hp) (s:Shared),Sim (W.z z) c P ρc H s→(∀it ρ',Bt t it ρ=some ρ'→Bt t it ρc=some ρ')→(∃items n,s.heap.get? D=some { cls:=.type "list",data:=.seq items n }∧As (W.z z) s.heap acc items.toList)→acc.length≤Lim →
   DQ W c P H D→R its s.heap→(∀b∈ad,DQ W c P H b)→AT t w ρ elt test its acc QQ H →
   codeAny (model W.prog W.w) A (.compLoop (.ListComp x [⟨tx,sx,ifs,0⟩] scope pos) 0 (.ref I) (.ref D) c.env) RR s:=by
 intro its acc ρc H s S hb hD hl fD r fad g
 obtain⟨items,k,gD,rD⟩:=hD
 refine Ld (I:=CompI (W.z z) c P ρ D ad w R t elt test QQ) (fun n s hI=>?_) its.length ⟨its,acc,ρc,H,items,k,rfl,S,hb,gD,rD,hl,fD,r,fad,g⟩
 clear its acc ρc H S hb gD rD hl fD r fad g items k
 obtain⟨its,acc,ρc,H,items,n,rfl,S,hb,gD,rD,hl,fD,r,fad,g⟩:=hI
 cases its with
 | nil =>
  refine wpAny_mono (O.fin c (fun b o=>P b o∨(b=D∧s.heap.get? D=some o)) ρc H s _ hA (S.addP (fun b o=>b=D∧s.heap.get? D=some o) ?_) ?_ g.1 r) (fun q s₁ h₁=>?_) fun ξ ξ f=>f
  ·rintro b o ⟨rfl,e⟩;exact⟨e,fD.2.2.2,fD.out⟩
  ·intro b hbad
   refine⟨(fad b hbad).1,(fad b hbad).2.1,fun o p=>p.elim ((fad b hbad).2.2.1 o) fun hPt=>by obtain⟨q,_⟩:=hPt;exact hDad (q▸hbad),(fad b hbad).2.2.2⟩
  ·obtain⟨rfl,S₁,kr⟩:=h₁
   have k:=S₁.prot D _ (.inr ⟨rfl,gD⟩)
   refine hRR acc H s₁ ρc (S₁.weaken fun b o p=>.inl p) fD.2.2.2 fD ⟨items,n,k,(rD.mono kr).monoZ (z:=W.scr) (.refl _) fun ξ ξ ξ ξ ξ ξ ξ q w=>q (O.sub _ w)⟩ g.2 hl
 | cons it its =>
  obtain⟨ok,hlt,ρ',eb,g⟩:=g
  have free1:∀b∈ad,DQ W c (fun b o=>P b o∨(b=D∧s.heap.get? D=some o)) H b:=fun b hbad =>
   ⟨(fad b hbad).1,(fad b hbad).2.1,fun o p=>p.elim ((fad b hbad).2.2.1 o) fun hPt=>by obtain⟨q,_⟩:=hPt;exact hDad (q▸hbad),(fad b hbad).2.2.2⟩
  refine wpAny_mono (O.item c (fun b o=>P b o∨(b=D∧s.heap.get? D=some o)) ρc H s it its tx _ hA (S.addP (fun b o=>b=D∧s.heap.get? D=some o) ?_) free1 ok r (m.xi eb)) (fun q s₁ h₁=>?_) fun ξ ξ f=>f
  ·rintro b o ⟨rfl,e⟩;exact⟨e,fD.2.2.2,fD.out⟩
  obtain⟨v,rfl,h₁⟩:=h₁
  refine wpAny_mono h₁ (fun ξ s₂ hx=>?_) fun ξ ξ f=>f
  obtain⟨S₂,k₂,rv,r₂⟩:=hx
  have gD₂:=S₂.prot D _ (.inr ⟨rfl,gD⟩)
  have S₂':=S₂.addP (fun b o=>b∈ad∧s₂.heap.get? b=some o) fun b o hPt=>by obtain⟨hbad,e⟩:=hPt;exact⟨e,(fad b hbad).2.2.2,(fad b hbad).out⟩
  refine hA▸Dt (W:=W.z z) (T:=T.z z) (C.z z) (C.hand rfl) S₂' m (hb it ρ' eb) rv fun s₃ S₃ k₃=>?_
  refine hA▸wpAny_mono (hT _ ρ' H s₃ _ S₃.max g) (fun b s₄ hx=>?_) fun ξ ξ f=>f
  obtain⟨H₄,S₄m,g₄⟩:=hx
  have k₄:=S₃.keepR S₄m
  have S₄:=S₄m.weaken S₃.le_max
  have rest:∀(H₅:Hp) (s₅:Shared) (acc':List V) (items':Array Value) (n':Nat),Sim (W.z z) c P ρ' H₅ s₅→H₅ D=none→(∀b∈ad,H₅ b=none)→(∀b∈ad,∀o,s₂.heap.get? b=some o→s₅.heap.get? b=some o)→s₅.heap.get? D=some { cls:=.type "list",data:=.seq items' n' }→As (W.z z) s₅.heap acc' items'.toList→acc'.length≤Lim→AT t w ρ elt test its acc' QQ H₅ →
    ∃m,m<(it :: its).length∧CompI (W.z z) c P ρ D ad w R t elt test QQ m s₅ :=
   fun H₅ s₅ acc' items' n' S₅ hDn had hk g' r' l' gg=>⟨its.length,Nat.lt_succ_self _,its,acc',ρ',H₅,items',n',rfl,S₅,fun it' ρ₂ e'=>hset it it' ρ' ρ₂ eb e',g',r',l',⟨fD.1,fD.2.1,fD.2.2.1,hDn⟩,O.frame _ _ _ r₂ hk,fun b hbad=>⟨(fad b hbad).1,(fad b hbad).2.1,(fad b hbad).2.2.1,had b hbad⟩,gg⟩
  have pD:(fun b o=>(P b o∨(b=D∧s.heap.get? D=some o))∨(b∈ad∧s₂.heap.get? b=some o)) D { cls:=.type "list",data:=.seq items n }:=.inl (.inr ⟨rfl,gD⟩)
  have rD₄:=(((rD.mono k₂).mono k₃).mono k₄)
  have wk:∀b o,P b o→(P b o∨(b=D∧s.heap.get? D=some o))∨(b∈ad∧s₂.heap.get? b=some o):=fun b o p=>.inl (.inl p)
  cases b with
  | false =>
   simp only[Bool.false_eq_true,if_false] at g₄ ⊢
   exact rest H₄ s₄ acc items n (S₄.weaken wk) (S₄.protH D _ pD) (fun b hbad=>by obtain⟨o,e,_⟩:=O.there _ _ r₂ b hbad;exact S₄.protH b o (.inr ⟨hbad,e⟩)) (fun b hbad o e=>S₄.prot b o (.inr ⟨hbad,e⟩)) (S₄.prot D _ pD) rD₄ hl g₄
  | true =>
   simp only[if_true] at g₄ ⊢
   refine wpAny_mono (hE _ ρ' H₄ s₄ _ S₄.max g₄) (fun u s₅ hx=>?_) fun ξ ξ f=>f
   obtain⟨v₅,H₅,S₅m,rz,g₅⟩:=hx
   have k₅:=S₄.keepR S₅m
   have S₅:=S₅m.weaken S₄.le_max
   have gD₅:=S₅.prot D _ pD
   have rD₅:=rD₄.mono k₅
   have hsz:items.size=acc.length:=by rw[rD.length];simp
   refine call_meets F.slot_list_append ⟨_,gD₅,rfl⟩ F.entry_list_append (F.args_list_append_2 _ _) (list_append D items n u ?_) ⟨gD₅,?_⟩
   ·rw[hsz,sizeLine_eq];unfold Lim at hlt;exact lA [] [_] (.n 0) (.c 16777216) [.B (.n 0) (.c 16777216)] [1,1] rfl hlt
   have hkk:=F3 (h:=s₅.heap) (a:=D) (Obj.mapSeq (·.push u))
   have kr:KeepR (W.z z) s₅.heap (s₅.heap.update D (Obj.mapSeq (·.push u))):=⟨fun b o i n' e k d ξ=>hkk b o (by rintro rfl;rw[gD₅] at e;cases e;exact absurd (show Value.type "list" = Value.type "tuple" from k) (by decide)) e,fun b o C' ws e k d=>⟨o,ws,hkk b o (by rintro rfl;rw[gD₅] at e;cases e;cases k) e,k,d⟩⟩
   have S₆:Sim (W.z z) c P ρ' H₅ { s₅ with heap:=s₅.heap.update D (Obj.mapSeq (·.push u)) }:=by
    refine (S₅.weaken wk).change (tk:=s₅.toks) D (fun o e=>?_) fD.1 fD.2.1 fD.2.2.1 hkk (fun ξ ξ=>rfl) fun o e=>?_
    ·rw[gD₅] at e;cases e;exact⟨show Value.type "list" ≠ Value.type "tuple" by decide,by first | exact Ap rfl rfl | exact Aq rfl rfl | exact nofun,by first | exact Ap rfl rfl | exact Aq rfl rfl | exact nofun⟩
    ·rw[S₅.protH D _ pD] at e;cases e
   refine rest H₅ _ (acc++[v₅]) _ _ S₆ (S₅.protH D _ pD) (fun b hbad=>by obtain⟨o,e,_⟩:=O.there _ _ r₂ b hbad;exact S₅.protH b o (.inr ⟨hbad,e⟩)) (fun b hbad o e=>hkk b o (fun q=>hDad (q▸hbad)) (S₅.prot b o (.inr ⟨hbad,e⟩))) (Ir gD₅ (·.push u)) ?_ ?_ g₅
   ·rw[Array.toList_push]
    exact (rD₅.mono kr).append (.cons (rz.mono kr) .nil)
   ·rw[List.length_append];simp only[List.length_cons,List.length_nil];exact lA [] [_,_] (.a (.n 0) (.a (.c 0) (.c 1))) (.n 1) [.B (.n 0) (.n 1)] [1,1] rfl hlt
end
end Mine.Internal
end

section
namespace Mine.Internal
open PySem PySem.W PySem.Calls PyProof.Rows PySem.SeqAt

noncomputable def FF:Tg→Loc→Loc
 | .one i,ρ=>ρ.set i none
 | .two i j,ρ=>(ρ.set i none).set j none
theorem Nb (ρ:Loc) (i j:Nat) (a b x y:Option V):(((ρ.set i a).set j b).set i x).set j y=(ρ.set i x).set j y:=by
 apply List.ext_getElem?
 intro k
 simp only[List.getElem?_set,List.length_set]
 by_cases h1:j=k <;> by_cases h2:i=k <;> simp [h1,h2]
theorem set2 (ρ:Loc) (i:Nat) (a x:Option V):(ρ.set i a).set i x=ρ.set i x:=by
 apply List.ext_getElem?
 intro k
 simp only[List.getElem?_set,List.length_set]
 by_cases h2:i=k <;> simp [h2]
theorem Lh {t:Tg}{it it':It}{ρ ρ₁ ρ₂:Loc} (h1:Bt t it ρ=some ρ₁) (h2:Bt t it' ρ=some ρ₂):Bt t it' ρ₁=some ρ₂:=by
 cases t with
 | one i =>
  cases it with
  | p _ _=>cases h1
  | v x =>
   cases it' with
   | p _ _=>cases h2
   | v y=>cases h1;cases h2;show some _=some _;rw[set2]
 | two i j =>
  have k:∃x y,ρ₁=(ρ.set i (some x)).set j (some y):=by
   cases EC h1 with
   | p x y _ hr=>exact⟨x,y,hr⟩
   | v x y _ hr=>exact⟨x,y,hr⟩
  obtain⟨x,y,rfl⟩:=k
  cases EC h2 with
  | p x' y' hi hr=>subst hi hr;exact congrArg some (Nb ..)
  | v x' y' hi hr=>subst hi hr;exact congrArg some (Nb ..)
theorem JW {t:Tg}{it:It}{ρ ρ':Loc} (h:Bt t it ρ=some ρ'):Bt t it (FF t ρ)=some ρ':=by
 cases t with
 | one i =>
  cases it with
  | p _ _=>cases h
  | v x=>cases h;show some _=some _;unfold FF;rw[set2]
 | two i j =>
  cases EC h with
  | p x y hi hr=>subst hi hr;exact congrArg some (Nb ..)
  | v x y hi hr=>subst hi hr;exact congrArg some (Nb ..)
theorem JK {t:Tg}{ρ:Loc}{i:Nat}{v:V} (h:(FF t ρ)[i]?=some (some v)):ρ[i]?=some (some v)∧i∉t.slots:=by
 cases t with
 | one j =>
  unfold FF at h
  rw[List.getElem?_set] at h
  by_cases q:j=i
  ·rw[if_pos q] at h;split at h <;> simp at h
  ·rw[if_neg q] at h;exact⟨h,by simp [Tg.slots];exact fun z=>q z.symm⟩
 | two j k =>
  unfold FF at h
  rw[List.getElem?_set,List.getElem?_set] at h
  by_cases q:k=i
  ·rw[if_pos q] at h;split at h <;> simp at h
  ·rw[if_neg q] at h
   by_cases q2:j=i
   ·rw[if_pos q2] at h;split at h <;> simp at h
   ·rw[if_neg q2] at h;exact⟨h,by simp [Tg.slots];exact⟨fun z=>q2 z.symm,fun z=>q z.symm⟩⟩

section
variable {W:Wd}{T:Tx W}{c:Cx}{K:Kc}{G:Gl}

noncomputable def DJ (W:Wd) (c:Cx) (P:Addr→Obj→Prop) (ρ:Loc) (Q:V→Hp→Prop) (D C:Addr) (s':Shared):Prop :=
 (∃m,s'.heap.Ns C m)∧(∀o,¬P C o)∧C∉c.own∧C∉c.frs∧(W.base.get? C=none∧C∉c.all)∧∃vs H',H' D=none∧Bb vs Q H'∧(H'.set D (.list vs)) C=none∧∀h'',Heap.SameBut C s'.heap h''→Sim W c P ρ (H'.set D (.list vs)) { s' with heap:=h'' }

theorem Hu {z:Addr→Prop}{P:Addr→Obj→Prop}{ρ:Loc}{H:Hp}{s₂:Shared}{I:Addr}{ad:List Addr}{w:List (Addr×Ob)}{R:List It→Heap→Prop}{its:List It}{t:Tg}{tx sx x:Expr}{ifs:List Expr}{scope:Scope}{pos:Pos}{cl:List (Str×Addr)}{E:Value→Shared→Prop}{Q:V→Hp→Prop}
  {RR:Value→Addr→Result→Shared→Prop}{elt:Loc→(V→Hp→Prop)→Hp→Prop}{test:Loc→(Bool→Hp→Prop)→Hp→Prop}
  (C:CxOk T c K false) (hin:K.inC=false) (hc:cOk K scope t=true) (e2:∀x a,cl.lookup x=some a→c.env.cells.lookup x=some a) (e3:∀x,scope.names.lookup x=some .free→∃a,cl.lookup x=some a)
  (mt:MTg (K.comp scope) t tx) (O:ItOk W z c.A I ad w R) (r:R its s₂.heap) (S:Sim (W.z z) c P ρ H s₂) (fad:∀b∈ad,DQ W c P H b) (g:AT t w ρ elt test its [] (fun vs H'=>Bb vs Q H') H)
  (hE:∀c',CxOk (T.z z) c' (K.comp scope) false→c'.A=c.A→∀(P':Addr→Obj→Prop) (ρ':Loc) (H':Hp) (s':Shared) (Q:V→Hp→Prop),Sim (W.z z) c' P' ρ' H' s'→elt ρ' Q H'→wpAny (model W.prog W.w) c.A (eval x c'.env) (PE (W.z z) c' P' ρ' Q) (fun ξ ξ=>False) s')
  (hT:∀c',CxOk (T.z z) c' (K.comp scope) false→c'.A=c.A→∀(P':Addr→Obj→Prop) (ρ':Loc) (H':Hp) (s':Shared) (B:Bool→Hp→Prop),Sim (W.z z) c' P' ρ' H' s'→test ρ' B H'→wpAny (model W.prog W.w) c.A (forIn ifs true fun cx r=>if r=true then do let ok ←isTrue cx c'.env (eval cx c'.env);pure (ForInStep.yield ok) else pure (ForInStep.yield r)) (fun b s''=>∃H'',Sim (W.z z) c' P' ρ' H'' s''∧B b H'') (fun ξ ξ=>False) s')
  (hRR:∀D C' s',DJ W c P ρ Q D C' s'→RR (.ref D) C' (.ok .next) s') :
  wpAny (model W.prog W.w) c.A (newList []) (fun acc s₃=>wpAny (model W.prog W.w) c.A (newFunctionEnv scope c.env.globals cl [] c.env.qual none .none (some c.env)) (fun cenv s₄ =>
   codeAny (model W.prog W.w) c.A (.compStart (.ListComp x [⟨tx,sx,ifs,0⟩] scope pos) 0 (.ref I) acc { cenv with scope:=relabel scope c.env }) (RR acc cenv.locals) s₄) E s₃) E s₂:=by
 obtain⟨h1,h2,h3,h4,h5⟩:=Dq hc
 refine wpAny_newObj_type (wpAny_newFunctionEnv h2 (by intro y hy;simp at hy) (fun h₁ hns₁ hsb₁=>?_) h1)
 dsimp only at hns₁ hsb₁ ⊢
 generalize hH2:s₂.heap.push { cls:=.type "list",dict:=none,data:=.seq ([]:List Value).toArray }=HH at hns₁ hsb₁ ⊢
 have hsz:HH.objs.size=s₂.heap.objs.size+1:=by rw[←hH2,Heap.size_push]
 have hDC:s₂.heap.objs.size≠HH.objs.size:=by rw[hsz];exact Nat.ne_of_lt (Nat.lt_succ_self _)
 have below:∀b,b<s₂.heap.objs.size→b≠HH.objs.size∧b≠s₂.heap.objs.size:=fun b hb=>⟨by rw[hsz];exact Nat.ne_of_lt (Nat.lt_succ_of_lt hb),Nat.ne_of_lt hb⟩
 have old:∀b o,s₂.heap.get? b=some o→h₁.get? b=some o:=fun b o e=>hsb₁.extBut b o (below b (Heap.lt_size e)).1 (Heap.get?_push_of_some _ (hH2▸Heap.get?_push_of_some _ e))
 have gD:h₁.get? s₂.heap.objs.size=some { cls:=.type "list",data:=.seq #[] }:=hsb₁.extBut _ _ hDC (Heap.get?_push_of_some _ (hH2▸Heap.get?_push_size _ rfl))
 have nC:s₂.heap.get? HH.objs.size=none:=Heap.get?_none_of_le (by rw[hsz];exact Nat.le_succ _)
 have nD:s₂.heap.get? s₂.heap.objs.size=none:=AD _
 have hn:h₁.Ns HH.objs.size (fun ξ=>none):=by simpa using hns₁
 obtain⟨m,hm,hv⟩:=S.loc
 have S₁:=S.intoC (tk:=s₂.toks+([]:List (Str×Value)).length) (ad:=ad) (C.z z) hc e2 e3 old nC hn hm hv (fun i v e=>JK e)
 have C':=C.comp (C:=HH.objs.size) (m:=m) hc e2 e3
 obtain⟨d1,d2,d3,d4⟩:=S.fresh nD
 obtain⟨c1,c2,c3,c4⟩:=S.fresh nC
 have adlt:∀b∈ad,b<s₂.heap.objs.size:=fun b hb=>by obtain⟨o,e,_⟩:=O.there _ _ r b hb;exact Heap.lt_size e
 have mem_all:∀b,b∉c.all→b≠HH.objs.size→b∉(c.comp K scope cl HH.objs.size m).all:=fun b hb hne=>by
  simp only[Cx.all,Cx.comp,Cx.frs,List.mem_append,List.map_cons,List.mem_cons,List.not_mem_nil,or_false,not_or] at hb ⊢
  exact⟨⟨hne,hb.1.2⟩,fun q=>hb.1.1 (q▸S.locOwn),hb.2⟩
 have hDad:s₂.heap.objs.size∉ad:=fun z=>Nat.lt_irrefl _ (adlt _ z)
 have loop:∀s₄:Shared,s₄={ s₂ with heap:=h₁,toks:=s₂.toks+([]:List (Str×Value)).length } →
   codeAny (model W.prog W.w) c.A (.compLoop (.ListComp x [⟨tx,sx,ifs,0⟩] scope pos) 0 (.ref I) (.ref s₂.heap.objs.size) (compEnvC scope cl HH.objs.size c.env)) (RR (.ref s₂.heap.objs.size) HH.objs.size) s₄:=by
  rintro s₄ rfl
  refine JQ (c:=c.comp K scope cl HH.objs.size m) (P:=PC c H s₂.heap ad) (ρ:=ρ) (D:=s₂.heap.objs.size) (ad:=ad) (w:=w) (R:=R) (t:=t) (elt:=elt) (test:=test) (QQ:=fun vs H'=>Bb vs Q H') C' rfl O mt (hE _ (C'.z z) rfl) (hT _ (C'.z z) rfl) (fun it it' ρ₁ ρ₂ a b=>Lh a b) ?_ hDad its [] (FF t ρ) H _ S₁ (fun it ρ' e=>JW e) ⟨#[],0,gD,.nil⟩ (by simp) ?_ ?_ ?_ g
  ·intro vs H' s' ρc S' hD0 fD ⟨items,n,gD',rD⟩ hq hl
   refine hRR _ _ _ ⟨?_,c3,fun q=>c2 (Cx.mem_all_own q),fun q=>c2 (Cx.mem_all_frs q),⟨c1,c2⟩,vs,H',hD0,hq,?_,fun h'' hs=>?_⟩
   ·obtain⟨m',hn',_⟩:=S'.loc;exact⟨m',hn'⟩
   ·have:H' HH.objs.size=none:=by
     cases q:H' HH.objs.size with
     | none=>rfl
     | some o=>exact absurd (by simp [Cx.all,Cx.comp]) (S'.apart _ _ q)
    simp [Hp.set,Ne.symm hDC,this]
   ·obtain⟨S'',kr⟩:=Sim.outC O.sub (hd:=false) C S nC hm hv hin fad (fun b hb o e=>by obtain⟨o',e',q⟩:=O.there _ _ r b hb;rw[e] at e';cases e';exact q) S' hs
    obtain⟨m',⟨oC,esC,epC,eC,dC,_⟩,_⟩:=S'.loc
    have k0:∀b o,b≠HH.objs.size→s'.heap.get? b=some o→h''.get? b=some o:=fun b o q e=>hs.extBut b o q e
    have nt:∀b o,s'.heap.get? b=some o→(∀es n,o.data≠.dict es n)→b≠HH.objs.size:=fun b o e d q=>by rw[q,show s'.heap.get? HH.objs.size=some oC from eC] at e;cases e;exact d _ _ dC
    have kr':KeepR W s'.heap h'':=⟨fun b o i n e k d ξ=>k0 b o (nt b o e (by first | exact Ap d rfl | exact Aq d rfl | (rw[d];exact nofun))) e,fun b o D ws e k d=>⟨o,ws,k0 b o (nt b o e (by first | exact Ap d rfl | exact Aq d rfl | (rw[d];exact nofun))) e,k,d⟩⟩
    exact S''.adopt d1 d2 d3 (Cf hl (k0 _ _ hDC gD') (rD.mono kr'))
  ·refine⟨d1,mem_all _ d2 hDC,fun o p=>?_,d4⟩
   have:=p.1;rw[nD] at this;cases this
  ·exact O.frame _ _ _ r fun b hb o e=>old b o e
  ·intro b hb
   exact⟨(fad b hb).1,mem_all _ (fad b hb).2.1 (below b (adlt b hb)).1,fun o p=>p.2.2.2 hb,(fad b hb).2.2.2⟩
 exact codeAny_compStart_list (loop _ rfl) (O.self its _ _ _ (O.frame _ _ _ r fun b hb o e=>old b o e) (loop _ rfl))
end
end Mine.Internal
end

section
namespace Mine.Internal
open PySem PySem.W PySem.Calls PyProof.Rows PySem.SeqAt
theorem B9.at {W:Wd}{h:Heap}{kvs:List (Int×V)}:∀ {ys:List (Int×Value)}{i:Nat}{p:Int×V},B9 W h kvs ys→kvs[i]?=some p→∃x,ys[i]?=some (p.1,x):=by
 induction kvs with
 | nil=>intro ys i p r e;simp at e
 | cons q kvs ih =>
  intro zs i p r e
  obtain⟨⟨j,x⟩,ys,rfl,⟨e1,a⟩,b⟩:=r
  cases i with
  | zero=>cases e;exact⟨x,by rw[←e1];rfl⟩
  | succ i=>exact ih (i:=i) b e
section
variable {W:Wd}{A:Around}
theorem KV (hh:A.handled=none) (I d:Addr) (kvs:List (Int×V)) {o:Obj}{es:Array DictEntry}{ep:Nat} (hf:W.fz d o) (hd:o.data=.dict es ep) :
  ItOk W W.scr A I [I] [(d,.dict kvs)] (fun its h=>∃i,h.IsKeyIter I d i kvs.length ep∧its=(kvs.drop i).map fun p=>It.v (.int p.1)) where
 sub:=fun ξ q=>q
 frame:=fun its h h' hR k=>by obtain⟨i,x,e⟩:=hR;exact⟨i,x.at fun o z=>k I (by simp) o z,e⟩
 there:=fun its h hR b hb=>by obtain⟨i,⟨o,x,hc,hd⟩,e⟩:=hR;simp at hb;subst hb;exact⟨o,x,_,hc,fun q=>absurd q (by decide),by first | exact Ap hd rfl | exact Aq hd rfl | (rw[hd];exact nofun),by first | exact Ap hd rfl | exact Aq hd rfl | (rw[hd];exact nofun)⟩
 item:=fun c P ρ H s it its tx E hA S f ok hR t=>by
  obtain⟨i,x,e⟩:=hR
  have ha:=ok (d,.dict kvs) (by simp)
  obtain⟨_,ys,⟨o',es',ep',g,xo,dd,kk,pp,nn⟩,rk,zz⟩:=S.heap _ _ ha
  have e0:=zz o hf
  rw[g] at e0;cases e0
  rw[hd] at dd;cases dd
  have hlt:i<kvs.length:=by
   rcases Nat.lt_or_ge i kvs.length with q | q
   ·exact q
   ·rw[List.drop_eq_nil_of_le q] at e;cases e
  rw[List.drop_eq_getElem_cons hlt] at e
  simp only[List.map_cons,List.cons.injEq] at e
  obtain⟨rfl,rfl⟩:=e
  obtain⟨v,hv⟩:=rk.at (i:=i) (p:=kvs[i]) (by simp [hlt])
  have hkl:ys.length=kvs.length:=rk.length
  obtain⟨oi,hoi,hci,hdi⟩:=id x
  rw[←hkl] at x
  refine wpAny_pyNext_dict_item (knd:=intKind W.prog W.w) x ⟨o,es,g,xo,hd,kk,pp,nn⟩ hv fun key h' hkey x' hs'=>⟨key,rfl,?_⟩
  obtain⟨tk,rfl⟩:=Value.isInt_shape hkey
  have hk:∀b o,b≠I→s.heap.get? b=some o→h'.get? b=some o:=fun b o q e=>hs'.extBut b o q e
  obtain⟨S',kr⟩:=S.turn (tk:=s.toks) (f I (by simp)) hoi ⟨_,hci,by decide⟩ ⟨_,hdi⟩ hk
  obtain⟨o'',ho',hc',hd'⟩:=id x'
  rw[hkl] at x'
  exact GK (s:={ s with heap:=h' }) ho' hc' hd' (by decide) t ⟨S',kr,⟨tk,rfl⟩,i+1,x',rfl⟩
 fin:=fun c P ρ H s E hA S f ok hR=>by
  obtain⟨i,x,e⟩:=hR
  have ha:=ok (d,.dict kvs) (by simp)
  obtain⟨_,ys,⟨o',es',ep',g,xo,dd,kk,pp,nn⟩,rk,zz⟩:=S.heap _ _ ha
  have e0:=zz o hf
  rw[g] at e0;cases e0
  rw[hd] at dd;cases dd
  have hkl:ys.length=kvs.length:=rk.length
  obtain⟨oi,hoi,hci,hdi⟩:=id x
  have hge:kvs.length≤i:=by
   rcases Nat.lt_or_ge i kvs.length with q | q
   ·rw[List.drop_eq_getElem_cons q] at e;cases e
   ·exact q
  rw[←hkl] at x
  refine wpAny_pyNext_dict_end (knd:=intKind W.prog W.w) hh x ⟨o,es,g,xo,hd,kk,pp,nn⟩ (List.getElem?_eq_none (by rw[hkl];exact hge)) fun h' hs'=>⟨rfl,?_⟩
  exact S.turn (tk:=s.toks) (f I (by simp)) hoi ⟨_,hci,by decide⟩ ⟨_,hdi⟩ fun b o q e=>hs' b o q e
 self:=fun its s Q E hR h=>by obtain⟨i,x,e⟩:=hR;exact wpAny_pyIter_keyiter x h
end
section
variable {W:Wd}{T:Tx W}{c:Cx}{K:Kc}{G:Gl}{hd:Bool}
theorem DJ.down {z:Addr→Prop}{F:FZ}{P:Addr→Obj→Prop}{ρ:Loc}{Q:V→Hp→Prop}{D C:Addr}{s':Shared} (hz:∀b,W.scr b→z b) (hF:∀a o,W.fz a o→F a o) (h:DJ (W.z z F) c P ρ Q D C s'):DJ W c P ρ Q D C s':=by
 obtain⟨h1,h2,h3,h4,h5,vs,H',h6,h7,h8,h9⟩:=h
 exact⟨h1,h2,h3,h4,h5,vs,H',h6,h7,h8,fun h'' q=>(h9 h'' q).down hz hF⟩
end
end Mine.Internal
end

section
namespace Mine.Internal
open PySem PySem.W PySem.Calls PyProof.Rows PySem.SeqAt
section
variable {W:Wd}{T:Tx W}{c:Cx}{K:Kc}{G:Gl}{hd:Bool}

theorem CQ {P:Addr→Obj→Prop}{ρ:Loc}{e:Value}{s:Shared} (h:EX W c P ρ (fun ξ ξ=>False) e s):False:=by cases h with | mk _ _ _ _ x=>exact x

theorem Fl {t:Tg}{src:Sr}{x tx sx:Expr}{ifs:List Expr}{scope:Scope}{p:Pos}{P:Addr→Obj→Prop}{ρ:Loc}{H:Hp}{s:Shared}{Q:V→Hp→Prop}{X:String→Hp→Prop}{use:Option (Value→Sem Unit)}{QQ:Value→Shared→Prop}{E:Value→Shared→Prop}{pp:Pos}
  {elt:Loc→(V→Hp→Prop)→Hp→Prop}{test:Loc→(Bool→Hp→Prop)→Hp→Prop}
  (C:CxOk T c K false) (hin:K.inC=false) (hc:cOk K scope t=true) (hs:∀v,foldedSetIterable sx c.env v=pure v) (hsrc:SS W c G false src sx) (mt:MTg (K.comp scope) t tx)
  (hE:∀z c',CxOk (T.z z) c' (K.comp scope) false→c'.A=c.A→∀(P':Addr→Obj→Prop) (ρ':Loc) (H':Hp) (s':Shared) (Q:V→Hp→Prop),Sim (W.z z) c' P' ρ' H' s'→elt ρ' Q H'→wpAny (model W.prog W.w) c.A (eval x c'.env) (PE (W.z z) c' P' ρ' Q) (fun ξ ξ=>False) s')
  (hT:∀z c',CxOk (T.z z) c' (K.comp scope) false→c'.A=c.A→∀(P':Addr→Obj→Prop) (ρ':Loc) (H':Hp) (s':Shared) (B:Bool→Hp→Prop),Sim (W.z z) c' P' ρ' H' s'→test ρ' B H'→wpAny (model W.prog W.w) c.A (forIn ifs true fun cx r=>if r=true then do let ok ←isTrue cx c'.env (eval cx c'.env);pure (ForInStep.yield ok) else pure (ForInStep.yield r)) (fun b s''=>∃H'',Sim (W.z z) c' P' ρ' H'' s''∧B b H'') (fun ξ ξ=>False) s')
  (S:Sim W c P ρ H s) (w:CS G false src ρ (fun its w H₁=>AT t w ρ elt test its [] (fun vs H₂=>Bb vs Q H₂) H₁) X H)
  (hX:∀e s',EX W c P ρ X e s'→E e s') (hQ:∀D C' s',DJ W c P ρ Q D C' s'→compPost (model W.prog W.w) c.A E use QQ (.ref D) C' (.ok .next) s') :
  wpAny (model W.prog W.w) c.A (comprehension (.ListComp x [⟨tx,sx,ifs,0⟩] scope p) scope c.env pp (newList []) false (eval sx c.env) use) QQ E s:=by
 obtain⟨h1,h2,h3,h4,h5⟩:=Dq hc
 obtain⟨cl,ecl,e2,e3⟩:=GT C hc
 refine wpAny_comprehension_free rfl hs ecl h1 h3 (wpAny_mono (hsrc P ρ H s _ X rfl S w) (fun xv s₁ g₁=>wpAny_mono g₁ (fun it s₂ g₂=>?_) hX) hX)
 obtain⟨I,ad,w',R,its,H₂,z,rfl,O,r,S₂,fad,g⟩:=g₂
 exact Hu (Q:=Q) (RR:=fun acc C'=>compPost (model W.prog W.w) c.A E use QQ acc C') C hin hc e2 e3 mt O r S₂ fad g (hE z) (hT z) hQ

theorem GQ {P:Addr→Obj→Prop}{ρ:Loc}{Q:V→Hp→Prop}{E:Value→Shared→Prop}{D C':Addr}{s':Shared} (h:DJ W c P ρ Q D C' s'):compPost (model W.prog W.w) c.A E none (PE W c P ρ Q) (.ref D) C' (.ok .next) s':=by
 obtain⟨⟨m,hn⟩,_,_,_,_,vs,H',hD,hq,_,hS⟩:=h
 exact⟨m,hn,fun h'' hs=>⟨.ref D,_,hS h'' hs,.ref D,hq.2 D hD⟩⟩

theorem Nk {elt t src x tx sx scope p} (C:CxOk T c K hd) (hin:K.inC=false) (hc:cOk K scope t=true) (hs:∀v,foldedSetIterable sx c.env v=pure v) (hsrc:SS W c G hd src sx) (mt:MTg (K.comp scope) t tx)
  (hE:∀z c',CxOk (T.z z) c' (K.comp scope) hd→c'.A=c.A→SE (W.z z) c' G hd elt x):SE W c G hd (.comp elt t src) (.ListComp x [⟨tx,sx,[],0⟩] scope p):=fun P ρ H s Q X S w=>by
 replace w:=Cu.mp w
 obtain⟨rfl,w⟩:=w
 rw[eval_ListComp]
 refine Fl (Q:=Q) C hin hc hs hsrc mt (fun z c' C' hA P' ρ' H' s' Q' S' w'=>?_) (fun z c' C' hA P' ρ' H' s' B S' w'=>wpAny_tests_nil ⟨H',S',w'⟩) S w (fun ξ ξ e=>e) fun D C' s' h=>GQ h
 exact wpAny_mono (hA▸hE z c' C' hA P' ρ' H' s' Q' _ S' w') (fun ξ ξ z=>z) fun ξ ξ z=>CQ z
theorem KG {elt t src d x tx sx cx scope p} (C:CxOk T c K hd) (hin:K.inC=false) (hc:cOk K scope t=true) (hs:∀v,foldedSetIterable sx c.env v=pure v) (hsrc:SS W c G hd src sx) (mt:MTg (K.comp scope) t tx)
  (hE:∀z c',CxOk (T.z z) c' (K.comp scope) hd→c'.A=c.A→SE (W.z z) c' G hd elt x) (hT:∀z c',CxOk (T.z z) c' (K.comp scope) hd→c'.A=c.A→ST (W.z z) c' G hd d cx):SE W c G hd (.compIf elt t src d) (.ListComp x [⟨tx,sx,[cx],0⟩] scope p):=fun P ρ H s Q X S w=>by
 replace w:=Em.mp w
 obtain⟨rfl,w⟩:=w
 rw[eval_ListComp]
 refine Fl (Q:=Q) C hin hc hs hsrc mt (fun z c' C' hA P' ρ' H' s' Q' S' w'=>?_) (fun z c' C' hA P' ρ' H' s' B S' w'=>wpAny_tests_one ?_) S w (fun ξ ξ e=>e) fun D C' s' h=>GQ h
 ·exact wpAny_mono (hA▸hE z c' C' hA P' ρ' H' s' Q' _ S' w') (fun ξ ξ z=>z) fun ξ ξ z=>CQ z
 ·exact wpAny_mono (hA▸hT z c' C' hA P' ρ' H' s' B _ S' w') (fun ξ ξ z=>z) fun ξ ξ z=>CQ z

theorem LS {elt t e x tx sx scope p} (hN:W.fz=nf) (C:CxOk T c K hd) (hin:K.inC=false) (hc:cOk K scope t=true) (hs:∀v,foldedSetIterable sx c.env v=pure v) (he:SE W c G hd e sx) (mt:MTg (K.comp scope) t tx)
  (hE:∀F z c',CxOk (T.z z F) c' (K.comp scope) hd→c'.A=c.A→SE (W.z z F) c' G hd elt x):SE W c G hd (.compD elt t e) (.ListComp x [⟨tx,sx,[],0⟩] scope p):=fun P ρ H s Q X S w=>by
 replace w:=Gp.mp w
 obtain⟨rfl,w⟩:=w
 rw[eval_ListComp]
 obtain⟨h1,h2,h3,h4,h5⟩:=Dq hc
 obtain⟨cl,ecl,e2,e3⟩:=GT C hc
 refine wpAny_comprehension_free rfl hs ecl h1 h3 (wpAny_mono (he P ρ H s _ X S w) (fun xv s₁ g₁=>?_) fun ξ ξ x=>x)
 obtain⟨v,H₁,S₁,r,q⟩:=g₁
 obtain⟨a,rfl,q⟩:=AU q
 cases r
 rcases Cd q with ⟨_,_,q⟩ | ⟨kvs,ea,q⟩
 ·exact q.elim
 obtain⟨⟨hl,hms⟩,ys,⟨o,es,ep,eo,xo,dd,kk,pp,nn⟩,rk,_⟩:=S₁.heap _ _ ea
 have hkl:ys.length=kvs.length:=rk.length
 refine wpAny_pyIter_dict hms ⟨o,es,eo,xo,dd,kk,pp,nn⟩ ?_
 have hk:∀b o',s₁.heap.get? b=some o'→(s₁.heap.push { cls:=.type "dict_keyiterator",data:=.fields #[.ref a,.int 0 0,.int ys.length 0,.int ep 0] }).get? b=some o':=fun b o' z=>Heap.get?_push_of_some _ z
 have S₂:=S₁.growZ (z:=W.scr) (F:=fun b o'=>b=a∧o'=o) (tk:=s₁.toks) .same (fun b hb=>(S₁.scr b hb).at fun o z ξ ξ=>hk b o z) hk (fun b o' z=>.inr (by rw[z.1,z.2];exact hk _ _ eo))
 have R0:∃i,(s₁.heap.push { cls:=.type "dict_keyiterator",data:=.fields #[.ref a,.int 0 0,.int ys.length 0,.int ep 0] }).IsKeyIter s₁.heap.objs.size a i kvs.length ep∧(kvs.map fun p=>It.v (.int p.1))=(kvs.drop i).map fun p=>It.v (.int p.1):=⟨0,⟨_,Heap.get?_push_size _ rfl,rfl,by rw[hkl];rfl⟩,rfl⟩
 refine Hu (W:=W.z W.scr fun b o'=>b=a∧o'=o) (T:=T.z W.scr fun b o'=>b=a∧o'=o) (z:=W.scr) (Q:=Q) (RR:=fun acc C'=>compPost (model W.prog W.w) c.A (EX W c P ρ X) none (PE W c P ρ Q) acc C') (C.z W.scr fun b o'=>b=a∧o'=o) hin hc e2 e3 mt (KV (C.hand rfl) s₁.heap.objs.size a kvs ⟨rfl,rfl⟩ dd) R0 S₂ (fun b hb=>?_) q
  (fun c' C' hA P' ρ' H' s' Q' S' w'=>wpAny_mono (hA▸hE _ _ c' C' hA P' ρ' H' s' Q' _ S' w') (fun ξ ξ z=>z) fun ξ ξ z=>CQ z) (fun c' C' hA P' ρ' H' s' B S' w'=>wpAny_tests_nil ⟨H',S',w'⟩) fun D C' s' h=>GQ (h.down (fun ξ z=>z) fun a o z=>by rw[hN] at z;exact z.elim)
 rw[List.mem_singleton.mp hb]
 exact S₁.free (AD _)
theorem Bn {e x} (h:SE W c G hd e x) (he:∀whole,isTrue x c.env whole=(do let v ←whole;standAt x.pos;holding [v] (truthy v))):SE W c G hd e x∧ST W c G hd e x:=⟨h,LE h he⟩
end
theorem ff {P:Prop}{b:Bool} (h:b=true) (e:b=false):P:=by rw[e] at h;cases h

noncomputable def Rd {W:Wd} (T:Tx W) (G:Gl) (hd:Bool) (F:FZ) (A:Around):Prop:=F=nf∧(hd=false→∀z,GOk (T.z z F) G A)
theorem nq {A:Prop}{b:Bool} (O:A∨b=true) (e:b=false):A:=O.resolve_right fun h=>by rw[e] at h;cases h
theorem orL {A:Prop}{a b:Bool} (O:A∨(a && b)=true):A∨a=true:=O.imp id fun h=>(an h).1
theorem orR {A:Prop}{a b:Bool} (O:A∨(a && b)=true):A∨b=true:=O.imp id fun h=>(an h).2
noncomputable def OkE {W:Wd} (T:Tx W) (G:Gl) (hd:Bool) (e:Ex):Prop:=∀(K:Kc) (x:Expr),(Bl e K x).1=true→Pl (Bl e K x).2∧∀(z:Addr→Prop) (F:FZ) (c:Cx) (_:CxOk (T.z z F) c K hd) (_:Rd T G hd F c.A∨qE e=true),SE (W.z z F) c G hd e (Bl e K x).2∧ST (W.z z F) c G hd e (Bl e K x).2
noncomputable def OkEs {W:Wd} (T:Tx W) (G:Gl) (hd:Bool) (e:Exs):Prop:=∀(K:Kc) (x:List Expr),(Kh e K x).1=true→NSs (Kh e K x).2∧∀(z:Addr→Prop) (F:FZ) (c:Cx) (_:CxOk (T.z z F) c K hd) (_:Rd T G hd F c.A∨qE (.tup e)=true),SEs (W.z z F) c G hd e (Kh e K x).2∧SB (W.z z F) c G hd e (Kh e K x).2
noncomputable def OkR {W:Wd} (T:Tx W) (G:Gl) (hd:Bool) (e:Sr):Prop:=∀(K:Kc) (x:Expr),(JN e K x).1=true→Pl (JN e K x).2∧∀(z:Addr→Prop) (F:FZ) (c:Cx) (_:CxOk (T.z z F) c K hd) (_:Rd T G hd F c.A),SS (W.z z F) c G hd e (JN e K x).2∧(enB e=true→K.gl (Str.ofString "enumerate")=true→∀q p,SS (W.z z F) c G hd (.enum e) (.Call (.Name (Str.ofString "enumerate") q) [(JN e K x).2] [] p))

set_option maxHeartbeats 4000000
theorem B4 {W:Wd}{T:Tx W}{G:Gl}{hd:Bool} (hG:G.anc=T.anc):(∀e,OkE T G hd e)∧∀e,OkR T G hd e:=by
 refine⟨@Ex.rec (OkE T G hd) (OkEs T G hd) (OkR T G hd)
  ?none
  ?bool
  ?int
  ?str
  ?var
  ?glob
  ?bin
  ?neg
  ?nt
  ?cmp
  ?cmp2
  ?bop
  ?list
  ?tup
  ?dict0
  ?idx
  ?slTo
  ?slFrom
  ?slFT
  ?rev
  ?call
  ?bc
  ?mt
  ?isi
  ?comp
  ?compIf
  ?compD
  ?nil
  ?cons
  ?ex
  ?range1
  ?range3
  ?enum
  ?zip
  ,@Sr.rec (OkE T G hd) (OkEs T G hd) (OkR T G hd)
  ?none
  ?bool
  ?int
  ?str
  ?var
  ?glob
  ?bin
  ?neg
  ?nt
  ?cmp
  ?cmp2
  ?bop
  ?list
  ?tup
  ?dict0
  ?idx
  ?slTo
  ?slFrom
  ?slFT
  ?rev
  ?call
  ?bc
  ?mt
  ?isi
  ?comp
  ?compIf
  ?compD
  ?nil
  ?cons
  ?ex
  ?range1
  ?range3
  ?enum
  ?zip
  ⟩
 case none=>intro K x _;exact⟨AX rfl,fun z F c C O=>Bn LR fun ξ=>rfl⟩
 case bool=>intro b K x _;exact⟨AX rfl,fun z F c C O=>Bn Nn fun ξ=>rfl⟩
 case int=>intro b K x _;exact⟨AX rfl,fun z F c C O=>Bn LP fun ξ=>rfl⟩
 case str=>intro b K x _;exact⟨AX rfl,fun z F c C O=>Bn Ou fun ξ=>rfl⟩
 case var=>intro b K x h;exact⟨AX rfl,fun z F c C O=>Bn (Kv C h) fun ξ=>rfl⟩
 case glob=>intro y n K x h;exact⟨AX rfl,fun z F c C O=>Bn (Nj C (an h).1 (beq_iff_eq.mp (an h).2)) fun ξ=>rfl⟩
 case bin=>intro op a b ha hb K x h;exact⟨AX rfl,fun z F c C O=>Bn (Oy ((ha _ _ (an h).1).2 z F c C (orL O)).1 ((hb _ _ (an h).2).2 z F c C (orR O)).1) fun ξ=>rfl⟩
 case neg=>intro a ha K x h;exact⟨AX rfl,fun z F c C O=>have O:=nq O rfl;Bn (LO ((ha _ _ h).2 z F c C (.inl O)).1) fun ξ=>rfl⟩
 case nt=>intro a ha K x h;exact⟨AX rfl,fun z F c C O=>have O:=nq O rfl;⟨se_nt ((ha _ _ h).2 z F c C (.inl O)).1,st_nt ((ha _ _ h).2 z F c C (.inl O)).2⟩⟩
 case cmp=>intro op a b ha hb K x h;exact⟨AX rfl,fun z F c C O=>have O:=nq O rfl;⟨Ox C ((hb _ _ (an h).2).1.mark _) ((ha _ _ (an h).1).2 z F c C (.inl O)).1 ((hb _ _ (an h).2).2 z F c C (.inl O)).1,Ol C ((hb _ _ (an h).2).1.mark _) ((ha _ _ (an h).1).2 z F c C (.inl O)).1 ((hb _ _ (an h).2).2 z F c C (.inl O)).1⟩⟩
 case cmp2=>intro o1 o2 a b d ha hb hd K x h;exact⟨AX rfl,fun z F c C O=>have O:=nq O rfl;⟨Nl C ((hd _ _ (an (an h).2).2).1.mark _) ((ha _ _ (an h).1).2 z F c C (.inl O)).1 ((hb _ _ (an (an h).2).1).2 z F c C (.inl O)).1 ((hd _ _ (an (an h).2).2).2 z F c C (.inl O)).1,N7 C ((hd _ _ (an (an h).2).2).1.mark _) ((ha _ _ (an h).1).2 z F c C (.inl O)).1 ((hb _ _ (an (an h).2).1).2 z F c C (.inl O)).1 ((hd _ _ (an (an h).2).2).2 z F c C (.inl O)).1⟩⟩
 case bop=>intro j es ih K x h;refine⟨AX rfl,fun z F c C O=>?_⟩;have O:=nq O rfl;have ih:=((ih _ _ h).2 z F c C (.inl O)).2;cases j;exact⟨se_or ih,st_or ih⟩;exact⟨OA ih,Om ih⟩
 case list=>intro es ih K x h;exact⟨AX rfl,fun z F c C O=>have O:=nq O rfl;Bn (Ng ((ih _ _ h).2 z F c C (.inl O)).1) fun ξ=>rfl⟩
 case tup=>intro es ih K x h;exact⟨AX rfl,fun z F c C O=>Bn (Ot ((ih _ _ h).2 z F c C O).1) fun ξ=>rfl⟩
 case dict0=>intro K x h;exact⟨AX rfl,fun z F c C O=>have O:=nq O rfl;Bn (LQ O.1 (T.z z).mods) fun ξ=>rfl⟩
 case idx=>intro a b ha hb K x h;exact⟨AX rfl,fun z F c C O=>Bn (Ow (hb _ _ (an h).2).1.sub ((ha _ _ (an h).1).2 z F c C (orL O)).1 ((hb _ _ (an h).2).2 z F c C (orR O)).1) fun ξ=>rfl⟩
 case slTo=>intro a b ha hb K x h;exact⟨AX rfl,fun z F c C O=>have O:=nq O rfl;Bn (Nd ((ha _ _ (an h).1).2 z F c C (.inl O)).1 ((hb _ _ (an h).2).2 z F c C (.inl O)).1) fun ξ=>rfl⟩
 case slFrom=>intro a b ha hb K x h;exact⟨AX rfl,fun z F c C O=>have O:=nq O rfl;Bn (KD ((ha _ _ (an h).1).2 z F c C (.inl O)).1 ((hb _ _ (an h).2).2 z F c C (.inl O)).1) fun ξ=>rfl⟩
 case slFT=>intro a b d ha hb hd K x h;exact⟨AX rfl,fun z F c C O=>have O:=nq O rfl;Bn (Nf ((ha _ _ (an h).1).2 z F c C (.inl O)).1 ((hb _ _ (an (an h).2).1).2 z F c C (.inl O)).1 ((hd _ _ (an (an h).2).2).2 z F c C (.inl O)).1) fun ξ=>rfl⟩
 case rev=>intro a ha K x h;exact⟨AX rfl,fun z F c C O=>have O:=nq O rfl;Bn (Ov ((ha _ _ (an h).1).2 z F c C (.inl O)).1 (LO LP)) fun ξ=>rfl⟩
 case call=>intro f es ih K x h;have i:=ih _ _ (an (an h).2).2;exact⟨AX rfl,fun z F c C O=>have O:=nq O rfl;Bn (Nm (Gw (an (an h).2).1) C (fun q=>O.2 q z) (an (an h).1).1 (an (an h).1).2 i.1 (i.2 z F c C (.inl O)).1) fun ξ=>rfl⟩
 case bc=>intro f es ih K x h;have i:=ih _ _ (an (an h).2).2;exact⟨AX rfl,fun z F c C O=>have O:=nq O rfl;Bn (Oz (Gw (an (an h).2).1) C (an (an h).1).1 i.1 (i.2 z F c C (.inl O)).1) fun ξ=>rfl⟩
 case mt=>intro m a es ha ih K x h;have i:=ih _ _ (an (an (an h).2).2).2;exact⟨AX rfl,fun z F c C O=>Bn (se_mt (O.imp (·.1) fun h=>pd_ne (an h).1) C (an (an h).1).1 (ab_of (an (an h).1).2 _ _ _) (Nat.le_of_ble_eq_true (an (an h).2).1) i.1 ((ha _ _ (an (an (an h).2).2).1).2 z F c C (orL (orR O))).1 (i.2 z F c C (orR (orR O))).1) fun ξ=>rfl⟩
 case isi => 
  intro a cs ha K x h
  have i:=ha _ _ (an (an (an h).2).2).1
  have g:=(an (an h).1).1
  have hc:=(an (an (an (an h).2).2).2).1
  refine⟨AX rfl,fun z F c C O=>?_⟩
  replace O:=nq O rfl
  cases cs with
  | nil=>cases hc
  | cons d r=>cases r with
   | nil=>exact Bn (Ni (T:=T.z z F) hG C g i.1 (i.2 z F c C (.inl O)).1 (O8 hc)) fun ξ=>rfl
   | cons e r=>exact Bn (Nh (T:=T.z z F) (Nat.le_of_succ_le_succ (Nat.le_of_succ_le_succ (Nat.le_of_ble_eq_true (an (an h).1).2))) hG C g i.1 (i.2 z F c C (.inl O)).1 (OX hc)) fun ξ=>rfl
 case comp=>intro a t s ha hs K x h;have i:=hs _ _ (an (an (an h).2).2).1;have j:=ha _ _ (an (an (an (an h).2).2).2).1;exact⟨AX rfl,fun z F c C O=>have O:=nq O rfl;Bn (Nk C (Bool.not_eq_true' _▸(an (an h).1).1) (an (an h).1).2 (i.1.fold _) (i.2 z F c C O).1 (He (an (an h).2).1) fun z c' C' hA=>(j.2 z F c' C' (.inl (hA▸O))).1) fun ξ=>rfl⟩
 case compIf=>intro a t s d ha hs hd K x h;have i:=hs _ _ (an (an (an h).2).2).1;have j:=ha _ _ (an (an (an (an h).2).2).2).1;have k:=hd _ _ (an (an (an (an (an h).2).2).2).2).1;exact⟨AX rfl,fun z F c C O=>have O:=nq O rfl;Bn (KG C (Bool.not_eq_true' _▸(an (an h).1).1) (an (an h).1).2 (i.1.fold _) (i.2 z F c C O).1 (He (an (an h).2).1) (fun z c' C' hA=>(j.2 z F c' C' (.inl (hA▸O))).1) fun z c' C' hA=>(k.2 z F c' C' (.inl (hA▸O))).2) fun ξ=>rfl⟩
 case compD=>intro a t e ha he K x h;have m:=(an h).2;have i:=he _ _ (an (an (an m).2).2).1;have j:=ha _ _ (an (an (an (an m).2).2).2).1;exact⟨AX rfl,fun z F c C O=>have O:=nq O rfl;Bn (LS O.1 C (Bool.not_eq_true' _▸(an (an m).1).1) (an (an m).1).2 (i.1.fold _) (i.2 z F c C (.inl O)).1 (He (an (an m).2).1) fun F z c' C' hA=>(j.2 z F c' C' (.inr (an h).1)).1) fun ξ=>rfl⟩
 case nil=>intro K xs _;exact⟨fun ξ ξ=>rfl,fun z F c C O=>⟨Nc,.nil⟩⟩
 case cons=>intro e r he hr K xs h;have i:=he _ _ (an h).1;have j:=hr _ _ (an h).2;exact⟨M2 i.1 j.1,fun z F c C O=>⟨LN i.1.star (i.2 z F c C (orL O)).1 (j.2 z F c C (orR O)).1,.cons (i.2 z F c C (orL O)).1 (i.2 z F c C (orL O)).2 (j.2 z F c C (orR O)).2⟩⟩
 case ex=>intro e he K x h;have i:=he _ _ h;exact⟨i.1,fun z F c C O=>⟨ss_ex C (i.2 z F c C (.inl O)).1,fun ξ g q p=>LG C g i.1 (i.2 z F c C (.inl O)).1⟩⟩
 case range1=>intro a ha K x h;have i:=ha _ _ (an (an (an h).2).2).1;exact⟨AX rfl,fun z F c C O=>⟨Ks C (an (an h).1).1 i.1 (i.2 z F c C (.inl O)).1,fun h=>ff h rfl⟩⟩
 case range3=>intro a b d ha hb hd K x h;have i:=ha _ _ (an (an (an h).2).2).1;have j:=hb _ _ (an (an (an (an h).2).2).2).1;have k:=hd _ _ (an (an (an (an (an h).2).2).2).2).1;exact⟨AX rfl,fun z F c C O=>⟨Kr C (an (an h).1).1 i.1 j.1 k.1 (i.2 z F c C (.inl O)).1 (j.2 z F c C (.inl O)).1 (k.2 z F c C (.inl O)).1,fun ξ g q p=>Kt C g (an (an h).1).1 i.1 j.1 k.1 (i.2 z F c C (.inl O)).1 (j.2 z F c C (.inl O)).1 (k.2 z F c C (.inl O)).1⟩⟩
 case enum=>intro s hs K x h;have i:=hs _ _ (an (an (an h).2).2).1;exact⟨AX rfl,fun z F c C O=>⟨(i.2 z F c C O).2 (an (an h).1).2 (an (an h).1).1 _ _,fun h=>ff h rfl⟩⟩
 case zip=>intro a b ha hb K x h;have i:=ha _ _ (an (an (an h).2).2).1;have j:=hb _ _ (an (an (an (an h).2).2).2).1;exact⟨AX rfl,fun z F c C O=>⟨On C (an (an h).1).1 i.1 j.1 (i.2 z F c C (.inl O)).1 (j.2 z F c C (.inl O)).1,fun h=>ff h rfl⟩⟩
end Mine.Internal
end

section
namespace Mine.Internal
open PySem PySem.W PySem.Calls PyProof.Rows PySem.SeqAt
section
variable {W:Wd}{T:Tx W}{c:Cx}{K:Kc}{G:Gl}{hd:Bool}

noncomputable def PS (W:Wd) (c:Cx) (P:Addr→Obj→Prop) (N:Loc→Hp→Prop) (R:V→Hp→Prop):Flow→Shared→Prop:=fun f s'=>match f with
 | .next=>∃ρ' H',Sim W c P ρ' H' s'∧N ρ' H'
 | .ret u=>∃v ρ' H',Sim W c P ρ' H' s'∧Rep W s'.heap v u∧R v H'
 | _=>False
theorem PS.weaken {P P':Addr→Obj→Prop}{N:Loc→Hp→Prop}{R:V→Hp→Prop}{f:Flow}{s':Shared} (h:PS W c P' N R f s') (q:∀b o,P b o→P' b o):PS W c P N R f s':=by
 cases f with
 | next=>obtain⟨ρ',H',S,n⟩:=h;exact⟨ρ',H',S.weaken q,n⟩
 | ret u=>obtain⟨v,ρ',H',S,r,n⟩:=h;exact⟨v,ρ',H',S.weaken q,r,n⟩
 | _=>exact h.elim
theorem PS.down {z:Addr→Prop}{P:Addr→Obj→Prop}{N:Loc→Hp→Prop}{R:V→Hp→Prop}{f:Flow}{s':Shared} (hz:∀b,W.scr b→z b) (h:PS (W.z z) c P N R f s'):PS W c P N R f s':=by
 cases f with
 | next=>obtain⟨ρ',H',S,n⟩:=h;exact⟨ρ',H',S.down hz (fun ξ ξ q=>q),n⟩
 | ret u=>obtain⟨v,ρ',H',S,r,n⟩:=h;exact⟨v,ρ',H',S.down hz (fun ξ ξ q=>q),r.monoZ (z:=W.scr) (.refl _) (fun ξ ξ ξ ξ ξ ξ ξ q w=>q (hz _ w)),n⟩
 | _=>exact h.elim
theorem EXs.down {z:Addr→Prop}{P:Addr→Obj→Prop}{X:String→Loc→Hp→Prop}{e:Value}{s':Shared} (hz:∀b,W.scr b→z b) (h:EXs (W.z z) c P X e s'):EXs W c P X e s' :=
 let ⟨k,ρ',H',S,F,x⟩:=h;⟨k,ρ',H',S.down hz (fun ξ ξ q=>q),F.down,x⟩
noncomputable def SX (W:Wd) (c:Cx) (G:Gl) (hd:Bool) (e:St) (x:Stmt):Prop:=∀(P:Addr→Obj→Prop) (ρ:Loc) (H:Hp) (s:Shared) (N:Loc→Hp→Prop) (R:V→Hp→Prop) (X:String→Loc→Hp→Prop),Sim W c P ρ H s→wpS G hd e ρ N R X H→wpAny (model W.prog W.w) c.A (exec x c.env) (PS W c P N R) (EXs W c P X) s
noncomputable def SXs (W:Wd) (c:Cx) (G:Gl) (hd:Bool) (e:Sts) (x:List Stmt):Prop:=∀(P:Addr→Obj→Prop) (ρ:Loc) (H:Hp) (s:Shared) (N:Loc→Hp→Prop) (R:V→Hp→Prop) (X:String→Loc→Hp→Prop),Sim W c P ρ H s→AH G hd e ρ N R X H→wpAny (model W.prog W.w) c.A (execs x c.env) (PS W c P N R) (EXs W c P X) s

theorem N4 {p}:SX W c G hd .pass (.Pass p):=fun P ρ H s N R X S w=>wpAny_Pass ⟨ρ,H,S,by simpa [HJ,K6,K5,IF,O3,LY,Jr,Jq,Js,IG,O2,Nr] using w⟩
theorem Oi {e x p} (h:SE W c G hd e x):SX W c G hd (.ret e) (.Return (some x) p):=fun P ρ H s N R X S w=>by
 replace w:=LY.mp w
 exact wpAny_Return_some (wpAny_mono (h P ρ H s _ _ S w) (fun u s₁ hPt=>by obtain⟨v,H₁,S₁,r,q⟩:=hPt;exact⟨v,ρ,H₁,S₁,r,q⟩) fun ξ ξ z=>z.toS)
theorem Ok {i e x v p q} (C:CxOk T c K hd) (g:K.tgt i x=true) (hs:swapsWith v (some (.Name x p)) q.line c.env=pure false) (h:SE W c G hd e v):SX W c G hd (.asg i e) (.Assign [.Name x p] v q):=fun P ρ H s N R X S w=>by
 replace w:=HJ.mp w
 refine wpAny_Assign_Name (wpAny_mono (h P ρ H s _ _ S w) (fun u s₁ hx=>?_) fun ξ ξ z=>z.toS) hs
 obtain⟨v,H₁,S₁,r,q⟩:=hx
 exact B3 C S₁ g r fun s₂ S₂ ξ=>⟨_,_,S₂,q⟩
theorem sx_ex {e v q} (C:CxOk T c K hd) (hs:swapsWith v none q.line c.env=pure false) (h:SE W c G hd e v):SX W c G hd (.ex e) (.Expr v q):=fun P ρ H s N R X S w=>by
 replace w:=O3.mp w
 refine wpAny_Expr_any (wpAny_mono (h P ρ H s _ _ S w) (fun u s₁ hPt=>by obtain⟨v,H₁,S₁,r,q⟩:=hPt;exact⟨_,_,S₁,q⟩) fun ξ ξ z=>z.toS) ?_ hs
 unfold interactive;rw[C.sc,C.kind];rfl
theorem sx_if {d a b x y z p} (hc:ST W c G hd d x) (ha:SXs W c G hd a y) (hb:SXs W c G hd b z):SX W c G hd (.ife d a b) (.If x y z p):=fun P ρ H s N R X S w=>by
 replace w:=Jr.mp w
 refine wpAny_If (wpAny_mono (hc P ρ H s _ _ S w) (fun t s₁ hx=>?_) fun ξ ξ z=>z.toS)
 obtain⟨H₁,S₁,q⟩:=hx
 cases t with
 | true=>simp only[if_true] at q ⊢;exact ha P ρ H₁ s₁ N R X S₁ q
 | false=>simp only[Bool.false_eq_true,if_false] at q ⊢;exact hb P ρ H₁ s₁ N R X S₁ q
theorem N3:SXs W c G hd .nil []:=fun P ρ H s N R X S w=>wpAny_execs_nil ⟨ρ,H,S,by simpa [K4,CL] using w⟩
theorem LA {e r x xs} (h1:SX W c G hd e x) (h2:SXs W c G hd r xs):SXs W c G hd (.cons e r) (x :: xs):=fun P ρ H s N R X S w=>by
 replace w:=CL.mp w
 rw[execs_cons]
 refine wpAny_bind (wpAny_mono (h1 P ρ H s _ R X S w) (fun f s₁ h₁=>?_) fun ξ ξ z=>z)
 cases f with
 | next=>obtain⟨ρ',H',S',n⟩:=h₁;exact h2 P ρ' H' s₁ N R X S' n
 | ret u=>exact wpAny_pure h₁
 | _=>exact h₁.elim

theorem Je {A:Around}{R:Result→Shared→Prop}{s:Shared}{test:Expr}{body:List Stmt}{env:Env}
  (h:wpAny (model W.prog W.w) A (isTrue test env (eval test env)) (fun b s₂ =>
    if b then wpAny (model W.prog W.w) A (execs body env) (fun f s₃=>match f with
      | .next | .cont=>codeAny (model W.prog W.w) A (.whileLoop test body [] env) R s₃
      | .brk=>R (.ok .next) s₃
      | .ret v=>R (.ok (.ret v)) s₃) (notedBy (model W.prog W.w) A env fun e s'=>R (.error e) s') s₂
    else R (.ok .next) s₂)
    (notedBy (model W.prog W.w) A env fun e s'=>R (.error e) s') s):codeAny (model W.prog W.w) A (.whileLoop test body [] env) R s:=by
 refine codeAny_of_tree ?_
 show wpAny _ A ((whileTurn test body [] env).onRaise (fun x=>do noteFrame x env;theTreesLotGoes x)) _ _ s
 refine wpAny_noted ?_
 simp only[whileTurn]
 refine wpAny_bind (wpAny_mono h (fun b s₂ h₂=>?_) fun ξ ξ h'=>h')
 cases b with
 | false =>
  simp only[Bool.false_eq_true,if_false] at h₂ ⊢
  exact wpAny_bind (wpAny_execs_nil (wpAny_pure h₂))
 | true =>
  simp only[if_true] at h₂ ⊢
  refine wpAny_bind (wpAny_mono h₂ (fun f s₃ h₃=>?_) fun ξ ξ h'=>h')
  cases f with
  | next=>exact wpAny_pure ⟨rfl,h₃⟩
  | cont=>exact wpAny_pure ⟨rfl,h₃⟩
  | brk=>exact wpAny_pure h₃
  | ret v=>exact wpAny_pure h₃

structure FxOk {W:Wd} (T:Tx W) (c:Cx) (K:Kc) (hd:Bool):Prop extends CxOk T c K hd where
 head:∃outer,c.fenvs=c.env :: outer
 fr:∃L,c.env.frame=some L
 inF:K.inC=false

theorem FxOk.z (C:FxOk T c K hd) (z:Addr→Prop):FxOk (T.z z) c K hd:=⟨C.toCxOk.z z,C.head,C.fr,C.inF⟩
theorem FxOk.passes (C:FxOk T c K hd) {P:Addr→Obj→Prop}{X:String→Loc→Hp→Prop}{e:Value}{s':Shared} (h:EXs W c P X e s'):notedBy (model W.prog W.w) c.A c.env (fun e s'=>cameBackBy (model W.prog W.w) c.A c.env (EXs W c P X) e s') e s':=by
 obtain⟨outer,ho⟩:=C.head
 obtain⟨L,hL⟩:=C.fr
 exact Ju (A:=c.A) (by rw[C.frames,ho]) ho hL e s' h

theorem LB {d b x y p} (C:FxOk T c K hd) (hc:ST W c G hd d x) (hb:SXs W c G hd b y):SX W c G hd (.whl d b) (.While x y [] p):=fun P ρ H s N R X S w=>by
 replace w:=Jq.mp w
 refine wpAny_While ?_
 refine w (fun ρ' H'=>∀s',Sim W c P ρ' H' s'→codeAny (model W.prog W.w) c.A (.whileLoop x y [] c.env) (fun r s'=>match r with | .ok f=>PS W c P N R f s' | .error e=>cameBackBy (model W.prog W.w) c.A c.env (EXs W c P X) e s') s') (fun ρ' H' h s' S'=>?_) s S
 refine Je (wpAny_mono (hc P ρ' H' s' _ _ S' h) (fun t s₁ hx=>?_) fun e s' z=>C.passes z.toS)
 obtain⟨H₁,S₁,q⟩:=hx
 cases t with
 | false=>simp only[Bool.false_eq_true,if_false] at q ⊢;exact⟨_,_,S₁,q⟩
 | true =>
  simp only[if_true] at q ⊢
  refine wpAny_mono (hb P ρ' H₁ s₁ _ R X S₁ q) (fun f s₂ h₂=>?_) fun e s' z=>C.passes z
  cases f with
  | next=>obtain⟨ρ₂,H₂,S₂,n⟩:=h₂;exact n s₂ S₂
  | ret u=>exact h₂
  | _=>exact h₂.elim

theorem IW {A:Around}{R:Result→Shared→Prop}{s:Shared}{target:Expr}{it:Value}{body:List Stmt}{env:Env}
  (h:wpAny (model W.prog W.w) A (pyNext it) (fun r s₁=>match r with
   | none=>R (.ok .next) s₁
   | some v=>wpAny (model W.prog W.w) A (letOwnedTupleGo target it v) (fun ξ s₁'=>wpAny (model W.prog W.w) A (assign target env v) (fun ξ s₂=>wpAny (model W.prog W.w) A (execs body env) (fun f s₃=>match f with
     | .next | .cont=>codeAny (model W.prog W.w) A (.forLoop target it body [] env) R s₃
     | .brk=>R (.ok .next) s₃
     | .ret v=>R (.ok (.ret v)) s₃) (notedBy (model W.prog W.w) A env fun e s'=>R (.error e) s') s₂) (notedBy (model W.prog W.w) A env fun e s'=>R (.error e) s') s₁') (notedBy (model W.prog W.w) A env fun e s'=>R (.error e) s') s₁) (notedBy (model W.prog W.w) A env fun e s'=>R (.error e) s') s) :
  codeAny (model W.prog W.w) A (.forLoop target it body [] env) R s:=by
 refine codeAny_of_tree ?_
 show wpAny _ _ ((forTurn target it body [] env).onRaise (fun x=>do noteFrame x env;theTreesLotGoes x)) _ _ s
 refine wpAny_noted ?_
 simp only[forTurn]
 refine wpAny_bind (wpAny_standAt (wpAny_bind (wpAny_onRaise (wpAny_mono h (fun r s₁ h₁=>?_) fun ξ ξ h'=>wpAny_standAt h'))))
 cases r with
 | none=>exact wpAny_pure ⟨rfl,codeAny_block (wpAny_execs_nil h₁)⟩
 | some v =>
  refine wpAny_bind (wpAny_mono h₁ (fun ξ s₁' h₁'=>?_) fun ξ ξ h'=>h')
  refine wpAny_bind (wpAny_mono h₁' (fun ξ s₂ h₂=>wpAny_bind (wpAny_mono h₂ (fun f s₃ h₃=>?_) fun ξ ξ h'=>h')) fun ξ ξ h'=>h')
  cases f with
  | next=>exact wpAny_pure ⟨rfl,h₃⟩
  | cont=>exact wpAny_pure ⟨rfl,h₃⟩
  | brk=>exact wpAny_pure h₃
  | ret v=>exact wpAny_pure h₃

theorem Hn {z:Addr→Prop}{I:Addr}{ad:List Addr}{w:List (Addr×Ob)}{RI:List It→Heap→Prop}{t:Tg}{tx:Expr}{b:Sts}{y:List Stmt}{P:Addr→Obj→Prop}{N:Loc→Hp→Prop}{R:V→Hp→Prop}{X:String→Loc→Hp→Prop}
  (C:FxOk T c K false) (O:ItOk W z c.A I ad w RI) (m:MTg K t tx) (hb:SXs (W.z z) c G false b y) :
  ∀(its:List It) (ρ:Loc) (H:Hp) (s:Shared),Sim (W.z z) c P ρ H s→RI its s.heap→(∀b∈ad,DQ W c P H b)→Fh t w (fun ρ' KK H₂=>AH G false b ρ' KK R X H₂) its ρ N H →
   codeAny (model W.prog W.w) c.A (.forLoop tx (.ref I) y [] c.env) (fun r s'=>match r with | .ok f=>PS W c P N R f s' | .error e=>cameBackBy (model W.prog W.w) c.A c.env (EXs W c P X) e s') s
 | [],ρ,H,s,S,r,fad,g=>by
  refine IW (wpAny_mono (O.fin c P ρ H s _ rfl S fad g.1 r) (fun q s₁ h₁=>?_) fun ξ ξ z=>z)
  obtain⟨rfl,S₁,_⟩:=h₁
  exact⟨ρ,H,S₁,g.2⟩
 | it :: its,ρ,H,s,S,r,fad,g=>by
  obtain⟨ok,ρ',eb,g⟩:=g
  refine IW (wpAny_mono (O.item c P ρ H s it its tx _ rfl S fad ok r (m.xi eb)) (fun q s₁ h₁=>?_) fun ξ ξ z=>z)
  obtain⟨v,rfl,h₁⟩:=h₁
  refine wpAny_mono h₁ (fun ξ s₂ hx=>?_) fun ξ ξ z=>z
  obtain⟨S₂,k₂,rv,r₂⟩:=hx
  have S₂':=S₂.addP (fun b o=>b∈ad∧s₂.heap.get? b=some o) fun b o hPt=>by obtain⟨hbad,e⟩:=hPt;exact⟨e,(fad b hbad).2.2.2,(fad b hbad).out⟩
  have wk:∀b o,P b o→P b o∨(b∈ad∧s₂.heap.get? b=some o):=fun b o p=>.inl p
  refine Dt (W:=W.z z) (T:=T.z z) (C.toCxOk.z z) (C.hand rfl) S₂' m eb rv fun s₃ S₃ k₃=>?_
  refine wpAny_mono (hb _ ρ' H s₃ _ R X S₃ g) (fun f s₄ h₄=>?_) fun e s' q=>C.passes ((q.weaken wk).down O.sub)
  cases f with
  | next =>
   obtain⟨ρ₄,H₄,S₄,g₄⟩:=h₄
   exact Hn C O m hb its ρ₄ H₄ s₄ (S₄.weaken wk) (O.frame _ _ _ r₂ fun b hbad o e=>S₄.prot b o (.inr ⟨hbad,e⟩)) (fun b hbad=>⟨(fad b hbad).1,(fad b hbad).2.1,(fad b hbad).2.2.1,by obtain⟨o,e,_⟩:=O.there _ _ r₂ b hbad;exact S₄.protH b o (.inr ⟨hbad,e⟩)⟩) g₄
  | ret u=>exact (PS.weaken (f:=.ret u) h₄ wk).down O.sub
  | _=>exact h₄.elim

theorem Oj {t src b tx sx y p} (C:FxOk T c K hd) (hs:∀v,foldedSetIterable sx c.env v=pure v) (hsrc:SS W c G hd src sx) (m:MTg K t tx) (hb:∀z,SXs (W.z z) c G hd b y):SX W c G hd (.for t src b) (.For tx sx y [] p):=fun P ρ H s N R X S w=>by
 replace w:=Js.mp w
 obtain⟨rfl,w⟩:=w
 refine wpAny_For (wpAny_mono (hsrc P ρ H s _ _ rfl S w) (fun xv s₁ g₁=>wpAny_mono g₁ (fun it s₂ g₂=>?_) fun ξ ξ z=>z.toS) fun ξ ξ z=>z.toS) hs
 obtain⟨I,ad,w',RI,its,H₂,z,rfl,O,r,S₂,fad,g⟩:=g₂
 exact Hn C O m (hb z) its ρ H₂ s₂ S₂ r fad g
end
end Mine.Internal
end

section
namespace Mine.Internal
open PySem PySem.W PySem.Calls PyProof.Rows PySem.SeqAt
section
variable {W:Wd}{T:Tx W}{c:Cx}{K:Kc}{G:Gl}{hd:Bool}

theorem LD {k msg x y q kk p cp pp} (C:CxOk T c K hd) (hx:x=Str.ofString k) (g:K.gl x=true) (hk:K.cls.contains k=true):SX W c G hd (.raise k msg) (.Raise (some (.Call (.Name x q) [.Constant (.str y) kk p] [] cp)) none pp):=fun P ρ H s N R X S w=>by
 subst hx
 replace w:=IG.mp w
 obtain⟨rfl,w⟩:=w
 obtain⟨D,eD,O⟩:=T.own k (C.cls▸hk)
 obtain⟨tl,NN,nm,qq,bs,hdct,sn,sub,ab,col,dd,k0,k1,k2,k3,k5,mN,hC,hN,hni,TT⟩:=O.obj
 refine wpAny_Raise_call_subT (C:=D) (nm:=nm) (q:=qq) (N:=NN) (bs:=bs) (bm:=tl) (hdct:=hdct) (sn:=sn) (sub:=sub) (ab:=ab) (col:=col) (dd:=dd) (k0:=k0) (k1:=k1) (k2:=k2) (k3:=k3) (k5:=k5)
  PySem.F.excBase_ValueError (mN:=mN) (TT.hasType PySem.F.excBase_ValueError.hasBase) (C.hand rfl) rfl hni (Bw C S g O.bound ⟨rfl,?_⟩)
 refine evalArgs_plain (spliced_cons (Constant_str (k:=kk) (pos:=p) (spliced_nil ?_)))
 have S₁:Sim W c P ρ H { s with toks:=s.toks+1 }:=S.toks _
 have kb:∀b o,W.base.get? b=some o→s.heap.get? b=some o:=fun b o e=>S.base b o e
 refine⟨rfl,by simp [sizeLine_eq],kb _ _ hC,hN.at' fun o e=>kb _ _ e,TT.keeps kb,fun h' e M=>?_⟩
 obtain⟨t,he,htn,ht⟩:=M.there
 obtain⟨f1,f2,f3,f4⟩:=S.fresh M.new
 exact⟨k,ρ,H,S.grow (tk:=s.toks+1) M.keeps,⟨e,D,_,_,.ref t,rfl,eD,he,rfl,rfl,rfl,f1,f3,.inl rfl⟩,w⟩

theorem B9.set {h:Heap}{k:Int}{v:V}{u:Value} (r:Rep W h v u) {kvs:List (Int×V)}:∀ {ys:List (Int×Value)},B9 W h kvs ys→(ys.map (·.1)).Nodup→B9 W h (EF k v kvs) (stored ys k u):=by
 induction kvs with
 | nil=>intro ys q _;cases q;exact B9.cons (k:=k) r .nil
 | cons p kvs ih =>
  intro zs q hn
  obtain⟨⟨j,x⟩,ys,rfl,⟨e,a⟩,b⟩:=q
  obtain⟨i,z⟩:=p
  cases (show j=i from e)
  rw[List.map_cons,List.nodup_cons] at hn
  by_cases q:j=k
  ·subst q
   have hne:∀p∈ys,p.1≠j:=fun p hp e=>hn.1 (List.mem_map.mpr ⟨p,hp,e⟩)
   have e1:stored ((j,x) :: ys) j u=(j,u) :: ys:=by
    unfold stored
    rw[if_pos (by simp)]
    rw[List.map_cons]
    simp only[if_true]
    congr 1
    conv=>rhs;rw[←List.map_id ys]
    apply List.map_congr_left
    intro p hp
    simp [hne p hp]
   rw[e1]
   simp only[EF,if_true]
   exact .cons r b
  ·have ih:=ih b hn.2
   have e1:stored ((j,x) :: ys) k u=(j,x) :: stored ys k u:=by
    unfold stored
    by_cases z:ys.any (fun kv=>decide (kv.1=k))=true
    ·rw[if_pos (by simp only[List.any_cons,z,Bool.or_true]),if_pos z,List.map_cons];simp [q]
    ·rw[if_neg (by simp only[List.any_cons];simp only[Bool.or_eq_true,not_or];exact⟨by simpa using q,z⟩),if_neg z];rfl
   rw[e1]
   simp only[EF,if_neg q]
   exact .cons a ih

theorem FP (k:Int) (v:V):∀kvs:List (Int×V),(EF k v kvs).length≤kvs.length+1
 | []=>by simp [EF]
 | (j,x) :: r=>by simp only[EF];split <;> simp;exact FP k v r

theorem As.set {h:Heap}{v:V}{u:Value} (r:Rep W h v u) {xs:List V}:∀ {us:List Value} (n:Nat),As W h xs us→As W h (xs.set n v) (us.set n u):=by
 induction xs with
 | nil=>intro us n q;cases q;exact .nil
 | cons x xs ih =>
  intro us n q
  obtain⟨y,ys,rfl,a,b⟩:=q
  cases n with
  | zero=>exact .cons r b
  | succ n=>exact .cons a (ih n b)

theorem LC {o i v x y z p q} (hN:W.fz=nf) (hs:swapsWith z (some (.Subscript x y p)) q.line c.env=pure false) (ho:SE W c G hd o x) (hi:SE W c G hd i y) (hv:SE W c G hd v z):SX W c G hd (.setIt o i v) (.Assign [.Subscript x y p] z q):=fun P ρ H s N R X S w=>by
 replace w:=IF.mp w
 refine wpAny_Assign_Subscript (wpAny_mono (hv.two ho S w) (fun u s₁ h₁=>wpAny_mono h₁ (fun uo s₂ hPt=>?_) fun ξ ξ z=>z.toS) fun ξ ξ z=>z.toS) hs
 obtain⟨v1,v2,H₂,S₂,r1,r2,q⟩:=hPt
 refine wpAny_mono (hi.max S₂ q) (fun ui s₃ hPt=>?_) fun ξ ξ z=>z.toS
 obtain⟨kr,v3,H₃,S₃,r3,q⟩:=hPt
 have r1:=r1.mono kr
 have r2:=r2.mono kr
 obtain⟨a,rfl,q⟩:=AU q
 obtain⟨k,rfl,q⟩:=AV q
 cases r2
 obtain⟨t,rfl⟩:=r3
 rcases Cd q with ⟨xs,ea,⟨h0,h1⟩,q⟩ | ⟨kvs,ea,hlt,q⟩
 ·obtain⟨hl,it,n,g,ri⟩:=S₃.heap _ _ ea
  have hsz:it.size=xs.length:=ri.size
  refine ki_setAt (n:=n) g h0 (by unfold Lim at hl;exact lb [_] [_] (.v 0) (.c (2 ^ 63)) [.b (.v 0) (.t (.n 0)),.L (.n 0) (.c 16777216)] [1,1,1] rfl h1 hl) (by exact lb [_] [_,_] (.v 0) (.t (.n 0)) [.b (.v 0) (.t (.n 1)),.E (.n 0) (.n 1)] [1,1,-1] rfl h1 hsz) ?_
  refine⟨ρ,_,S₃.writeL (xs:=xs.set k.toNat v1) ea g _ (by rw[List.length_set];exact hl) ?_,q⟩
  rw[Array.toList_setIfInBounds]
  exact ri.set r1 k.toNat
 ·obtain⟨⟨hl,hms⟩,ys,hD,rk⟩:=S₃.heap _ _ ea
  have hn:(ys.map (·.1)).Nodup:=by obtain⟨_,_,_,_,_,_,_,_,hn⟩:=hD;exact hn
  have hkl:ys.length=kvs.length:=rk.length
  obtain⟨od,esd,epd,eod,xd,dd,_⟩:=id hD
  refine wpAny_setItem_pairs (k:=k) (intKind_is _ _ _ _) hD (fun h' hD' hs'=>?_) (by rw[sizeLine_eq];unfold Lim at hl;exact lA [] [_,_] (.n 0) (.c 16777216) [.L (.n 1) (.c 16777216),.E (.n 0) (.n 1)] [1,1,1] rfl hl hkl)
  have hk:∀b o,b≠a→s₃.heap.get? b=some o→h'.get? b=some o:=fun b o q e=>hs'.extBut b o q e
  have kr':KeepR W s₃.heap h':=by
   have nt:∀b o,s₃.heap.get? b=some o→(∀es n,o.data≠.dict es n)→b≠a:=fun b o e d q=>by rw[q,eod] at e;cases e;exact d _ _ dd
   exact⟨fun b o i n e k d ξ=>hk b o (nt b o e (by first | exact Ap d rfl | exact Aq d rfl | (rw[d];exact nofun))) e,fun b o C ws e k d=>⟨o,ws,hk b o (nt b o e (by first | exact Ap d rfl | exact Aq d rfl | (rw[d];exact nofun))) e,k,d⟩⟩
  refine⟨ρ,_,S₃.write (o:=.dict (EF k v1 kvs)) (tk:=s₃.toks+1) ea hk ⟨⟨?_,hms⟩,_,hD',(rk.set r1 hn).mono kr',fun o q=>by rw[hN] at q;exact q.elim⟩,q⟩
  have:=FP k v1 kvs
  exact lA [] [_,_,_] (.n 0) (.n 1) [.B (.n 2) (.n 1),.L (.n 0) (.a (.n 2) (.c 1))] [1,1,1] rfl hlt this

theorem N6 {i j e x y v kk p1 p2 tp q} (C:CxOk T c K hd) (g1:K.tgt i x=true) (g2:K.tgt j y=true) (hs:swapsWithSole [.Tuple [.Name x p1,.Name y p2] kk tp] v q.line c.env=pure false) (hw:swappedStores [.Tuple [.Name x p1,.Name y p2] kk tp] v c.env=pure none) (h:SE W c G hd e v) :
  SX W c G hd (.asg2 i j e) (.Assign [.Tuple [.Name x p1,.Name y p2] kk tp] v q):=fun P ρ H s N R X S w=>by
 replace w:=K6.mp w
 obtain⟨rfl,w⟩:=w
 refine Assign_Tuple (wpAny_mono (h P ρ H s _ _ S w) (fun u s₁ hPt=>?_) fun ξ ξ z=>z.toS) hs hw
 obtain⟨v,H₁,S₁,r,q⟩:=hPt
 obtain⟨l,rfl,q⟩:=Gf q
 obtain⟨a,b,rfl,hN⟩:=two1_inv q
 exact Dt C (C.hand rfl) S₁ (.two g1 g2) (it:=.p a b) rfl r fun s₂ S₂ ξ=>⟨_,_,S₂,hN⟩

theorem N5 {i j l e x y z v kk p1 p2 p3 tp q} (C:CxOk T c K hd) (g1:K.tgt i x=true) (g2:K.tgt j y=true) (g3:K.tgt l z=true) (hs:swapsWithSole [.Tuple [.Name x p1,.Name y p2,.Name z p3] kk tp] v q.line c.env=pure false) (hw:swappedStores [.Tuple [.Name x p1,.Name y p2,.Name z p3] kk tp] v c.env=pure none) (h:SE W c G hd e v) :
  SX W c G hd (.asg3 i j l e) (.Assign [.Tuple [.Name x p1,.Name y p2,.Name z p3] kk tp] v q):=fun P ρ H s N R X S w=>by
 replace w:=K5.mp w
 obtain⟨rfl,w⟩:=w
 refine Assign_Tuple (wpAny_mono (h P ρ H s _ _ S w) (fun u s₁ hPt=>?_) fun ξ ξ z=>z.toS) hs hw
 obtain⟨v,H₁,S₁,r,q⟩:=hPt
 obtain⟨l',rfl,q⟩:=Gf q
 obtain⟨a,b,d,rfl,hN⟩:=Lz q
 obtain⟨p,o,items,n,rfl,e,k,dt,hl,rs⟩:=r.tupR
 ·obtain⟨u1,us',ei,r1,rs'⟩:∃u1 us',items.toList=u1 :: us'∧Rep W s₁.heap a u1∧As W s₁.heap [b,d] us':=by
   obtain⟨u1,us',ei,r1,rs⟩:=rs
   exact⟨u1,us',ei,r1,rs⟩
  obtain⟨u2,u3,rfl,r2,r3⟩:=rs'.two
  have hsz:items.size=3:=by rw[←Array.length_toList,ei];rfl
  refine wpAny_assign_Tuple (C.hand rfl) (items:=items) ⟨_,e,k,n,dt⟩ (by rw[hsz];rfl) rfl fun h' hx=>?_
  have hk:∀b o,s₁.heap.get? b=some o→h'.get? b=some o:=fun b o e=>hx b o (fun q=>by rw[q,AD] at e;cases e) e
  have S₂:Sim W c P ρ H₁ { s₁ with heap:=h' }:=S₁.grow (tk:=s₁.toks) hk
  have k0:=KeepR.of_keeps (W:=W) hk
  rw[ei]
  show wpAny _ _ (assignInOrder [assign (.Name _ _) c.env,assign (.Name _ _) c.env,assign (.Name _ _) c.env] [u1,u2,u3]) _ _ _
  refine wpAny_assignInOrder_more (wpAny_assign_Name (B3 C S₂ g1 (r1.mono k0) fun s₃ S₃ k₃=>?_))
  refine wpAny_assignInOrder_more (wpAny_assign_Name (B3 C S₃ g2 ((r2.mono k0).mono k₃) fun s₄ S₄ k₄=>?_))
  refine wpAny_assignInOrder_more (wpAny_assign_Name (B3 C S₄ g3 (((r3.mono k0).mono k₃).mono k₄) fun s₅ S₅ k₅=>?_))
  exact wpAny_assignInOrder_none ⟨_,_,S₅,hN⟩

theorem Sim.changeD {W:Wd}{c:Cx}{P:Addr→Obj→Prop}{ρ:Loc}{H H':Hp}{s:Shared}{h':Heap}{tk:Nat} (S:Sim W c P ρ H s) (d:Addr)
  (hd:∀o,s.heap.get? d=some o→∃es n,o.data=.dict es n)
  (hnew:W.base.get? d=none) (hall:d∉c.all) (hP:∀o,¬P d o)
  (hk:∀b o,b≠d→s.heap.get? b=some o→h'.get? b=some o)
  (hH:∀b,b≠d→H' b=H b) (hO:∀o,H' d=some o→DP W h' d o):Sim W c P ρ H' { s with heap:=h',toks:=tk }:=by
 have kr:KeepR W s.heap h':=⟨fun b o ξ ξ e k q ξ=>hk b o (by rintro rfl;obtain⟨_,_,z⟩:=hd o e;rw[q] at z;cases z) e,fun b o C ws e k q=>⟨o,ws,hk b o (by rintro rfl;obtain⟨_,_,z⟩:=hd o e;rw[q] at z;cases z) e,k,q⟩⟩
 have hne:∀b,b∈c.all→b≠d:=fun b hb q=>hall (q▸hb)
 have hloc:d≠c.env.locals:=fun q=>hall (q▸Cx.mem_all_own S.locOwn)
 refine⟨?_,fun b o e=>hk b o (by rintro rfl;rw[hnew] at e;cases e) (S.base b o e),AM S.frames fun b hb o e d=>⟨o,hk b o (hne b (Cx.mem_all_frs hb)) e,d⟩,fun p hp=>?_,?_,S.locOwn,S.ownNew,S.ownOut,
  fun a o e=>?_,fun a o e=>?_,fun a o e=>?_,fun b o p=>hk b o (by rintro rfl;exact hP o p) (S.prot b o p),fun b o p=>?_,S.protF,fun x a e=>?_,fun b hb=>?_,fun b hb=>(S.scr b hb).at fun o e ξ hPt=>by obtain⟨_,_,q⟩:=hPt;exact hk b o (by rintro rfl;obtain⟨_,_,z⟩:=hd o e;rw[q] at z;cases z) e⟩
 ·obtain⟨h,tk',rfl⟩:=S.rest;exact⟨h',tk,rfl⟩
 ·obtain⟨o,es,ep,e,r⟩:=S.outer p hp
  exact⟨o,es,ep,hk _ _ (hne _ (Cx.mem_all_outer hp)) e,r⟩
 ·obtain⟨m,⟨o,es,ep,e,r⟩,hv⟩:=S.loc
  refine⟨m,⟨o,es,ep,hk _ _ (Ne.symm hloc) e,r⟩,fun i x v h1 h2 h3=>(hv i x v h1 h2 h3).mono kr fun cl o u ξ ho hq=>⟨o,hk _ _ (by rintro rfl;obtain⟨_,_,z⟩:=hd o ho;rw[hq] at z;cases z) ho,rfl⟩⟩
 ·by_cases q:a=d
  ·subst q;exact hO o e
  ·rw[hH a q] at e;exact (S.heap a o e).at kr fun ob h=>hk a ob q h
 ·by_cases q:a=d
  ·subst q;exact hnew
  ·rw[hH a q] at e;exact S.new a o e
 ·by_cases q:a=d
  ·subst q;exact hall
  ·rw[hH a q] at e;exact S.apart a o e
 ·have q:b≠d:=by rintro rfl;exact hP o p
  rw[hH b q];exact S.protH b o p
 ·obtain⟨u,o,e1,e2⟩:=S.cells x a e
  exact⟨u,o,hk a o (by rintro rfl;obtain⟨_,_,z⟩:=hd o e1;rw[e2] at z;cases z) e1,e2⟩
 ·obtain⟨o,e,q⟩:=S.ownD b hb
  exact⟨o,hk b o (hne b (hb.elim Cx.mem_all_own Cx.mem_all_frs)) e,q⟩


theorem J3 {P:Addr→Obj→Prop}{ρ:Loc}{Q:V→Hp→Prop}{E:Value→Shared→Prop}{D C':Addr}{s':Shared}{i:Nat}{x:Str}{p:Pos}{N:Loc→Hp→Prop} (C:CxOk T c K hd) (g:K.tgt i x=true) (h:DJ W c P ρ (fun v H₁=>N (ρ.set i (some v)) H₁) D C' s') :
  compPost (model W.prog W.w) c.A E (some (assign (.Name x p) c.env)) (fun ξ s''=>∃ρ' H',Sim W c P ρ' H' s''∧N ρ' H') (.ref D) C' (.ok .next) s':=by
 obtain⟨⟨m,hn⟩,hP,hown,hfr,⟨hbase,hall⟩,vs,H',hD,hq,hCn,hS⟩:=h
 have S0:=hS s'.heap (Heap.SameBut.refl _ _)
 show wpAny _ _ (assign (.Name x p) c.env (.ref D)) _ _ s'
 obtain⟨oC,esC,epC,eC,dC,rC⟩:=id hn
 have S1:Sim W c (fun b o=>P b o∨(b=C'∧s'.heap.get? b=some o)) ρ (H'.set D (.list vs)) s':=Sim.addP (s:=s') S0 (fun b o=>b=C'∧s'.heap.get? b=some o) fun b o hPt=>by obtain⟨e,z⟩:=hPt;exact⟨z,e▸hCn,e▸hown,e▸hfr⟩
 refine wpAny_assign_Name (B3 C S1 g (.ref D) fun s₂ S₂ kr=>?_)
 have eC₂:=S₂.prot C' oC (.inr ⟨rfl,eC⟩)
 refine⟨m,⟨oC,esC,epC,eC₂,dC,rC⟩,fun h'' hs=>⟨_,_,?_,hq.2 D hD⟩⟩
 have S₃:=S₂.weaken (P:=P) fun b o z=>.inl z
 refine S₃.changeD (tk:=s₂.toks) C' (fun o e=>?_) hbase hall hP (fun b o q e=>hs.extBut b o q e) (fun ξ ξ=>rfl) (fun o e=>?_)
 ·rw[eC₂] at e;cases e;exact⟨_,_,dC⟩
 ·rw[S₂.protH C' oC (.inr ⟨rfl,eC⟩)] at e;cases e
end
end Mine.Internal
end

section
namespace Mine.Internal
open PySem PySem.W PySem.Calls PyProof.Rows PySem.SeqAt
section
variable {W:Wd}{T:Tx W}{c:Cx}{K:Kc}{G:Gl}{hd:Bool}

theorem Jj {i elt t src x tx sx v scope p pp q} (C:CxOk T c K hd) (g:K.tgt i v=true) (hsw:swapsWith (.ListComp x [⟨tx,sx,[],0⟩] scope p) (some (.Name v pp)) q.line c.env=pure true) (hin:K.inC=false) (hc:cOk K scope t=true) (hs:∀v,foldedSetIterable sx c.env v=pure v) (hsrc:SS W c G hd src sx) (mt:MTg (K.comp scope) t tx)
  (hE:∀z c',CxOk (T.z z) c' (K.comp scope) hd→c'.A=c.A→SE (W.z z) c' G hd elt x):SX W c G hd (.asg i (.comp elt t src)) (.Assign [.Name v pp] (.ListComp x [⟨tx,sx,[],0⟩] scope p) q):=fun P ρ H s N R X S w=>by
 replace w:=HJ.mp w;replace w:=Cu.mp w
 obtain⟨rfl,w⟩:=w
 rw[exec_Assign_Name_used _ _ _ _ hsw]
 refine wpAny_bind (wpAny_standAt (wpAny_bind ?_))
 show wpAny _ _ (do let _ ←comprehension (.ListComp x [⟨tx,sx,[],0⟩] scope p) scope c.env _ (newList []) false (eval sx c.env) (some (assign (.Name v pp) c.env))) _ _ s
 refine wpAny_bind (wpAny_mono (Fl (Q:=fun v H₁=>N (ρ.set i (some v)) H₁) (QQ:=fun ξ s''=>∃ρ' H',Sim W c P ρ' H' s''∧N ρ' H') C hin hc hs hsrc mt (fun z c' C' hA P' ρ' H' s' Q' S' w'=>?_) (fun z c' C' hA P' ρ' H' s' B S' w'=>wpAny_tests_nil ⟨H',S',w'⟩) S w (fun ξ ξ e=>e.toS) fun D C' s' h=>J3 (Q:=fun ξ ξ=>True) C g h) (fun ξ s₁ h₁=>wpAny_pure (wpAny_pure h₁)) fun ξ ξ z=>z)
 exact wpAny_mono (hA▸hE z c' C' hA P' ρ' H' s' Q' _ S' w') (fun ξ ξ z=>z) fun ξ ξ z=>CQ z
theorem HB {i elt t src d x tx sx cx v scope p pp q} (C:CxOk T c K hd) (g:K.tgt i v=true) (hsw:swapsWith (.ListComp x [⟨tx,sx,[cx],0⟩] scope p) (some (.Name v pp)) q.line c.env=pure true) (hin:K.inC=false) (hc:cOk K scope t=true) (hs:∀v,foldedSetIterable sx c.env v=pure v) (hsrc:SS W c G hd src sx) (mt:MTg (K.comp scope) t tx)
  (hE:∀z c',CxOk (T.z z) c' (K.comp scope) hd→c'.A=c.A→SE (W.z z) c' G hd elt x) (hT:∀z c',CxOk (T.z z) c' (K.comp scope) hd→c'.A=c.A→ST (W.z z) c' G hd d cx):SX W c G hd (.asg i (.compIf elt t src d)) (.Assign [.Name v pp] (.ListComp x [⟨tx,sx,[cx],0⟩] scope p) q):=fun P ρ H s N R X S w=>by
 replace w:=HJ.mp w;replace w:=Em.mp w
 obtain⟨rfl,w⟩:=w
 rw[exec_Assign_Name_used _ _ _ _ hsw]
 refine wpAny_bind (wpAny_standAt (wpAny_bind ?_))
 show wpAny _ _ (do let _ ←comprehension (.ListComp x [⟨tx,sx,[cx],0⟩] scope p) scope c.env _ (newList []) false (eval sx c.env) (some (assign (.Name v pp) c.env))) _ _ s
 refine wpAny_bind (wpAny_mono (Fl (Q:=fun v H₁=>N (ρ.set i (some v)) H₁) (QQ:=fun ξ s''=>∃ρ' H',Sim W c P ρ' H' s''∧N ρ' H') C hin hc hs hsrc mt (fun z c' C' hA P' ρ' H' s' Q' S' w'=>?_) (fun z c' C' hA P' ρ' H' s' B S' w'=>wpAny_tests_one ?_) S w (fun ξ ξ e=>e.toS) fun D C' s' h=>J3 (Q:=fun ξ ξ=>True) C g h) (fun ξ s₁ h₁=>wpAny_pure (wpAny_pure h₁)) fun ξ ξ z=>z)
 ·exact wpAny_mono (hA▸hE z c' C' hA P' ρ' H' s' Q' _ S' w') (fun ξ ξ z=>z) fun ξ ξ z=>CQ z
 ·exact wpAny_mono (hA▸hT z c' C' hA P' ρ' H' s' B _ S' w') (fun ξ ξ z=>z) fun ξ ξ z=>CQ z

set_option tactic.hygienic true in
theorem Ho {P:Addr→Obj→Prop}{ρ:Loc}{H:Hp}{s:Shared}{a C D:Addr}{oe:Obj}{k d:String}{A:Around}{E:Value→Shared→Prop}{Q:Bool→Shared→Prop} (S:Sim W c P ρ H s) (ho:s.heap.get? a=some oe) (hc:oe.cls=.ref C) (hk:W.cls k=some C) (hdd:W.cls d=some D) (h:Q ((T.anc k).contains d) s) :
  wpAny (model W.prog W.w) A (excMatches (.ref a) (.ref D)) Q E s:=by
 have Z:=T.kcl d D hdd
 have X:=S.frag (T:=T)
 have hsub:=T.ksub k C d D hk hdd
 obtain⟨hh,g,dr,t,os⟩:=s
 have L0:=E0 (M:=model W.prog W.w) ho hc
 have L1:=looks_subIn (M:=model W.prog W.w) X hsub
 have L2:=looks_typeIn (M:=model W.prog W.w) X Z.ty
 have L3:=looks_mroIn (M:=model W.prog W.w) X Z.base
 have L4:Looks (model W.prog W.w) hh (isInstance (.ref D) (.type "tuple")) false:=L2.andThen (Looks.of_pure tc_notTuple)
 have L5:Looks (model W.prog W.w) hh (isType (.ref D)) true:=by
  obtain⟨cdD,hcD⟩:=Option.isSome_iff_exists.mp Z.cls
  unfold clsIn at hcD
  split at hcD
  ·rename_i c' d' cd' sl' ho'
   intro A' Q' E' s' kk q
   unfold isType loadHead
   exact wpAny_bind (wpAny_loadPart (kk _ _ (X _ _ ho')) (wpAny_pure q))
  ·cases hcD
 have L6:Looks (model W.prog W.w) hh (isExcClass (.ref D)) true:=L5.andThen L3
 unfold excMatches
 refine wpAny_bind (L4.at ?_)
 simp only[Bool.false_eq_true,if_false]
 refine wpAny_bind (wpAny_pure ?_)
 simp only[List.forIn_cons,List.forIn_nil]
 refine wpAny_bind (wpAny_bind (wpAny_bind (L6.at ?_)))
 simp only[Bool.not_true,Bool.false_eq_true,if_false]
 refine wpAny_pure (wpAny_pure ?_)
 refine wpAny_bind (L0.at ?_)
 refine wpAny_bind (wpAny_bind (wpAny_bind (L1.at ?_)))
 cases hb:(T.anc k).contains d <;> rw[hb] at h
 ·simp only[Bool.false_eq_true,if_false]
  exact wpAny_pure (wpAny_pure (wpAny_pure h))
 ·simp only[if_true]
  exact wpAny_pure (wpAny_pure (wpAny_pure h))
end
end Mine.Internal
end

section
namespace Mine.Internal
open PySem PySem.W PySem.Calls PyProof.Rows PySem.SeqAt
section
variable {W:Wd}{T:Tx W}{c:Cx}{K:Kc}{G:Gl}{hd:Bool}

theorem Sim.reA {P:Addr→Obj→Prop}{ρ:Loc}{H:Hp}{s:Shared} (A:Around) (S:Sim W c P ρ H s):Sim W { c with A:=A } P ρ H s :=
 ⟨S.rest,S.base,S.frames,S.outer,by obtain⟨m,n,v⟩:=S.loc;exact⟨m,n,v⟩,S.locOwn,S.ownNew,S.ownOut,S.heap,S.new,S.apart,S.prot,S.protH,S.protF,S.cells,S.ownD,S.scr⟩
theorem Sim.unA {P:Addr→Obj→Prop}{ρ:Loc}{H:Hp}{s:Shared}{A:Around} (S:Sim W { c with A:=A } P ρ H s):Sim W c P ρ H s :=
 ⟨S.rest,S.base,S.frames,S.outer,by obtain⟨m,n,v⟩:=S.loc;exact⟨m,n,v⟩,S.locOwn,S.ownNew,S.ownOut,S.heap,S.new,S.apart,S.prot,S.protH,S.protF,S.cells,S.ownD,S.scr⟩
theorem PS.unA {P:Addr→Obj→Prop}{N:Loc→Hp→Prop}{R:V→Hp→Prop}{f:Flow}{s:Shared}{A:Around} (h:PS W { c with A:=A } P N R f s):PS W c P N R f s:=by
 cases f with
 | next=>obtain⟨ρ',H',S,n⟩:=h;exact⟨ρ',H',S.unA,n⟩
 | ret u=>obtain⟨v,ρ',H',S,r,n⟩:=h;exact⟨v,ρ',H',S.unA,r,n⟩
 | _=>exact h.elim
theorem FE {P:Addr→Obj→Prop}{e:Value}{s:Shared} (h:EXs W c P (fun ξ ξ ξ=>False) e s):False:=by cases h with | mk _ _ _ _ _ x=>exact x
theorem FxOk.mark (C:FxOk T c K hd) (e:Option Value):FxOk T { c with A:=c.A.mark e } K true :=
 { sc:=C.sc,kind:=C.kind,names:=C.names,vis:=C.vis,gint:=C.gint,fns:=C.fns,cls:=C.cls,glob:=C.glob,bi:=C.bi,hand:=(fun q=>by cases q),units:=C.units,frames:=C.frames,inj:=C.inj,cellOwn:=C.cellOwn,cellFr:=C.cellFr,cellKind:=C.cellKind,cellInj:=C.cellInj,head:=C.head,fr:=C.fr,inF:=C.inF }

inductive SH (W:Wd) (c:Cx) (K:Kc) (G:Gl):Hs→List ExceptHandler→Prop
 | nil:SH W c K G .nil []
 | cons0 {d x q b ys pos r hx}:x=Str.ofString d→K.gl x=true→K.cls.contains d=true→ys.isEmpty=false→(∀e,SXs W { c with A:=c.A.mark e } G true b ys)→SH W c K G r hx→SH W c K G (.cons d none b r) (.ExceptHandler (some (.Name x q)) none ys pos :: hx)
 | cons1 {d x q i n b ys pos r hx}:x=Str.ofString d→K.gl x=true→K.cls.contains d=true→K.tgt i n=true→K.sc.names.lookup n=some .local→ys.isEmpty=false→(∀e,SXs W { c with A:=c.A.mark e } G true b ys)→SH W c K G r hx→SH W c K G (.cons d (some i) b r) (.ExceptHandler (some (.Name x q)) (some n) ys pos :: hx)

theorem FlyAt.rep {P:Addr→Obj→Prop}{fl:Value}{h:Heap}{e:Value}{k:String} (F:FlyAt W P fl h e k):Rep W h (.exc k) e:=by
 obtain⟨a,C,oe,vs,a0,Tb,oT,ts,rfl,h2,h3,h4,h5,_⟩:=F
 exact .exc h3 h4 h5 h2

theorem Hb {P:Addr→Obj→Prop}{ρ:Loc}{H:Hp}{s:Shared}{i:Nat}{n:Str}{pos:Pos}{E:Value→Shared→Prop}{Q:Unit→Shared→Prop} (C:CxOk T c K hd) (g:K.tgt i n=true) (hl:K.sc.names.lookup n=some .local) (S:Sim W c P ρ H s)
  (h:∀s',Sim W c P (ρ.set i none) H s'→KeepR W s.heap s'.heap→Q () s'):wpAny (model W.prog W.w) c.A (do bindName c.env n .none;unbindBehindTheSuite c.env n pos) Q E s:=by
 have hk:c.env.kindOf n=some .local:=by unfold Env.kindOf;rw[C.sc];exact hl
 have hp:(c.env.scope.kind == .class || (c.env.scope.kind == .module && c.env.locals != c.env.globals))=false:=by rw[C.sc,C.kind];rfl
 obtain⟨h1,y,h2,rfl⟩:=Kc.tgt_spec g
 obtain⟨m,hn,hv⟩:=S.loc
 refine wpAny_bind (wpAny_bindName (wpAny_storeName_local hk hn (fun h' hn' hs'=>?_) hp))
 unfold unbindBehindTheSuite
 refine wpAny_onRaise (wpAny_mono (wpAny_unbindName_local (s:={ s with heap:=h',toks:=s.toks+1 }) (E:=fun ξ ξ=>False) (Q:=Q) hk hn' (v:=.none) (by simp) hp fun h'' u hn'' hs''=>?_) (fun ξ ξ z=>z) fun ξ ξ f=>f.elim)
 have hkeep:∀b o,b≠c.env.locals→s.heap.get? b=some o→h''.get? b=some o:=fun b o q e=>hs''.extBut b o q (hs'.extBut b o q e)
 have kr:KeepR W s.heap h'':=by
  obtain⟨oL,esL,epL,eL,dL,kL,fL⟩:=id hn
  have nt:∀b o,s.heap.get? b=some o→(∀es n,o.data≠.dict es n)→b≠c.env.locals:=fun b o e d q=>by rw[q,eL] at e;cases e;exact d _ _ dL
  exact⟨fun b o i n e k d ξ=>hkeep b o (nt b o e (by first | exact Ap d rfl | exact Aq d rfl | (rw[d];exact nofun))) e,fun b o C ws e k d=>⟨o,ws,hkeep b o (nt b o e (by first | exact Ap d rfl | exact Aq d rfl | (rw[d];exact nofun))) e,k,d⟩⟩
 refine h { s with heap:=h'',toks:=s.toks+1 } (S.names (tk:=s.toks+1) hn hn'' hkeep fun kr' kc j z w hj1 hj2 hj3=>?_) kr
 have q:j≠i:=by
  rintro rfl
  rw[List.getElem?_set] at hj3
  simp only[if_true] at hj3
  split at hj3 <;> simp at hj3
 rw[List.getElem?_set_ne (Ne.symm q)] at hj3
 have ne:Str.ofString z≠Str.ofString y:=fun q'=>q (C.inj j i z y hj2 (by rw[C.names];exact h2) q')
 rcases hv j z w hj1 hj2 hj3 with ⟨k,u',e',r'⟩ | ⟨k,cl,o,u',e',ho,hd',r'⟩
 ·exact .loc k u' (by simp [ne,e']) (r'.mono kr)
 ·exact .cel k cl o u' e' (kc cl o _ ho hd') hd' (r'.mono kr)

theorem KZ {P:Addr→Obj→Prop}{N:Loc→Hp→Prop}{R:V→Hp→Prop}{X:String→Loc→Hp→Prop}{e:Value}{k:String} (C:FxOk T c K false) (hG:G.anc=T.anc) {hs:Hs}{hx:List ExceptHandler} (h0:SH W c K G hs hx) :
  ∀(ρ:Loc) (H:Hp) (s:Shared),Sim W c P ρ H s→FlyAt W P .none s.heap e k→Gb G k hs ρ N R (X k ρ H) H→wpAny (model W.prog W.w) c.A (handleBy e c.env hx) (PS W c P N R) (EXs W c P X) s:=by
 induction h0 with
 | nil =>
  intro ρ H s S F w
  (first | rw[HK] at w | rw[F7] at w)
  refine wpAny_handleBy_nil ?_
  obtain⟨L,hL⟩:=C.fr
  obtain⟨a,D,oe,vs,a0,Tb,oT,ts,rfl,h2,h3,h4,h5,h6,h7,h8,t1,_⟩:=id F
  unfold PySem.passOn
  refine wpAny_bind (wpAny_field h3 h5 t1 ?_)
  rw[if_neg (by simp)]
  rw[hL]
  refine wpAny_bind (Bx (f:=some L) S F fun h' S' F'=>wpAny_throw ?_)
  exact⟨k,ρ,H,S',by rw[hL];exact FlyAt.flyL F',w⟩
 | @cons0 d x q b ys pos r hx2 hx g hc he hb hr ih =>
  intro ρ H s S F w
  obtain _ | ⟨b0,ys⟩:=ys
  ·cases he
  subst hx
  (first | rw[HK] at w | rw[F7] at w)
  obtain⟨D,eg,eD⟩:=T.hcls d (C.cls▸hc)
  obtain⟨a,Ck,oe,vs,a0,Tb,oT,ts,rfl,h2,h3,h4,h5,_⟩:=id F
  have Cm:=C.mark (some (.ref a))
  refine wpAny_handleBy_cons (codeAny_handlers_test (Bw (c:={ c with A:=c.A.mark (some (.ref a)) }) Cm.toCxOk (S.reA _) g eg ?_)) (by intro q;cases q)
  refine Ho (T:=T) S h3 h4 h2 eD ?_
  rw[←hG]
  by_cases hm:(G.anc k).contains d=true
  ·rw[if_pos hm] at w
   rw[hm]
   simp only[if_true]
   refine codeAny_handlers_suite (Bx (f:=none) S F fun h' S' F'=>?_)
   refine wpAny_mono (hb (some (.ref a)) P ρ H _ N R _ (S'.reA _) w) (fun f s₂ z=>?_) fun ξ ξ z=>(FE z).elim
   exact z.unA
  ·rw[if_neg hm] at w
   rw[Bool.eq_false_iff.mpr hm]
   simp only[Bool.false_eq_true,if_false]
   exact ih ρ H s S F w
 | @cons1 d x q i n b ys pos r hx2 hx g hc ht hl he hb hr ih =>
  intro ρ H s S F w
  obtain _ | ⟨b0,ys⟩:=ys
  ·cases he
  subst hx
  (first | rw[HK] at w | rw[F7] at w)
  obtain⟨D,eg,eD⟩:=T.hcls d (C.cls▸hc)
  obtain⟨a,Ck,oe,vs,a0,Tb,oT,ts,rfl,h2,h3,h4,h5,_⟩:=id F
  have Cm:=C.mark (some (.ref a))
  refine wpAny_handleBy_cons (codeAny_handlers_test (Bw (c:={ c with A:=c.A.mark (some (.ref a)) }) Cm.toCxOk (S.reA _) g eg ?_)) (by intro q;cases q)
  refine Ho (T:=T) S h3 h4 h2 eD ?_
  rw[←hG]
  by_cases hm:(G.anc k).contains d=true
  ·rw[if_pos hm] at w
   rw[hm]
   simp only[if_true]
   refine codeAny_handlers_suite_as (Bx (f:=none) S F fun h' S' F'=>?_)
   refine B3 (c:={ c with A:=c.A.mark (some (.ref a)) }) Cm.toCxOk (S'.reA _) ht F'.rep fun s₂ S₂ ξ=>?_
   refine wpAny_mono (hb (some (.ref a)) P _ H s₂ _ R _ S₂ w) (fun f s₃ z=>?_) fun ξ ξ z=>(FE z).elim
   have z:=z.unA
   cases f with
   | next =>
    obtain⟨ρ',H',S₃,hN⟩:=z
    exact Hb C.toCxOk ht hl S₃ fun s₄ S₄ ξ=>⟨_,_,S₄,hN⟩
   | ret u =>
    obtain⟨v,ρ',H',S₃,r,hN⟩:=z
    exact Hb C.toCxOk ht hl S₃ fun s₄ S₄ kr=>⟨v,_,_,S₄,r.mono kr,hN⟩
   | _=>exact z.elim
  ·rw[if_neg hm] at w
   rw[Bool.eq_false_iff.mpr hm]
   simp only[Bool.false_eq_true,if_false]
   exact ih ρ H s S F w

theorem Oh {b hs y hx p} (he:hx.isEmpty=false) (C:FxOk T c K hd) (hG:G.anc=T.anc) (hb:SXs W c G hd b y) (hh:hd=false→SH W c K G hs hx):SX W c G hd (.tr b hs) (.Try y hx [] [] p):=fun P ρ H s N R X S w=>by
 obtain _ | ⟨h₀,hx⟩:=hx
 ·cases he
 replace w:=O2.mp w
 obtain⟨rfl,w⟩:=w
 obtain⟨outer,ho⟩:=C.head
 obtain⟨L,hL⟩:=C.fr
 refine wpAny_Try_except (wpAny_mono (hb P ρ H s N R _ S w) (fun f s₁ h₁=>?_) fun e s₁ h₁=>?_)
 ·cases f with
  | next=>exact wpAny_execs_nil h₁
  | ret u=>exact h₁
  | _=>exact h₁.elim
 ·obtain⟨k,ρ',H',S',F,g⟩:=h₁
  rw[hL] at F
  refine EQ S' (by rw[C.frames,ho]) ho hL F fun h' S₂ F₂=>?_
  refine Bx (s:={ s₁ with heap:=h' }) (f:=none) S₂ F₂ fun h'' S₃ F₃=>?_
  exact KZ C hG (hh rfl) ρ' H' _ S₃ F₃ g
end
end Mine.Internal
end

section
namespace Mine.Internal
open PySem PySem.W PySem.Calls PyProof.Rows PySem.SeqAt

theorem Iw {K:Kc}{x:Expr}{gens:List Comprehension}{scope:Scope}{p pp:Pos}{t:Str}{line:Nat}{env:Env} (h:env.scope=K.sc)
  (e:swB K t pp (.ListComp x gens scope p)=true):swapsWith (.ListComp x gens scope p) (some (.Name t pp)) line env=pure true:=by
 unfold swB at e
 rw[←h] at e
 show pure _=pure _
 exact congrArg pure e

noncomputable def OkS {W:Wd} (T:Tx W) (G:Gl) (K:Kc) (b:St):Prop:=∀x,(encS K b x).1=true→∀ {hd:Bool} (z:Addr→Prop) (F:FZ) (c:Cx) (_:FxOk (T.z z F) c K hd) (_:Rd T G hd F c.A),SX (W.z z F) c G hd b (encS K b x).2
noncomputable def OkSs {W:Wd} (T:Tx W) (G:Gl) (K:Kc) (b:Sts):Prop:=∀x,(Kg K b x).1=true→∀ {hd:Bool} (z:Addr→Prop) (F:FZ) (c:Cx) (_:FxOk (T.z z F) c K hd) (_:Rd T G hd F c.A),SXs (W.z z F) c G hd b (Kg K b x).2
noncomputable def OkH {W:Wd} (T:Tx W) (G:Gl) (K:Kc) (b:Hs):Prop:=∀x,(encH K b x).1=true→∀(z:Addr→Prop) (F:FZ) (c:Cx) (_:FxOk (T.z z F) c K false) (_:Rd T G false F c.A),SH (W.z z F) c K G b (encH K b x).2

noncomputable def Txt (K:Kc) (b:Sts) (x:List Stmt):Prop:=x=(Kg K b x).2∧(Kg K b x).1=true

set_option maxHeartbeats 4000000
theorem P5 {W:Wd}{T:Tx W}{G:Gl} (hG:G.anc=T.anc) {K:Kc}{i:Nat}{e:Ex}:OkS T G K (.asg i e):=by
 intro x h hd z F c C O
 have hD:=(an h).1
 replace h:=(an h).2
 have g:=(an h).1
 have he:=(an (an h).2).1
 by_cases hk:HR (Bl e K (C0 0 x)).2 false false true true true=true
 ·exact Ok C.toCxOk g (O1 hk _ _ _) (((B4 hG).1 e _ _ he).2 z F c C.toCxOk (.inl O)).1
 ·have hs:=(Bool.or_eq_true_iff.mp (an (an h).2).2).resolve_left hk
  cases e with
  | comp elt t src =>
   have i:=(B4 (hd:=hd) hG).2 src _ _ (an (an (an he).2).2).1
   have j:=(B4 (hd:=hd) hG).1 elt _ _ (an (an (an (an he).2).2).2).1
   exact Jj C.toCxOk g (Iw C.sc hs) C.inF (an (an he).1).2 (i.1.fold _) (i.2 z F c C.toCxOk O).1 (He (an (an he).2).1) fun z c' C' hA=>(j.2 z F c' C' (.inl (hA▸O))).1
  | compIf elt t src d =>
   have i:=(B4 (hd:=hd) hG).2 src _ _ (an (an (an he).2).2).1
   have j:=(B4 (hd:=hd) hG).1 elt _ _ (an (an (an (an he).2).2).2).1
   have k:=(B4 (hd:=hd) hG).1 d _ _ (an (an (an (an (an he).2).2).2).2).1
   exact HB C.toCxOk g (Iw C.sc hs) C.inF (an (an he).1).2 (i.1.fold _) (i.2 z F c C.toCxOk O).1 (He (an (an he).2).1) (fun z c' C' hA=>(j.2 z F c' C' (.inl (hA▸O))).1) fun z c' C' hA=>(k.2 z F c' C' (.inl (hA▸O))).2
  | compD elt t src=>cases hD
  | _=>exact (hk rfl).elim
theorem Hf {W:Wd}{T:Tx W}{G:Gl} (hG:G.anc=T.anc) {K:Kc}{e:Sts}{x:List Stmt} (h0:Txt K e x) {hd:Bool} (z:Addr→Prop) (F:FZ) (c:Cx) (C:FxOk (T.z z F) c K hd) (O:Rd T G hd F c.A):SXs (W.z z F) c G hd e x:=by
 rw[h0.1]
 refine @Sts.rec (OkS T G K) (OkSs T G K) (OkH T G K)
  ?asg
  ?asg2
  ?asg3
  ?setIt
  ?ex
  ?ret
  ?ife
  ?whl
  ?forr
  ?raise
  ?tr
  ?pass
  ?nil
  ?cons
  ?hnil
  ?hcons
  e x h0.2 hd z F c C O
 case asg=>intro i e;exact P5 hG
 case asg2=>intro i j e x h hd z F c C O;exact N6 C.toCxOk (an (an h).1).1 (an (an h).1).2 (Hz (an (an h).2).2 _ _).1 (Hz (an (an h).2).2 0 _).2 (((B4 hG).1 _ _ _ (an (an h).2).1).2 z F c C.toCxOk (.inl O)).1
 case asg3=>intro i j l e x h hd z F c C O;exact N5 C.toCxOk (an (an h).1).1 (an (an (an h).1).2).1 (an (an (an h).1).2).2 (Hz (an (an h).2).2 _ _).1 (Hz (an (an h).2).2 0 _).2 (((B4 hG).1 _ _ _ (an (an h).2).1).2 z F c C.toCxOk (.inl O)).1
 case setIt=>intro o i v x h hd z F c C O;exact LC O.1 (((B4 (hd:=hd) hG).1 _ _ _ (an h).1).1.set _ _ _ _ _) (((B4 hG).1 _ _ _ (an (an h).2).1).2 z F c C.toCxOk (.inl O)).1 (((B4 hG).1 _ _ _ (an (an h).2).2).2 z F c C.toCxOk (.inl O)).1 (((B4 hG).1 _ _ _ (an h).1).2 z F c C.toCxOk (.inl O)).1
 case ex=>intro e x h hd z F c C O;exact sx_ex C.toCxOk (O1 (an h).2 _ _ _) (((B4 hG).1 _ _ _ (an h).1).2 z F c C.toCxOk (.inl O)).1
 case ret=>intro e x h hd z F c C O;exact Oi (((B4 hG).1 _ _ _ h).2 z F c C.toCxOk (.inl O)).1
 case ife=>intro d a b ha hb x h hd z F c C O;exact sx_if (((B4 hG).1 _ _ _ (an h).1).2 z F c C.toCxOk (.inl O)).2 (ha _ (an (an h).2).1 z F c C O) (hb _ (an (an h).2).2 z F c C O)
 case whl=>intro d b hb x h hd z F c C O;exact LB C (((B4 hG).1 _ _ _ (an h).1).2 z F c C.toCxOk (.inl O)).2 (hb _ (an h).2 z F c C O)
 case forr=>intro t s b hb x h hd z F c C O;have i:=(B4 (hd:=hd) hG).2 s _ _ (an (an h).2).1;exact Oj C (i.1.fold _) (i.2 z F c C.toCxOk O).1 (He (an h).1) fun z'=>hb _ (an (an h).2).2 z' F c (C.z z') O
 case raise=>intro k msg x h hd z F c C O;exact LD C.toCxOk rfl (an (an h).1).1 (an (an h).1).2
 case tr=>intro b hs hb hh x h hd z F c C O;exact Oh (T:=T.z z F) (Gw (an (an h).2).1) C hG (hb _ (an h).1 z F c C O) fun q=>by subst q;exact hh _ (an (an h).2).2 z F c C O
 case pass=>intro x h hd z F c C O;exact N4
 case nil=>intro x h hd z F c C O;exact N3
 case cons=>intro s r hs hr x h hd z F c C O;exact LA (hs _ (an h).1 z F c C O) (hr _ (an h).2 z F c C O)
 case hnil=>intro x h z F c C O;exact .nil
 case hcons => 
  intro d o b r hb hr x h z F c C O
  have h1:=(an (an h).1).1
  have h2:=(an (an h).1).2
  have h3:=(an (an h).2).1
  cases o with
  | none=>exact .cons0 rfl (an h1).1 (an h1).2 (Gw (an h3).1) (fun v=>hb _ (an h3).2 z F _ (C.mark v) ⟨O.1,fun q=>by cases q⟩) (hr _ (an (an h).2).2 z F c C O)
  | some i=>exact .cons1 rfl (an h1).1 (an h1).2 (an h2).1 (beq_iff_eq.mp (an h2).2) (Gw (an h3).1) (fun v=>hb _ (an h3).2 z F _ (C.mark v) ⟨O.1,fun q=>by cases q⟩) (hr _ (an (an h).2).2 z F c C O)
end Mine.Internal
end

section
namespace Mine.Internal
open PySem PySem.W PySem.Calls PyProof.Rows PySem.SeqAt

theorem J5 {defs:String→Option Fn}{anc:String→List String}{n:Nat}{f:String}{vs:List V}{Q:V→Hp→Prop}{X:String→Hp→Prop}{H:Hp} (w:Aj defs anc (n+1) f vs Q X H) :
  ∃d,defs f=some d∧vs.length=d.params∧AH ⟨Aj defs anc n,anc⟩ false d.body ((vs.map some)++List.replicate (d.slots.length-d.params) none) (fun ξ H₁=>Q .none H₁) Q (fun c ξ H₁=>X c H₁) H:=by
 have w:Option.casesOn (motive:=fun ξ=>Prop) (defs f) False (fun d=>vs.length=d.params∧AH ⟨Aj defs anc n,anc⟩ false d.body ((vs.map some)++List.replicate (d.slots.length-d.params) none) (fun ξ H₁=>Q .none H₁) Q (fun c ξ H₁=>X c H₁) H):=w
 cases hf:defs f with
 | none=>rw[hf] at w;exact w.elim
 | some d=>rw[hf] at w;exact⟨d,rfl,w⟩
noncomputable def DI (d:Fn) (us:List Value):List (Str×Value):=((d.slots.take d.params).map Str.ofString).zip us
noncomputable def fnK (gint:List (String×Int)) (fns cls:List String) (sc:Scope) (d:Fn):Kc :=
 { sc:=sc,names:=d.slots,vis:=fun i=>match d.slots[i]? with | some x=>(match sc.names.lookup (Str.ofString x) with | some .local=>true | some .cell=>true | _=>false) | none=>false,gint:=gint,fns:=fns,cls:=cls,inC:=false }

structure FnOk {W:Wd} (T:Tx W) (d:Fn) (a:Addr) (o:Obj) (fd:FuncData) (body:List Stmt):Prop where
 at_:W.base.get? a=some o
 data:o.data=.func fd
 co:fd.scope.isCoroutine=false
 gen:fd.scope.isGenerator=false
 bodyE:fd.body=.stmts body
 code:W.base.CodeRec fd.code fd.qualname
 clos:fd.closure=[]
 glob:fd.globals=T.G
 bi:fd.builtins=T.B
 kind:fd.scope.kind=.function
 slots:d.slots.Nodup
 str:∀x y:String,x∈d.slots→y∈d.slots→Str.ofString x=Str.ofString y→x=y
 par:d.params≤d.slots.length
 parK:∀x∈d.slots.take d.params,fd.scope.names.lookup (Str.ofString x)=some .local∨fd.scope.names.lookup (Str.ofString x)=some .cell
 binds:∀(us:List Value) (s:Shared),us.length=d.params→T.frag.In s.heap→BindsTo s fd ⟨us,[]⟩ (DI d us)
 text:Txt (fnK T.gint T.fns T.cls fd.scope d) d.body body

theorem FnOk.z {W:Wd}{T:Tx W}{d:Fn}{a:Addr}{o:Obj}{fd:FuncData}{body:List Stmt} (F:FnOk T d a o fd body) (z:Addr→Prop):FnOk (T.z z) d a o fd body :=
 ⟨F.at_,F.data,F.co,F.gen,F.bodyE,F.code,F.clos,F.glob,F.bi,F.kind,F.slots,F.str,F.par,F.parK,F.binds,F.text⟩
theorem FG {kindOf:Str→Option NameKind}{x:Str}{u:Value}:∀ {bs:List (Str×Value)}{m:Str→Option Value},(bs.map (·.1)).Nodup→kindOf x=some .local→((x,u)∈bs∨(x∉bs.map (·.1)∧m x=some u))→bindL kindOf bs m x=some u
 | [],m,_,_,h=>by rcases h with h | h;cases h;exact h.2
 | (n,v) :: r,m,hn,hk,h=>by
  rw[List.map_cons,List.nodup_cons] at hn
  unfold bindL
  refine FG hn.2 hk ?_
  rcases h with h | ⟨h1,h2⟩
  ·rcases List.mem_cons.mp h with e | h
   ·cases e;right;exact⟨hn.1,by rw[if_pos hk];simp⟩
   ·exact .inl h
  ·right
   rw[List.map_cons,List.mem_cons,not_or] at h1
   refine⟨h1.2,?_⟩
   split
   ·simp [h1.1,h2]
   ·exact h2
theorem FH {kindOf:Str→Option NameKind}{x:Str}{u:Value}:∀ {bs:List (Str×Value)}{m:Str→Option Value},(bs.map (·.1)).Nodup→kindOf x≠some .local→((x,u)∈bs∨(x∉bs.map (·.1)∧m x=some u))→bindC kindOf bs m x=some u
 | [],m,_,_,h=>by rcases h with h | h;cases h;exact h.2
 | (n,v) :: r,m,hn,hk,h=>by
  rw[List.map_cons,List.nodup_cons] at hn
  unfold bindC
  refine FH hn.2 hk ?_
  rcases h with h | ⟨h1,h2⟩
  ·rcases List.mem_cons.mp h with e | h
   ·cases e;right;exact⟨hn.1,by rw[if_neg hk];simp⟩
   ·exact .inl h
  ·right
   rw[List.map_cons,List.mem_cons,not_or] at h1
   refine⟨h1.2,?_⟩
   split
   ·exact h2
   ·simp [h1.1,h2]

theorem AP {x:Str}:∀(names:List (Str×NameKind)) (n:Nat) (acc:List (Str×Addr)),((x,NameKind.cell)∈names∨(acc.lookup x).isSome=true)→((cellsFrom n names acc).lookup x).isSome=true
 | [],n,acc,h=>by rcases h with h | h;cases h;exact h
 | (y,k) :: r,n,acc,h=>by
  unfold cellsFrom
  by_cases hk:k=.cell
  ·rw[if_pos (by simp [hk])]
   refine AP r _ _ ?_
   rcases h with h | h
   ·rcases List.mem_cons.mp h with e | h
    ·cases e;right;simp [List.lookup_cons]
    ·exact .inl h
   ·right
    rw[List.lookup_cons]
    cases q:x == y <;> simp [h]
  ·rw[if_neg (by simp [hk])]
   refine AP r _ _ ?_
   rcases h with h | h
   ·rcases List.mem_cons.mp h with e | h
    ·cases e;exact absurd rfl hk
    ·exact .inl h
   ·exact .inr h
theorem M0 {l:List (Str×Addr)} (h:l.Pairwise fun x y=>x.2≠y.2):∀p∈l,∀q∈l,p.2=q.2→p=q:=by
 induction h with
 | nil=>intro p hp;cases hp
 | cons h1 h2 ih =>
  intro p hp q hq e
  rcases List.mem_cons.mp hp with e1 | hp' <;> rcases List.mem_cons.mp hq with e2 | hq'
  ·rw[e1,e2]
  ·subst e1;exact absurd e (h1 q hq')
  ·subst e2;exact absurd e.symm (h1 p hp')
  ·exact ih p hp' q hq' e

section
variable {W:Wd}{T:Tx W}{c:Cx}{K:Kc}{hd:Bool}

noncomputable def FU (L:Addr) (cs:List (Str×Addr)):List Addr:=L :: cs.filterMap fun p=>if cs.lookup p.1=some p.2 then some p.2 else none
theorem Fe {L b:Addr}{cs:List (Str×Addr)} (h:b∈FU L cs):b=L∨∃x,(x,b)∈cs∧cs.lookup x=some b:=by
 unfold FU at h
 rcases List.mem_cons.mp h with h | h
 ·exact .inl h
 ·obtain⟨p,hp,e⟩:=List.mem_filterMap.mp h
  split at e
  ·rename_i q;cases e;exact .inr ⟨p.1,hp,q⟩
  ·cases e
noncomputable def Cx.fn (c:Cx) (K:Kc) (env:Env) (m:Str→Option Value):Cx :=
 { A:=c.A.deeper env,env:=env,fenvs:=env :: c.fenvs,names:=K.names,vis:=K.vis,own:=FU env.locals env.cells,outer:=(c.env.locals,m) :: c.outer }

theorem fn_ok {env:Env}{m:Str→Option Value} (C:CxOk T c K false) {K':Kc} (h1:env.scope=K'.sc) (h2:K'.sc.kind=.function) (hg:K'.gint=T.gint) (hf:K'.fns=T.fns) (hc:K'.cls=T.cls) (hin:K'.inC=false) (hgl:env.globals=T.G) (hbi:env.builtins=T.B) (hfr:env.frame=some env.locals) (hu:c.A.units+23<cLine)
  (hinj:∀(i j:Nat) (x y:String),K'.names[i]?=some x→K'.names[j]?=some y→Str.ofString x=Str.ofString y→i=j) (hck:∀x,env.kindOf x=some .cell→∃a,env.cells.lookup x=some a) (hpw:env.cells.Pairwise fun x y=>x.2≠y.2) (hab:∀x a,env.cells.lookup x=some a→a≠env.locals∧a∉c.frs) :
  FxOk T (c.fn K' env m) K' false where
 sc:=h1
 kind:=h2
 names:=rfl
 vis:=rfl
 gint:=hg
 fns:=hf
 cls:=hc
 glob:=hgl
 bi:=hbi
 hand:=fun ξ=>C.hand rfl
 units:=by show c.A.units+3+20<cLine;exact lB [] [_,_] (.a (.a (.n 0) (.c 3)) (.c 20)) (.n 1) [.B (.a (.n 0) (.c 23)) (.n 1)] [1,1] rfl hu
 frames:=by show c.A.frames.map (env :: ·)=some (env :: c.fenvs);rw[C.frames];rfl
 inj:=hinj
 cellOwn:=fun x a e ξ=>by
  show a∈FU env.locals env.cells
  unfold FU
  refine .tail _ (List.mem_filterMap.mpr ⟨(x,a),mem_of_lookup e,by simp [show env.cells.lookup x=some a from e]⟩)
 cellFr:=fun x a e q=>by
  have:=hab x a e
  simp only[Cx.frs,Cx.fn,List.filterMap_cons,hfr,List.mem_cons] at q
  rcases q with q | q
  ·exact this.1 q
  ·exact this.2 q
 cellKind:=hck
 cellInj:=fun x y a ex ey=>by
  have:=M0 hpw (x,a) (mem_of_lookup ex) (y,a) (mem_of_lookup ey) rfl
  cases this;rfl
 head:=⟨c.fenvs,rfl⟩
 fr:=⟨_,hfr⟩
 inF:=hin

theorem Sim.intoF {P:Addr→Obj→Prop}{ρ ρ₀:Loc}{H:Hp}{s s':Shared}{K':Kc}{env:Env}{m m' cm:Str→Option Value} (S:Sim W c P ρ H s) (hkd:env.scope.kind≠.module) (hfr:env.frame=some env.locals) (hL:env.locals=s.heap.objs.size) (x:InCallC s env.locals m' env.cells cm s') (hm:s.heap.Ns c.env.locals m)
  (hv:KeepR W s.heap s'.heap→∀i x v,K'.vis i=true→K'.names[i]?=some x→ρ₀[i]?=some (some v)→HasVar W env s'.heap m' (Str.ofString x) v) :
  Sim W (c.fn K' env m) (PC c H s.heap []) ρ₀ H s':=by
 have hk:=x.toInCall.keep
 have kr:KeepR W s.heap s'.heap:=.of_keeps hk
 have nL:s.heap.get? env.locals=none:=by rw[hL];exact AD _
 obtain⟨f1,f2,f3,f4⟩:=S.fresh nL
 have ncell:∀y b,(y,b)∈env.cells→s.heap.get? b=none:=fun y b e=>Heap.get?_none_of_le (by have:=x.above y b e;rw[hL] at this;exact Nat.le_of_lt this)
 have own_none:∀b,b∈FU env.locals env.cells→s.heap.get? b=none:=fun b hb=>by
  rcases Fe hb with rfl | ⟨y,e,_⟩
  ·exact nL
  ·exact ncell y b e
 obtain⟨oL,esL,epL,eL,dL,rL⟩:=id x.toInCall.ns
 refine⟨?_,fun b o e=>hk b o (S.base b o e),⟨hkd,⟨env.locals,oL,hfr,f1,eL,by first | exact Ap dL rfl | exact Aq dL rfl | (rw[dL];exact nofun)⟩,AM S.frames fun b hb o e d=>⟨o,hk b o e,d⟩⟩,fun p hp=>?_,⟨m',x.toInCall.ns,hv kr⟩,by simp [Cx.fn,FU],fun b hb=>(S.fresh (own_none b hb)).1,fun b hb p hp q=>?_,
  fun a o e=>(S.heap a o e).at kr fun ob z=>hk a ob z,S.new,fun a o e=>?_,fun b o p=>hk b o p.1,fun b o p=>p.2.1,fun b o p=>⟨fun q=>?_,fun q=>?_⟩,fun y a e=>⟨_,x.cell y a e⟩,fun b hb=>?_,fun b hb=>(S.scr b hb).at fun o e ξ ξ=>hk b o e⟩
 ·obtain⟨h,tk,e⟩:=x.toInCall.same
  obtain⟨hp,tk',e'⟩:=S.rest
  exact⟨h,tk,by rw[e,e']⟩
 ·rcases List.mem_cons.mp hp with rfl | hp
  ·exact hm.at' fun o e=>hk _ o e
  ·exact (S.outer p hp).at' fun o e=>hk _ o e
 ·have nb:=own_none b hb
  rcases List.mem_cons.mp hp with rfl | hp
  ·obtain⟨o,_,_,e,_⟩:=hm
   rw[←q] at nb;dsimp only at nb;rw[e] at nb;cases nb
  ·obtain⟨o,_,_,e,_⟩:=S.outer p hp
   rw[←q,e] at nb;cases nb
 ·have:=S.apart a o e
  obtain⟨ob,ea,_⟩:=(S.heap a o e).obj
  simp only[Cx.all,Cx.fn,Cx.frs,List.mem_append,List.map_cons,List.mem_cons,List.filterMap_cons,hfr,not_or] at this ⊢
  refine⟨⟨fun q=>?_,fun q=>?_,this.1.2⟩,fun q=>this.1.1 (q▸S.locOwn),this.2⟩
  ·rw[own_none a q] at ea;cases ea
  ·rw[q,nL] at ea;cases ea
 ·have:=p.1;rw[own_none b q] at this;cases this
 ·simp only[Cx.frs,Cx.fn,List.filterMap_cons,hfr,List.mem_cons] at q
  rcases q with q | q
  ·have:=p.1;rw[q,nL] at this;cases this
  ·exact p.2.2.1 q
 ·rcases hb with hb | hb
  ·rcases Fe hb with rfl | ⟨y,e,l⟩
   ·exact⟨oL,eL,.inl ⟨_,_,dL⟩⟩
   ·obtain⟨o,e1,e2⟩:=x.cell y b l
    exact⟨o,e1,.inr ⟨_,e2⟩⟩
  ·simp only[Cx.frs,Cx.fn,List.filterMap_cons,hfr,List.mem_cons] at hb
   rcases hb with rfl | hb
   ·exact⟨oL,eL,.inl ⟨_,_,dL⟩⟩
   ·obtain⟨o,e,q⟩:=S.ownD b (.inr hb)
    exact⟨o,hk _ _ e,q⟩
end
end Mine.Internal
end

section
namespace Mine.Internal
open PySem PySem.W PySem.Calls PyProof.Rows PySem.SeqAt
section
variable {W:Wd}{T:Tx W}{c:Cx}{K:Kc}{hd:Bool}

theorem Sim.outF {P:Addr→Obj→Prop}{ρ ρc:Loc}{H H':Hp}{s s':Shared}{K':Kc}{env:Env}{m:Str→Option Value} (O:CxOk T c K hd) (S:Sim W c P ρ H s) (hm:s.heap.Ns c.env.locals m) (hfr:env.frame=some env.locals)
  (hv:∀i x v,c.vis i=true→c.names[i]?=some x→ρ[i]?=some (some v)→HasVar W c.env s.heap m (Str.ofString x) v)
  (S':Sim W (c.fn K' env m) (PC c H s.heap []) ρc H' s'):Sim W c P ρ H' s'∧KeepR W s.heap s'.heap:=by
 have kp:∀b o,s.heap.get? b=some o→H b=none→b∉c.frs→s'.heap.get? b=some o:=fun b o e q1 q2=>S'.prot b o ⟨e,q1,q2,by simp⟩
 have hfrs:∀b,b∈c.frs→b∈(c.fn K' env m).frs:=fun b hb=>by simp only[Cx.frs,Cx.fn,List.filterMap_cons,hfr,List.mem_cons];exact .inr hb
 have nfr:∀b o,s.heap.get? b=some o→(∀es n,o.data≠.dict es n)→(∀v,o.data≠.cell v)→b∉c.frs:=fun b o e d1 d2 mm=>by
  obtain⟨o',e',q⟩:=S.ownD b (.inr mm)
  rw[e] at e';cases e'
  rcases q with ⟨_,_,q⟩ | ⟨_,q⟩
  ·exact d1 _ _ q
  ·exact d2 _ q
 have nH:∀b o,s.heap.get? b=some o→o.cls≠.type "list" → o.cls≠.type "dict" → H b=none:=fun b o e h1 h2=>by
  cases q:H b with
  | none=>rfl
  | some x =>
   obtain⟨ob,e',k,_⟩:=(S.heap b x q).obj
   rw[e] at e';cases e'
   rcases k with k | k
   ·exact absurd k h1
   ·exact absurd k h2
 have nHc:∀b o v,s.heap.get? b=some o→o.data=.cell v→H b=none:=fun b o v e d=>by
  cases q:H b with
  | none=>rfl
  | some x =>
   obtain⟨ob,e',_,k⟩:=(S.heap b x q).obj
   rw[e] at e';cases e'
   exact absurd d (k v)
 have kr:KeepR W s.heap s'.heap:=⟨fun b o i n e k d ξ=>kp b o e (nH b o e (by rw[k];decide) (by rw[k];decide)) (nfr b o e (by first | exact Ap d rfl | exact Aq d rfl | (rw[d];exact nofun)) (by first | exact Ap d rfl | exact Aq d rfl | (rw[d];exact nofun))),fun b o D ws e k d=>⟨o,ws,kp b o e (nH b o e (by first | exact Ap k rfl | exact Aq k rfl | (rw[k];exact nofun)) (by first | exact Ap k rfl | exact Aq k rfl | (rw[k];exact nofun))) (nfr b o e (by first | exact Ap d rfl | exact Aq d rfl | (rw[d];exact nofun)) (by first | exact Ap d rfl | exact Aq d rfl | (rw[d];exact nofun))),k,d⟩⟩
 have own:∀b,b∈c.own→b∉c.frs→∃o,s.heap.get? b=some o∧s'.heap.get? b=some o∧H' b=none:=fun b hb hf=>by
  obtain⟨o,e,q⟩:=S.ownD b (.inl hb)
  have hH:H b=none:=by
   cases z:H b with
   | none=>rfl
   | some x=>exact absurd (Cx.mem_all_own hb) (S.apart b x z)
  exact⟨o,e,kp b o e hH hf,S'.protH b o ⟨e,hH,hf,by simp⟩⟩
 have fr:∀b,b∈c.frs→∃o,s'.heap.get? b=some o∧((∃es n,o.data=.dict es n)∨(∃v,o.data=.cell v)):=fun b hb=>S'.ownD b (.inr (hfrs b hb))
 refine⟨⟨S'.rest,S'.base,S'.frames.2.2,fun p hp=>S'.outer p (.tail _ hp),⟨m,S'.outer (c.env.locals,m) (.head _),fun i x v h1 h2 h3=>(hv i x v h1 h2 h3).mono kr fun cl' o u e1 ho hq=>⟨o,kp cl' o ho (nHc _ _ _ ho hq) (O.cellFr _ _ e1),rfl⟩⟩,S.locOwn,S.ownNew,S.ownOut,
  S'.heap,S'.new,fun a o e=>?_,fun b o p=>kp b o (S.prot b o p) (S.protH b o p) (S.protF b o p).2,fun b o p=>S'.protH b o ⟨S.prot b o p,S.protH b o p,(S.protF b o p).2,by simp⟩,S.protF,fun x a e=>?_,fun b hb=>?_,S'.scr⟩,kr⟩
 ·have:=S'.apart a o e
  simp only[Cx.all,Cx.fn,Cx.frs,List.mem_append,List.map_cons,List.mem_cons,List.filterMap_cons,hfr,not_or] at this ⊢
  refine⟨⟨fun q=>?_,this.1.2.2⟩,this.2.2⟩
  by_cases hf:a∈c.frs
  ·exact this.1.2.2 hf
  ·obtain⟨_,_,_,z⟩:=own a q hf
   rw[e] at z;cases z
 ·obtain⟨u,o,e1,e2⟩:=S.cells x a e
  exact⟨u,o,kp a o e1 (nHc _ _ _ e1 e2) (O.cellFr _ _ e),e2⟩
 ·rcases hb with hb | hb
  ·by_cases hf:b∈c.frs
   ·exact fr b hf
   ·obtain⟨o,e,q2,_⟩:=own b hb hf
    obtain⟨o',e',q⟩:=S.ownD b (.inl hb)
    rw[e] at e';cases e'
    exact⟨o,q2,q⟩
  ·exact fr b hb

theorem J6 {d:Fn}{us:List Value}{i:Nat}{x:String}{u:Value} (h1:i<d.params) (hx:d.slots[i]?=some x) (hu:us[i]?=some u):(Str.ofString x,u)∈DI d us:=by
 unfold DI
 refine List.mem_of_getElem? (i:=i) ?_
 rw[List.getElem?_zip_eq_some]
 refine⟨?_,hu⟩
 rw[List.getElem?_map,List.getElem?_take_of_lt h1,hx];rfl
theorem FR {d:Fn}{us:List Value} (h1:d.slots.Nodup) (h2:∀x y:String,x∈d.slots→y∈d.slots→Str.ofString x=Str.ofString y→x=y):((DI d us).map (·.1)).Nodup:=by
 unfold DI
 have:((((d.slots.take d.params).map Str.ofString).zip us).map (·.1)).Sublist ((d.slots.take d.params).map Str.ofString):=by
  generalize (d.slots.take d.params).map Str.ofString=l
  induction l generalizing us with
  | nil=>simp
  | cons a r ih =>
   cases us with
   | nil=>simp
   | cons u us=>simpa using ih
 refine List.Nodup.sublist this ?_
 have hs:(d.slots.take d.params).Sublist d.slots:=List.take_sublist _ _
 rw[List.nodup_iff_pairwise_ne,List.pairwise_map]
 have hn:=(h1.sublist hs)
 rw[List.nodup_iff_pairwise_ne] at hn
 exact hn.imp_of_mem fun ha hb hne e=>hne (h2 _ _ (hs.subset ha) (hs.subset hb) e)

theorem Mr {defs:String→Option Fn}{anc:String→List String} (hN:W.fz=nf) (hanc:anc=T.anc) (hlim:W.base.NoLimit) (D:∀f d,defs f=some d→∃a o fd body,T.mg (Str.ofString f)=some (.ref a)∧FnOk T d a o fd body) (n:Nat) (A:Around) (hdep:A.depth+(n+1)<1000) (hun:A.units+3*(n+1)+25<cLine)
  (gok:∀(A:Around),A.depth+n<1000→A.units+3*n+25<cLine→∀z,GOk (T.z z) ⟨Aj defs anc n,anc⟩ A):GOk T ⟨Aj defs anc (n+1),anc⟩ A:=fun c K hA C f vs us P ρ H s Q X a S r eg w=>by
  subst hA
  ·obtain⟨d,hf,hlen,w⟩:=J5 w
   obtain⟨a',o,fd,body,eg',FO⟩:=D f d hf
   rw[eg] at eg';cases eg'
   obtain⟨m,hm,hv⟩:=S.loc
   have hul:us.length=d.params:=by rw[←r.length];exact hlen
   have kb:∀b o,W.base.get? b=some o→s.heap.get? b=some o:=fun b o e=>S.base b o e
   have hcode:s.heap.CodeRec fd.code fd.qualname:=by
    obtain⟨cc,oc,cvs,tq,h1,h2,h3,h4⟩:=FO.code
    exact⟨cc,oc,cvs,tq,h1,kb _ _ h2,h3,h4⟩
   refine wpAny_call (codeAny_call_function (by unfold recursionLimit;exact lB [] [_,_] (.n 0) (.c 1000) [.B (.a (.n 0) (.a (.n 1) (.c 1))) (.c 1000)] [1,1] rfl hdep) (kb _ _ FO.at_) FO.data FO.co FO.gen FO.bodyE hcode (FO.binds us s hul S.frag _ _ _ _ ?_))
   rw[FO.clos]
   have hnd:=FR (us:=us) FO.slots FO.str
   refine wpAny_newFunctionEnv_cells FO.kind (fun y hy=>?_) fun env he s' x=>?_
   ·obtain⟨z,hz,ez⟩:∃z∈d.slots.take d.params,Str.ofString z=y.1:=by
     have:y.1∈(d.slots.take d.params).map Str.ofString:=(List.of_mem_zip hy).1
     obtain⟨z,hz,e⟩:=List.mem_map.mp this
     exact⟨z,hz,e⟩
    rw[←ez]
    rcases FO.parK z hz with h | h
    ·exact .inl h
    ·exact .inr ⟨h,AP _ _ _ (.inl (Br h))⟩
   have hloc:env.locals=s.heap.objs.size:=by rw[he];rfl
   have hcel:env.cells=cellsFrom (s.heap.objs.size+1) fd.scope.names []:=by rw[he];rfl
   have hsc:env.scope=fd.scope:=by rw[he];rfl
   have hfr:env.frame=some env.locals:=by rw[he];rfl
   have hfr':∀b∈c.frs,b<s.heap.objs.size:=fun b hb=>by obtain⟨o',e',_⟩:=S.ownD b (.inr hb);exact Heap.lt_size e'
   refine⟨(hlim.keeps kb).keeps x.toInCall.keep,codeAny_func ?_⟩
   have FX:FxOk T (c.fn (fnK T.gint T.fns T.cls fd.scope d) env m) (fnK T.gint T.fns T.cls fd.scope d) false:=by
    refine fn_ok C (K':=fnK T.gint T.fns T.cls fd.scope d) hsc FO.kind rfl rfl rfl rfl (by rw[he];exact FO.glob) (by rw[he];exact FO.bi) hfr (by exact lB [] [_,_,_] (.a (.n 0) (.c 23)) (.n 1) [.B (.a (.a (.n 0) (.m 3 (.a (.n 2) (.c 1)))) (.c 25)) (.n 1)] [1,1] rfl hun) ?_ ?_ x.apart ?_
    ·intro i j y z hi hj e
     have hy:y∈d.slots:=List.mem_of_getElem? hi
     have hz:z∈d.slots:=List.mem_of_getElem? hj
     have:=FO.str y z hy hz e
     subst this
     have hi':d.slots[i]?=some y:=hi
     have hj':d.slots[j]?=some y:=hj
     have hil:i<d.slots.length:=by
      rcases Nat.lt_or_ge i d.slots.length with q | q
      ·exact q
      ·rw[List.getElem?_eq_none q] at hi';cases hi'
     exact (List.getElem?_inj hil FO.slots).mp (hi'.trans hj'.symm)
    ·intro y e
     have e:fd.scope.names.lookup y=some .cell:=by unfold Env.kindOf at e;rw[hsc] at e;exact e
     rw[hcel]
     exact Option.isSome_iff_exists.mp (AP _ _ _ (.inl (Br e)))
    ·intro y b e
     have h1:=x.above y b (mem_of_lookup e)
     refine⟨Nat.ne_of_gt h1,fun q=>?_⟩
     have h2:=hfr' b q
     rw[hloc] at h1
     exact absurd (Nat.lt_trans h1 h2) (Nat.lt_irrefl _)
   have S':Sim W (c.fn (fnK T.gint T.fns T.cls fd.scope d) env m) (PC c H s.heap []) ((vs.map some)++List.replicate (d.slots.length-d.params) none) H s':=by
    refine S.intoF (by rw[hsc,FO.kind];decide) hfr hloc x hm fun kr i y v hi1 hi2 hi3=>?_
    have hi:i<d.params∧vs[i]?=some v:=by
     by_cases q:i<vs.length
     ·rw[List.getElem?_append_left (by simpa using q),List.getElem?_map] at hi3
      cases z:vs[i]? with
      | none=>rw[z] at hi3;cases hi3
      | some v'=>rw[z] at hi3;cases hi3;exact⟨by exact lB [] [_,_,_] (.n 0) (.n 1) [.E (.n 2) (.n 1),.B (.n 0) (.n 2)] [1,1,1] rfl hlen q,rfl⟩
     ·rw[List.getElem?_append_right (by simpa using q),List.getElem?_replicate] at hi3
      split at hi3 <;> simp at hi3
    obtain⟨u,eu,ru⟩:=r.get hi.2
    have mem:=J6 (us:=us) hi.1 hi2 eu
    have hz:y∈d.slots.take d.params:=List.mem_of_getElem? (i:=i) (by rw[List.getElem?_take_of_lt hi.1];exact hi2)
    have kof:env.kindOf (Str.ofString y)=fd.scope.names.lookup (Str.ofString y):=by unfold Env.kindOf;rw[hsc]
    rcases FO.parK y hz with h | h
    ·exact .loc (by rw[kof];exact h) u (FG hnd (by rw[kof];exact h) (.inl mem)) (ru.mono kr)
    ·obtain⟨cl,ecl⟩:=Option.isSome_iff_exists.mp (AP fd.scope.names (s.heap.objs.size+1) [] (.inl (Br h)))
     have ecl':env.cells.lookup (Str.ofString y)=some cl:=by rw[hcel];exact ecl
     obtain⟨o',e1,e2⟩:=x.cell _ _ ecl'
     rw[FH hnd (by rw[kof,h];simp) (.inl mem)] at e2
     exact .cel (by rw[kof];exact h) cl o' u ecl' e1 e2 (ru.mono kr)
   have O':∀z,GOk (T.z z) ⟨Aj defs anc n,anc⟩ (c.A.deeper env):=gok _ (by show c.A.depth+1+n<1000;exact lB [] [_,_] (.a (.a (.n 0) (.c 1)) (.n 1)) (.c 1000) [.B (.a (.n 0) (.a (.n 1) (.c 1))) (.c 1000)] [1,1] rfl hdep) (by show c.A.units+3+3*n+25<cLine;exact lB [] [_,_,_] (.a (.a (.a (.n 0) (.c 3)) (.m 3 (.n 1))) (.c 25)) (.n 2) [.B (.a (.a (.n 0) (.m 3 (.a (.n 1) (.c 1)))) (.c 25)) (.n 2)] [1,1] rfl hun)
   have run:=Hf (W:=W) (T:=T) (G:=⟨Aj defs anc n,anc⟩) hanc FO.text W.scr W.fz (c.fn (fnK T.gint T.fns T.cls fd.scope d) env m) FX ⟨hN,fun ξ=>O'⟩ _ _ _ s' _ Q _ S' w
   refine wpAny_mono run (fun fl s₂ h₂=>?_) fun e s₂ h₂=>?_
   ·cases fl with
    | next =>
     obtain⟨ρ',H',S₂,q⟩:=h₂
     exact⟨.none,H',(S.outF C hm hfr hv S₂).1,.none,q⟩
    | ret u =>
     obtain⟨v,ρ',H',S₂,rv,q⟩:=h₂
     exact⟨v,H',(S.outF C hm hfr hv S₂).1,rv,q⟩
    | _=>exact h₂.elim
   ·obtain⟨k,ρ',H',S₂,F,q⟩:=h₂
    unfold leaving
    have F:Fly W (PC c H s.heap []) (some env.locals) s₂.heap e k:=by rw[←hfr];exact F
    have hfrm:(c.A.deeper env).frames=some (env :: c.fenvs):=FX.frames
    refine wpAny_bind (EQ S₂ hfrm rfl hfr F fun h' S₃ F₃=>?_)
    refine Bx (s:={ s₂ with heap:=h' }) (f:=none) S₃ F₃ fun h'' S₄ F₄=>?_
    have S₅:=(S.outF C hm hfr hv S₄).1
    exact⟨k,H',S₅,(FlyAt.fly F₄).weaken fun b o p=>⟨S.prot b o p,S.protH b o p,(S.protF b o p).2,by simp⟩,q⟩
theorem gok {defs:String→Option Fn}{anc:String→List String} (hN:W.fz=nf) (hanc:anc=T.anc) (hlim:W.base.NoLimit) (D:∀f d,defs f=some d→∃a o fd body,T.mg (Str.ofString f)=some (.ref a)∧FnOk T d a o fd body) :
  ∀(n:Nat) (A:Around),A.depth+n<1000→A.units+3*n+25<cLine→∀z,GOk (T.z z) ⟨Aj defs anc n,anc⟩ A
 | 0,A,_,_=>fun z c K hA C f vs us P ρ H s Q X a S r e w=>w.elim
 | n+1,A,hdep,hun=>fun z=>Mr (T:=T.z z) hN hanc hlim (fun f d e=>let ⟨a,o,fd,body,e1,F⟩:=D f d e;⟨a,o,fd,body,e1,F.z z⟩) n A hdep hun fun A h1 h2=>gok hN hanc hlim D n A h1 h2
end
end Mine.Internal
end

section
namespace Mine.Internal
open PySem PySem.W PySem.Calls PyProof.Rows PySem.SeqAt
section
variable {W:Wd}{T:Tx W}

noncomputable def Cx.top (A:Around) (K:Kc) (env:Env):Cx:={ A:=A.deeper env,env:=env,fenvs:=[env],names:=K.names,vis:=K.vis,own:=FU env.locals env.cells,outer:=[] }

theorem Of {A:Around}{K':Kc}{env:Env} (hh:A.handled=none) (hA:A.frames=some []) (h1:env.scope=K'.sc) (h2:K'.sc.kind=.function) (hg:K'.gint=T.gint) (hf:K'.fns=T.fns) (hc:K'.cls=T.cls) (hin:K'.inC=false) (hgl:env.globals=T.G) (hbi:env.builtins=T.B) (hfr:env.frame=some env.locals) (hu:A.units+23<cLine)
  (hinj:∀(i j:Nat) (x y:String),K'.names[i]?=some x→K'.names[j]?=some y→Str.ofString x=Str.ofString y→i=j) (hck:∀x,env.kindOf x=some .cell→∃a,env.cells.lookup x=some a) (hpw:env.cells.Pairwise fun x y=>x.2≠y.2) (hab:∀x a,env.cells.lookup x=some a→a≠env.locals) :
  FxOk T (Cx.top A K' env) K' false where
 sc:=h1
 kind:=h2
 names:=rfl
 vis:=rfl
 gint:=hg
 fns:=hf
 cls:=hc
 glob:=hgl
 bi:=hbi
 hand:=fun ξ=>hh
 units:=by show A.units+3+20<cLine;exact lB [] [_,_] (.a (.a (.n 0) (.c 3)) (.c 20)) (.n 1) [.B (.a (.n 0) (.c 23)) (.n 1)] [1,1] rfl hu
 frames:=by show A.frames.map (env :: ·)=some [env];rw[hA];rfl
 inj:=hinj
 cellOwn:=fun x a e ξ=>by
  show a∈FU env.locals env.cells
  unfold FU
  refine .tail _ (List.mem_filterMap.mpr ⟨(x,a),mem_of_lookup e,by simp [show env.cells.lookup x=some a from e]⟩)
 cellFr:=fun x a e q=>by
  have:=hab x a e
  simp only[Cx.frs,Cx.top,List.filterMap_cons,hfr,List.filterMap_nil,List.mem_cons,List.not_mem_nil,or_false] at q
  exact this q
 cellKind:=hck
 cellInj:=fun x y a ex ey=>by
  have:=M0 hpw (x,a) (mem_of_lookup ex) (y,a) (mem_of_lookup ey) rfl
  cases this;rfl
 head:=⟨[],rfl⟩
 fr:=⟨_,hfr⟩
 inF:=hin

theorem Sim.intoTop {A:Around}{ρ₀:Loc}{s s':Shared}{K':Kc}{env:Env}{m' cm:Str→Option Value} (hz:∀b,¬W.scr b) (hs:s=W.s₀) (hb:s.heap=W.base) (hkd:env.scope.kind≠.module) (hfr:env.frame=some env.locals) (hL:env.locals=s.heap.objs.size) (x:InCallC s env.locals m' env.cells cm s')
  (hv:KeepR W s.heap s'.heap→∀i x v,K'.vis i=true→K'.names[i]?=some x→ρ₀[i]?=some (some v)→HasVar W env s'.heap m' (Str.ofString x) v) :
  Sim W (Cx.top A K' env) (fun ξ ξ=>False) ρ₀ (fun ξ=>none) s':=by
 have hk:=x.toInCall.keep
 have kr:KeepR W s.heap s'.heap:=.of_keeps hk
 have nL:s.heap.get? env.locals=none:=by rw[hL];exact AD _
 have ncell:∀y b,(y,b)∈env.cells→s.heap.get? b=none:=fun y b e=>Heap.get?_none_of_le (by have:=x.above y b e;rw[hL] at this;exact Nat.le_of_lt this)
 have own_none:∀b,b∈FU env.locals env.cells→s.heap.get? b=none:=fun b hb=>by
  rcases Fe hb with rfl | ⟨y,e,_⟩
  ·exact nL
  ·exact ncell y b e
 obtain⟨oL,esL,epL,eL,dL,rL⟩:=id x.toInCall.ns
 refine⟨?_,fun b o e=>hk b o (by rw[hb];exact e),⟨hkd,⟨env.locals,oL,hfr,by rw[←hb];exact nL,eL,by first | exact Ap dL rfl | exact Aq dL rfl | (rw[dL];exact nofun)⟩,trivial⟩,(fun p hp=>by cases hp),⟨m',x.toInCall.ns,hv kr⟩,by simp [Cx.top,FU],fun b hb'=>by rw[←hb];exact own_none b hb',(fun b hb p hp=>by cases hp),
  (fun a o e=>by cases e),(fun a o e=>by cases e),(fun a o e=>by cases e),(fun b o p=>p.elim),(fun b o p=>p.elim),(fun b o p=>p.elim),fun y a e=>⟨_,x.cell y a e⟩,fun b hb=>?_,fun b hb=>(hz b hb).elim⟩
 ·obtain⟨h,tk,e⟩:=x.toInCall.same
  exact⟨h,tk,by rw[e,hs]⟩
 ·rcases hb with hb | hb
  ·rcases Fe hb with rfl | ⟨y,e,l⟩
   ·exact⟨oL,eL,.inl ⟨_,_,dL⟩⟩
   ·obtain⟨o,e1,e2⟩:=x.cell y b l
    exact⟨o,e1,.inr ⟨_,e2⟩⟩
  ·simp only[Cx.frs,Cx.top,List.filterMap_cons,hfr,List.filterMap_nil,List.mem_cons,List.not_mem_nil,or_false] at hb
   subst hb
   exact⟨oL,eL,.inl ⟨_,_,dL⟩⟩

theorem Ly {defs:String→Option Fn}{anc:String→List String} (hN:W.fz=nf) (hanc:anc=T.anc) (hlim:W.base.NoLimit) (D:∀f d,defs f=some d→∃a o fd body,T.mg (Str.ofString f)=some (.ref a)∧FnOk T d a o fd body)
  {n:Nat}{A:Around} (hh:A.handled=none) (hA:A.frames=some []) (hdep:A.depth+(n+1)<1000) (hun:A.units+3*(n+1)+25<cLine) {f:String}{a:Addr}{vs:List V}{us:List Value}{s:Shared}{Q:V→Prop}{RR:Result→Shared→Prop} (hz:∀b,¬W.scr b) (hs:s=W.s₀) (hb:s.heap=W.base)
  (eg:T.mg (Str.ofString f)=some (.ref a)) (r:As W s.heap vs us) (w:Aj defs anc (n+1) f vs (fun v ξ=>Q v) (fun ξ ξ=>False) (fun ξ=>none))
  (hR:∀v u h tk,Q v→Rep W h v u→W.base.StaysIn h→RR (.ok (.ret u)) { W.s₀ with heap:=h,toks:=tk }) :
  codeAny (model W.prog W.w) A (.call (.ref a) ⟨us,[]⟩) RR s:=by
 ·obtain⟨d,hf,hlen,w⟩:=J5 w
  obtain⟨a',o,fd,body,eg',FO⟩:=D f d hf
  rw[eg] at eg';cases eg'
  have hul:us.length=d.params:=by rw[←r.length];exact hlen
  have kb:∀b o,W.base.get? b=some o→s.heap.get? b=some o:=fun b o e=>by rw[hb];exact e
  have hcode:s.heap.CodeRec fd.code fd.qualname:=by rw[hb];exact FO.code
  refine codeAny_call_function (by unfold recursionLimit;exact lB [] [_,_] (.n 0) (.c 1000) [.B (.a (.n 0) (.a (.n 1) (.c 1))) (.c 1000)] [1,1] rfl hdep) (kb _ _ FO.at_) FO.data FO.co FO.gen FO.bodyE hcode (FO.binds us s hul (fun b o e=>kb b o (T.hfrag b o e)) _ _ _ _ ?_)
  rw[FO.clos]
  have hnd:=FR (us:=us) FO.slots FO.str
  refine wpAny_newFunctionEnv_cells FO.kind (fun y hy=>?_) fun env he s' x=>?_
  ·obtain⟨z,hz,ez⟩:∃z∈d.slots.take d.params,Str.ofString z=y.1:=by
    have:y.1∈(d.slots.take d.params).map Str.ofString:=(List.of_mem_zip hy).1
    obtain⟨z,hz,e⟩:=List.mem_map.mp this
    exact⟨z,hz,e⟩
   rw[←ez]
   rcases FO.parK z hz with h | h
   ·exact .inl h
   ·exact .inr ⟨h,AP _ _ _ (.inl (Br h))⟩
  have hloc:env.locals=s.heap.objs.size:=by rw[he];rfl
  have hcel:env.cells=cellsFrom (s.heap.objs.size+1) fd.scope.names []:=by rw[he];rfl
  have hsc:env.scope=fd.scope:=by rw[he];rfl
  have hfr:env.frame=some env.locals:=by rw[he];rfl
  refine⟨(hlim.keeps kb).keeps x.toInCall.keep,codeAny_func ?_⟩
  have FX:FxOk T (Cx.top A (fnK T.gint T.fns T.cls fd.scope d) env) (fnK T.gint T.fns T.cls fd.scope d) false:=by
   refine Of (K':=fnK T.gint T.fns T.cls fd.scope d) hh hA hsc FO.kind rfl rfl rfl rfl (by rw[he];exact FO.glob) (by rw[he];exact FO.bi) hfr (by exact lB [] [_,_,_] (.a (.n 0) (.c 23)) (.n 1) [.B (.a (.a (.n 0) (.m 3 (.a (.n 2) (.c 1)))) (.c 25)) (.n 1)] [1,1] rfl hun) ?_ ?_ x.apart ?_
   ·intro i j y z hi hj e
    have hy:y∈d.slots:=List.mem_of_getElem? hi
    have hz:z∈d.slots:=List.mem_of_getElem? hj
    have:=FO.str y z hy hz e
    subst this
    have hi':d.slots[i]?=some y:=hi
    have hj':d.slots[j]?=some y:=hj
    have hil:i<d.slots.length:=by
     rcases Nat.lt_or_ge i d.slots.length with q | q
     ·exact q
     ·rw[List.getElem?_eq_none q] at hi';cases hi'
    exact (List.getElem?_inj hil FO.slots).mp (hi'.trans hj'.symm)
   ·intro y e
    have e:fd.scope.names.lookup y=some .cell:=by unfold Env.kindOf at e;rw[hsc] at e;exact e
    rw[hcel]
    exact Option.isSome_iff_exists.mp (AP _ _ _ (.inl (Br e)))
   ·intro y b e
    exact Nat.ne_of_gt (x.above y b (mem_of_lookup e))
  have S':Sim W (Cx.top A (fnK T.gint T.fns T.cls fd.scope d) env) (fun ξ ξ=>False) ((vs.map some)++List.replicate (d.slots.length-d.params) none) (fun ξ=>none) s':=by
   refine Sim.intoTop hz hs hb (by rw[hsc,FO.kind];decide) hfr hloc x fun kr i y v hi1 hi2 hi3=>?_
   have hi:i<d.params∧vs[i]?=some v:=by
    by_cases q:i<vs.length
    ·rw[List.getElem?_append_left (by simpa using q),List.getElem?_map] at hi3
     cases z:vs[i]? with
     | none=>rw[z] at hi3;cases hi3
     | some v'=>rw[z] at hi3;cases hi3;exact⟨by exact lB [] [_,_,_] (.n 0) (.n 1) [.E (.n 2) (.n 1),.B (.n 0) (.n 2)] [1,1,1] rfl hlen q,rfl⟩
    ·rw[List.getElem?_append_right (by simpa using q),List.getElem?_replicate] at hi3
     split at hi3 <;> simp at hi3
   obtain⟨u,eu,ru⟩:=r.get hi.2
   have mem:=J6 (us:=us) hi.1 hi2 eu
   have hz:y∈d.slots.take d.params:=List.mem_of_getElem? (i:=i) (by rw[List.getElem?_take_of_lt hi.1];exact hi2)
   have kof:env.kindOf (Str.ofString y)=fd.scope.names.lookup (Str.ofString y):=by unfold Env.kindOf;rw[hsc]
   rcases FO.parK y hz with h | h
   ·exact .loc (by rw[kof];exact h) u (FG hnd (by rw[kof];exact h) (.inl mem)) (ru.mono kr)
   ·obtain⟨cl,ecl⟩:=Option.isSome_iff_exists.mp (AP fd.scope.names (s.heap.objs.size+1) [] (.inl (Br h)))
    have ecl':env.cells.lookup (Str.ofString y)=some cl:=by rw[hcel];exact ecl
    obtain⟨o',e1,e2⟩:=x.cell _ _ ecl'
    rw[FH hnd (by rw[kof,h];simp) (.inl mem)] at e2
    exact .cel (by rw[kof];exact h) cl o' u ecl' e1 e2 (ru.mono kr)
  have O':∀z,GOk (T.z z) ⟨Aj defs anc n,anc⟩ (A.deeper env):=gok hN hanc hlim D n _ (by show A.depth+1+n<1000;exact lB [] [_,_] (.a (.a (.n 0) (.c 1)) (.n 1)) (.c 1000) [.B (.a (.n 0) (.a (.n 1) (.c 1))) (.c 1000)] [1,1] rfl hdep) (by show A.units+3+3*n+25<cLine;exact lB [] [_,_,_] (.a (.a (.a (.n 0) (.c 3)) (.m 3 (.n 1))) (.c 25)) (.n 2) [.B (.a (.a (.n 0) (.m 3 (.a (.n 1) (.c 1)))) (.c 25)) (.n 2)] [1,1] rfl hun)
  have run:=Hf (W:=W) (T:=T) (G:=⟨Aj defs anc n,anc⟩) hanc FO.text W.scr W.fz (Cx.top A (fnK T.gint T.fns T.cls fd.scope d) env) FX ⟨hN,fun ξ=>O'⟩ _ _ _ s' _ (fun v ξ=>Q v) _ S' w
  refine wpAny_mono run (fun fl s₂ h₂=>?_) fun e s₂ h₂=>(FE h₂).elim
  cases fl with
  | next =>
   obtain⟨ρ',H',S₂,q⟩:=h₂
   obtain⟨h,tk,e⟩:=S₂.rest
   subst e
   exact hR .none .none h tk q .none S₂.base
  | ret u =>
   obtain⟨v,ρ',H',S₂,rv,q⟩:=h₂
   obtain⟨h,tk,e⟩:=S₂.rest
   subst e
   exact hR v u h tk q rv S₂.base
  | _=>exact h₂.elim
end
end Mine.Internal
end

section
namespace Mine.Internal
open PySem PySem.W PySem.Calls PyProof.Rows PySem.SeqAt

noncomputable def vInt (v:Value) (k:Int→Bool):Bool:=match v with
 | .int m _=>k m
 | _=>false
theorem Lx {v:Value}{k:Int→Bool} (h:vInt v k=true):∃m t,v=.int m t∧k m=true:=by
 cases v <;> first | exact⟨_,_,rfl,h⟩ | cases h
noncomputable def vStr (v:Value) (k:Str→Bool):Bool:=match v with
 | .str m _=>k m
 | _=>false
theorem Lv {v:Value}{k:Str→Bool} (h:vStr v k=true):∃m t,v=.str m t∧k m=true:=by
 cases v <;> first | exact⟨_,_,rfl,h⟩ | cases h
noncomputable def vRef (v:Value) (k:Addr→Bool):Bool:=match v with
 | .ref a=>k a
 | _=>false
theorem Lw {v:Value}{k:Addr→Bool} (h:vRef v k=true):∃a,v=.ref a∧k a=true:=by
 cases v <;> first | exact⟨_,rfl,h⟩ | cases h
noncomputable def oB {α:Type} (o:Option α) (k:α→Bool):Bool:=Option.casesOn (motive:=fun ξ=>Bool) o false k
theorem EP {α:Type}{o:Option α}{k:α→Bool} (h:oB o k=true):∃a,o=some a∧k a=true:=by
 cases o with
 | none=>cases h
 | some a=>exact⟨a,rfl,h⟩
noncomputable def dFd (d:Data):Option FuncData:=match d with
 | .func fd=>some fd
 | _=>none
noncomputable def dFl (d:Data):Option (Array Value):=match d with
 | .fields vs=>some vs
 | _=>none
theorem Kj {d:Data}{fd:FuncData} (h:dFd d=some fd):d=.func fd:=by cases d <;> cases h;rfl
theorem NQ {d:Data}{vs:Array Value} (h:dFl d=some vs):d=.fields vs:=by cases d <;> cases h;rfl
noncomputable def Ms (K:Frag) (y:String×Int):Bool:=oB (nsIn K mainGlobals (Str.ofString y.1)) fun v=>oB v fun v=>vInt v fun m=>m == y.2
noncomputable def fnOk (K:Frag) (y:String×Addr):Bool:=decide (nsIn K mainGlobals (Str.ofString y.1)=some (some (.ref y.2))) && oB (K.lookup y.2) fun o=>(dFd o.data).isSome
noncomputable def Og:List Value:=[.type "ValueError",.type "Exception",.type "BaseException",.type "object"]
noncomputable def clOk (K:Frag) (y:String×Addr):Bool:=decide (nsIn K mainGlobals (Str.ofString y.1)=some (some (.ref y.2))) && excIn K y.2 Og "ValueError.__new__"
noncomputable def Jx (K:Frag) (x:String):Bool:=decide (nsIn K mainGlobals (Str.ofString x)=some none)
noncomputable def HN:List String:=["len", "min", "max", "abs", "sum", "sorted", "list", "int", "bool", "tuple", "ValueError", "isinstance", "range", "enumerate", "zip"]
noncomputable def Mn (x:Option Bool) (b:Bool):Bool:=decide (x=some b)
theorem G7 {x:Option Bool}{b:Bool} (h:Mn x b=true):x=some b:=of_decide_eq_true h
noncomputable def tyOk (K:Frag):Bool:=["NoneType", "bool", "int", "str", "tuple", "list", "dict"].all fun t=>["int", "bool", "list", "tuple"].all fun n=>Mn (kitOne K (.type t) (.type n)) (Ff t n)
noncomputable def IL (K:Frag) (anc:String→List String) (cls:List (String×Addr)) (d:String×Addr):Bool :=
 Mn (kitOne K (.ref d.2) (.type "ValueError")) true && cls.all fun c=>Mn (kitOne K (.ref d.2) (.ref c.2)) ((anc d.1).contains c.1) && Mn (subIn K (.ref d.2) (.ref c.2)) ((anc d.1).contains c.1)

theorem Dx {α:Type}{l:List (String×α)}{x:String}{a:α} (h:l.lookup x=some a):(x,a)∈l:=by
 induction l with
 | nil=>cases h
 | cons p r ih =>
  obtain⟨k,v⟩:=p
  rw[List.lookup_cons] at h
  split at h
  ·rename_i e;rw[beq_iff_eq.mp e];cases h;exact .head _
  ·exact .tail _ (ih h)
theorem Di {K:Frag}{h:Heap}{mg:Str→Option Value} (X:K.In h) (G:h.Ns mainGlobals mg) {x:String} (ok:Jx K x=true):mg (Str.ofString x)=none:=by
 exact mg_none_of X G (of_decide_eq_true ok)

theorem lk_ex {α:Type}{l:List (String×α)}{y:String×α}{f:String} (hy:y∈l) (e0:y.1=f):∃C,l.lookup f=some C:=by
 induction l with
 | nil=>cases hy
 | cons z r ih =>
  obtain⟨k,v⟩:=z
  rw[List.lookup_cons]
  by_cases q:(f == k)=true
  ·rw[q];exact⟨_,rfl⟩
  ·rw[Bool.not_eq_true] at q
   rw[q]
   rcases List.mem_cons.mp hy with rfl | hy'
   ·dsimp only at e0;rw[e0] at q;simp at q
   ·exact ih hy'
set_option tactic.hygienic true in
noncomputable def mkTx (W:Wd) {p:Program}{loose:List Str}{mean:ExcName→Option Value}{mg mb:Str→Option Value} (T:Top p loose mean mg mb W.base) (K:Frag) (X:K.In W.base) (gint:List (String×Int)) (fns:List (String×Addr)) (cls:List (String×Addr)) (anc:String→List String)
  (hW:W.cls=fun c=>cls.lookup c) (c1:gint.all (Ms K)=true) (c2:fns.all (fnOk K)=true) (c3:cls.all (clOk K)=true) (c4:HN.all (Jx K)=true) (c5:tyOk K=true) (c6:cls.all (IL K anc cls)=true) (c7:∀d∈cls,ExcCls K d.2):Tx W where
 G:=mainGlobals
 B:=builtinsNs
 mg:=mg
 mb:=mb
 hG:=T.g
 hB:=T.b
 mods:=by obtain⟨mc,⟨o,es,ep,e,_⟩,_⟩:=T.nodigits;rw[e];rfl
 gint:=gint
 hgint:=fun x n h=>by
  have:=List.all_eq_true.mp c1 _ (Dx h)
  obtain⟨v,e,this⟩:=EP this
  obtain⟨v,rfl,this⟩:=EP this
  obtain⟨m,t,rfl,this⟩:=Lx this
  rw[beq_iff_eq.mp this] at e
  exact⟨t,mg_of X T.g e⟩
 fns:=fns.map (·.1)
 hfns:=fun f h=>by
  have h:f∈fns.map (·.1):=List.contains_iff_mem.mp h
  obtain⟨y,hy,rfl⟩:=List.mem_map.mp h
  have:=List.all_eq_true.mp c2 y hy
  obtain⟨o,e2,h2⟩:=EP (an this).2
  obtain⟨fd,h2⟩:=Option.isSome_iff_exists.mp h2
  exact⟨y.2,o,fd,mg_of X T.g (of_decide_eq_true (an this).1),X _ _ e2,Kj h2⟩
 cls:=cls.map (·.1)
 frag:=K
 hfrag:=X
 anc:=anc
 kty:=fun t ht n hn=>G7 (List.all_eq_true.mp (List.all_eq_true.mp c5 t ht) n hn)
 kown:=fun d D c C hd hc=>by
  rw[hW] at hd hc
  have:=List.all_eq_true.mp c6 _ (Dx hd)
  unfold IL at this
  rw[Bool.and_eq_true] at this
  have:=List.all_eq_true.mp this.2 _ (Dx hc)
  rw[Bool.and_eq_true] at this
  exact G7 this.1
 kval:=fun d D hd=>by
  rw[hW] at hd
  have:=List.all_eq_true.mp c6 _ (Dx hd)
  unfold IL at this
  rw[Bool.and_eq_true] at this
  exact G7 this.1
 kcl:=fun d D hd=>by rw[hW] at hd;exact c7 _ (Dx hd)
 ksub:=fun d D c C hd hc=>by
  rw[hW] at hd hc
  have:=List.all_eq_true.mp c6 _ (Dx hd)
  unfold IL at this
  rw[Bool.and_eq_true] at this
  have:=List.all_eq_true.mp this.2 _ (Dx hc)
  rw[Bool.and_eq_true] at this
  exact G7 this.2
 own:=fun f h=>by
  have h:f∈cls.map (·.1):=List.contains_iff_mem.mp h
  obtain⟨y,hy,e0⟩:=List.mem_map.mp h
  have:∃C,cls.lookup f=some C:=lk_ex hy e0
  obtain⟨C,hC⟩:=this
  refine⟨C,by rw[hW];exact hC,?_⟩
  have:=List.all_eq_true.mp c3 _ (Dx hC)
  exact own_of_in X (topRead_of T) (of_decide_eq_true (an this).1) (an this).2
 cns:=fun c n h=>by
  have N:∀x∈HN,mg (Str.ofString x)=none:=fun x hx=>Di X T.g (List.all_eq_true.mp c4 x hx)
  cases c <;> simp only[ET,Option.some.injEq,reduceCtorEq] at h <;> subst h <;> refine⟨N _ (by decide),?_⟩ <;> rw[T.builtins _ (by decide +kernel)] <;> decide +kernel
 bfs:=fun f=>by
  have N:∀x∈HN,mg (Str.ofString x)=none:=fun x hx=>Di X T.g (List.all_eq_true.mp c4 x hx)
  cases f <;> simp only[Dg,Li] <;> refine⟨N _ (by decide),?_⟩ <;> rw[T.builtins _ (by decide +kernel)] <;> decide +kernel
 isi:=⟨Di X T.g (List.all_eq_true.mp c4 "isinstance" (by decide)),by rw[T.builtins _ (by decide +kernel)];decide +kernel⟩
 rng:=⟨Di X T.g (List.all_eq_true.mp c4 "range" (by decide)),by rw[T.builtins _ (by decide +kernel)];decide +kernel⟩
 enm:=⟨Di X T.g (List.all_eq_true.mp c4 "enumerate" (by decide)),by rw[T.builtins _ (by decide +kernel)];decide +kernel⟩
 zip:=⟨Di X T.g (List.all_eq_true.mp c4 "zip" (by decide)),by rw[T.builtins _ (by decide +kernel)];decide +kernel⟩

noncomputable def MG (K:Frag) (cd:Value) (q:Str):Bool:=vRef cd fun c=>oB (K.lookup c) fun o=>oB (dFl o.data) fun vs=>oB vs[1]? fun v=>vStr v fun q'=>q' == q
set_option tactic.hygienic true in
theorem JR {K:Frag}{h:Heap}{cd:Value}{q:Str} (X:K.In h) (e:MG K cd q=true):h.CodeRec cd q:=by
 obtain⟨c,rfl,e⟩:=Lw e
 obtain⟨o,e2,e⟩:=EP e
 obtain⟨vs,e3,e⟩:=EP e
 obtain⟨v,e4,e⟩:=EP e
 obtain⟨q',t,rfl,e⟩:=Lv e
 rw[beq_iff_eq.mp e] at e4
 exact⟨_,_,vs,t,rfl,X _ _ e2,NQ e3,e4⟩
noncomputable def NI (K:Frag) (d:Fn) (fd:FuncData):Bool :=
 !fd.scope.isCoroutine && !fd.scope.isGenerator && MG K fd.code fd.qualname && fd.closure.isEmpty && fd.globals == mainGlobals && fd.builtins == builtinsNs && fd.scope.kind == .function &&
  decide d.slots.Nodup && d.slots.all (fun x=>d.slots.all fun y=>!(Str.ofString x == Str.ofString y) || x == y) && decide (d.params≤d.slots.length) &&
  (d.slots.take d.params).all (fun x=>match fd.scope.names.lookup (Str.ofString x) with | some .local=>true | some .cell=>true | _=>false)
theorem mkFn {W:Wd}{T:Tx W}{d:Fn}{a:Addr}{o:Obj}{fd:FuncData}{body:List Stmt} (hG:T.G=mainGlobals) (hB:T.B=builtinsNs) (at_:T.frag.lookup a=some o) (data:o.data=.func fd) (ok:NI T.frag d fd=true) (bodyE:fd.body=.stmts body)
  (binds:∀(us:List Value) (s:Shared),us.length=d.params→T.frag.In s.heap→BindsTo s fd ⟨us,[]⟩ (DI d us)) (text:Txt (fnK T.gint T.fns T.cls fd.scope d) d.body body):FnOk T d a o fd body:=by
 unfold NI at ok
 simp only[Bool.and_eq_true,Bool.not_eq_true',beq_iff_eq,decide_eq_true_eq,List.isEmpty_iff] at ok
 obtain⟨⟨⟨⟨⟨⟨⟨⟨⟨⟨k1,k2⟩,k3⟩,k4⟩,k5⟩,k6⟩,k7⟩,k8⟩,k9⟩,k10⟩,k11⟩:=ok
 refine⟨T.hfrag _ _ at_,data,k1,k2,bodyE,JR T.hfrag k3,k4,k5.trans hG.symm,k6.trans hB.symm,k7,k8,fun x y hx hy e=>?_,k10,fun x hx=>?_,binds,text⟩
 ·have:=List.all_eq_true.mp (List.all_eq_true.mp k9 x hx) y hy
  rw[e] at this;simpa using this
 ·have:=List.all_eq_true.mp k11 x hx
  split at this
  ·exact .inl (by assumption)
  ·exact .inr (by assumption)
  ·cases this
noncomputable def bSt (b:FuncBody):Option (List Stmt):=match b with
 | .stmts l=>some l
 | _=>none
theorem NX {b:FuncBody}{l:List Stmt} (h:bSt b=some l):b=.stmts l:=by cases b <;> cases h;rfl
noncomputable def H6 (K:Frag) (a:Addr):FuncData:=((K.lookup a).bind fun o=>dFd o.data).getD default
noncomputable def JV (K:Frag) (a:Addr):List Stmt:=(bSt (H6 K a).body).getD []
noncomputable def fnB (K:Frag) (d:Fn) (a:Addr):Bool:=(oB (K.lookup a) fun o=>(dFd o.data).isSome) && ((bSt (H6 K a).body).isSome && NI K d (H6 K a))
theorem Mu {K:Frag}{d:Fn}{a:Addr} (h:fnB K d a=true):∃o,K.lookup a=some o∧o.data=.func (H6 K a)∧(H6 K a).body=.stmts (JV K a)∧NI K d (H6 K a)=true:=by
 obtain⟨o,e,h1⟩:=EP (an h).1
 obtain⟨fd,h1⟩:=Option.isSome_iff_exists.mp h1
 obtain⟨l,h2⟩:=Option.isSome_iff_exists.mp (an (an h).2).1
 have e1:H6 K a=fd:=by unfold H6;rw[e];show (dFd o.data).getD default=fd;rw[h1];rfl
 refine⟨o,e,by rw[e1];exact Kj h1,?_,(an (an h).2).2⟩
 unfold JV;rw[h2];exact NX h2
noncomputable def allU (n:Nat):(List Value→Prop)→Prop:=Nat.rec (motive:=fun ξ=>(List Value→Prop)→Prop) (fun P=>P []) (fun ξ r P=>∀u,r fun us=>P (u :: us)) n
theorem NZ {n:Nat}:∀ {P:List Value→Prop}{us:List Value},allU n P→us.length=n→P us:=by
 induction n with
 | zero=>intro P us h e;rw[List.eq_nil_of_length_eq_zero e];exact h
 | succ n ih =>
  intro P us h e
  cases us with
  | nil=>cases e
  | cons u us=>exact ih (P:=fun us=>P (u :: us)) (h u) (Nat.succ.inj e)
noncomputable def FnIn (K:Frag) (gint:List (String×Int)) (fns cls:List String) (d:Fn) (a:Addr):Prop:=fnB K d a=true∧(∀S,allU d.params fun us=>peek K S (bindArgs (H6 K a) ⟨us,[]⟩)=some (DI d us))∧Txt (fnK gint fns cls (H6 K a).scope d) d.body (JV K a)
noncomputable def Jc (K:Frag) (gint:List (String×Int)) (fns cls:List String):List (String×Fn)→List (String×Addr)→Prop
 | [],[]=>True
 | (x,d) :: r,(y,a) :: q=>x=y∧FnIn K gint fns cls d a∧Jc K gint fns cls r q
 | _,_=>False
theorem Jc.mem {K:Frag}{gint:List (String×Int)}{fns cls:List String}{f:String}{d:Fn}:∀ {l:List (String×Fn)}{q:List (String×Addr)},Jc K gint fns cls l q→(f,d)∈l→∃a,(f,a)∈q∧FnIn K gint fns cls d a
 | [],[],_,h=>by cases h
 | (x,d') :: r,(y,a) :: q,⟨e,hf,hr⟩,h=>by
  rcases List.mem_cons.mp h with z | z
  ·cases z;subst e;exact⟨a,.head _,hf⟩
  ·obtain⟨b,hb,hf'⟩:=Jc.mem hr z
   exact⟨b,.tail _ hb,hf'⟩
 | _ :: _,[],h,_=>h.elim
theorem run_law {prog:Program}{w:World}{s:Shared}{p:Program}{loose:List Str}{mean:ExcName→Option Value}{mg mb:Str→Option Value} (T:Top p loose mean mg mb s.heap) (K:Frag) (X:K.In s.heap) (gint:List (String×Int)) (fns:List (String×Addr)) (cls:List (String×Addr)) (anc:String→List String) (tab:List (String×Fn))
  (c1:gint.all (Ms K)=true) (c2:fns.all (fnOk K)=true) (c3:cls.all (clOk K)=true) (c4:HN.all (Jx K)=true) (c5:tyOk K=true) (c6:cls.all (IL K anc cls)=true) (c7:∀d∈cls,ExcCls K d.2) (hfn:Jc K gint (fns.map (·.1)) (cls.map (·.1)) tab fns)
  {n:Nat}{A:Around} (hh:A.handled=none) (hA:A.frames=some []) (hdep:A.depth+(n+1)<1000) (hun:A.units+3*(n+1)+25<cLine) {a l:Addr}{items:Array Value}{xs:List Int} (hlaw:mg (Str.ofString "law")=some (.ref a)) (hl:s.heap.IsList l items) (hx:xs.length≤1000) (hi:EH xs items.toList)
  (spec:Aj (fun f=>tab.lookup f) anc (n+1) "law" [.ro xs] (fun v ξ=>v=.bool true) (fun ξ ξ=>False) (fun ξ=>none)) {RR:Result→Shared→Prop} (hR:∀h tk,s.heap.StaysIn h→RR (.ok (.ret (.bool true))) { s with heap:=h,toks:=tk }) :
  codeAny (model prog w) A (.call (.ref a) ⟨[.ref l],[]⟩) RR s:=by
 let W:Wd:=⟨prog,w,s.heap,s,fun c=>cls.lookup c,fun ξ=>False,nf⟩
 let TX:Tx W:=mkTx W T K X gint fns cls anc rfl c1 c2 c3 c4 c5 c6 c7
 refine Ly (W:=W) (T:=TX) (defs:=fun f=>tab.lookup f) (anc:=anc) rfl rfl T.nolimit (fun f d hf=>?_) hh hA hdep hun (f := "law") (Q:=fun v=>v=.bool true) (fun ξ q=>q) rfl rfl hlaw (.cons (.ro hl hx hi) .nil) spec fun v u h tk hv hr hs=>?_
 ·obtain⟨b,hb,e3,e5,e6⟩:=hfn.mem (Dx hf)
  obtain⟨o,e1,e2,e4,e3⟩:=Mu e3
  have:=List.all_eq_true.mp c2 _ hb
  exact⟨b,o,_,_,mg_of X T.g (of_decide_eq_true (an this).1),mkFn (T:=TX) rfl rfl e1 e2 e3 e4 (fun us s hu hX=>kp_binds hX fun S=>NZ (e5 S) hu) e6⟩
 ·subst hv
  cases hr
  exact hR h tk hs
end Mine.Internal
end

section
namespace Mine.Internal
open PySem (Str Addr)

noncomputable def Ext (H H':Hp):Prop:=∀a o,H a=some o→H' a=some o
theorem Ext.refl (H:Hp):Ext H H:=fun ξ ξ h=>h
theorem Ext.trans {H H₁ H₂:Hp} (a:Ext H H₁) (b:Ext H₁ H₂):Ext H H₂:=fun x o h=>b x o (a x o h)
theorem Hp.set_self (H:Hp) (a:Addr) (o:Ob):(H.set a o) a=some o:=by simp [Hp.set]
theorem Hp.set_ne {H:Hp}{a b:Addr} (o:Ob) (h:b≠a):(H.set a o) b=H b:=by simp [Hp.set,h]
theorem Ext.new {H:Hp}{a:Addr} (o:Ob) (h:H a=none):Ext H (H.set a o):=fun b o' hb=>by
 rw[Hp.set_ne o (by rintro rfl;rw[h] at hb;cases hb)];exact hb
theorem AJ {H:Hp}{a b:Addr}{o:Ob} (hb:H b=some o) (ha:H a=none):b≠a:=by rintro rfl;rw[ha] at hb;cases hb
theorem Ext.no {H H':Hp}{a:Addr} (e:Ext H H') (h:H' a=none):H a=none:=by
 cases q:H a with
 | none=>rfl
 | some o=>rw[e a o q] at h;cases h
theorem Hp.set_set (H:Hp) (a:Addr) (o o':Ob):(H.set a o).set a o'=H.set a o':=by
 funext b;unfold Hp.set;split <;> rfl
theorem Ext.setNew {H H':Hp}{a:Addr} (o:Ob) (e:Ext H H') (h:H a=none):Ext H (H'.set a o):=fun b o' hb=>by
 rw[Hp.set_ne o (AJ hb h)];exact e b o' hb

theorem Bz {k n:Nat} (h:k<n):place (k:Int) n=some k:=by
 unfold place;rw[if_pos (Int.natCast_nonneg k)];simp [h]
theorem II {i:Int}{n:Nat} (h0:0≤i) (h:i<n):place i n=some i.toNat:=by
 unfold place;rw[if_pos h0,if_pos (by exact lB [_] [_,_] (.n 0) (.n 1) [.b (.v 0) (.t (.n 1)),.e (.t (.n 0)) (.v 0)] [1,1,1] rfl h (tnE (a:=i) (h0)))]
theorem EO {n:Nat} (h:0<n):place (-1) n=some (n-1):=by
 unfold place;rw[if_neg (by decide),if_pos (by exact la [] [_] (.c 0) (.a (.c (-1)) (.t (.n 0))) [.B (.c 0) (.n 0)] [1,1] rfl h)];congr 1;exact lQ [] [_,_,_] (.n 0) (.n 1) [.e (.t (.n 0)) (.a (.c (-1)) (.t (.n 2))),.E (.a (.n 1) (.c 1)) (.n 2)] [1,-1,1] [1,1,-1] rfl (tnE (a:=-1+(↑n:Int)) (la [] [_] (.c 0) (.a (.c (-1)) (.t (.n 0))) [.B (.c 0) (.n 0)] [1,1] rfl h)) (nsE (a:=n) (b:=1) (lA [] [_] (.c 1) (.n 0) [.B (.c 0) (.n 0)] [1,1] rfl h))

theorem MA {α:Type}{xs:List α}{i:Int}{P:α→Prop} (hi:Ix i) (h0:0≤i) (h:i<xs.length) (hp:P (xs[i.toNat]'(by exact lB [_] [_,_] (.n 0) (.n 1) [.b (.v 0) (.t (.n 1)),.e (.t (.n 0)) (.v 0)] [1,1,1] rfl h (tnE (a:=i) (h0))))) :
  ∃j z,Ix i∧place i xs.length=some j∧xs[j]?=some z∧P z :=
 ⟨i.toNat,_,hi,II h0 h,List.getElem?_eq_getElem (by exact lB [_] [_,_] (.n 0) (.n 1) [.b (.v 0) (.t (.n 1)),.e (.t (.n 0)) (.v 0)] [1,1,1] rfl h (tnE (a:=i) (h0))),hp⟩
theorem FD {t:Tg}{w:List (Addr×Ob)}{body:Loc→(Loc→Hp→Prop)→Hp→Prop}{N:Loc→Hp→Prop} (I:List It→List It→Loc→Hp→Prop)
  (hw:∀done rest ρ H,I done rest ρ H→okH w H)
  (hN:∀done ρ H,I done [] ρ H→N ρ H)
  (step:∀done it rest ρ H K,I done (it :: rest) ρ H→(∀ρ' H',I (done++[it]) rest ρ' H'→K ρ' H')→∃ρ',Bt t it ρ=some ρ'∧body ρ' K H) :
  ∀(rest done:List It) (ρ:Loc) (H:Hp),I done rest ρ H→Fh t w body rest ρ N H
 | [],done,ρ,H,h=>⟨hw _ _ _ _ h,hN _ _ _ h⟩
 | it :: rest,done,ρ,H,h=>⟨hw _ _ _ _ h,step done it rest ρ H _ h fun ρ' H' h'=>FD I hw hN step rest (done++[it]) ρ' H' h'⟩

theorem MW {G:Gl}{hd:Bool}{c:Ex}{b:Sts}{N:Loc→Hp→Prop}{R:V→Hp→Prop}{X:String→Loc→Hp→Prop} (I:Nat→Loc→Hp→Prop)
  (step:∀n ρ H K,I n ρ H→(∀m ρ' H',m<n→I m ρ' H'→K ρ' H')→wpE G hd c ρ (asB fun r H₁=>if r then AH G hd b ρ K R X H₁ else N ρ H₁) (fun c H₁=>X c ρ H₁) H)
  {n:Nat}{ρ:Loc}{H:Hp} (h:I n ρ H):wpS G hd (.whl c b) ρ N R X H:=by
 rw[Jq]
 intro P hP
 induction n using Nat.strongRecOn generalizing ρ H with
 | ind n ih=>exact hP ρ H (step n ρ H P h fun m ρ' H' hm h'=>ih m hm h')

noncomputable def pv (p:Int×Int):V:=.tup [.int p.1,.int p.2]
noncomputable def lv (ps:List (Int×Int)):List V:=ps.map pv
@[simp] theorem lv_length (ps:List (Int×Int)):(lv ps).length=ps.length:=by simp [lv]
theorem CA (a b:List (Int×Int)):lv (a++b)=lv a++lv b:=by simp [lv]

section
variable {Q:V→Hp→Prop}{B:Bool→Hp→Prop}{H:Hp}{a b n i k:Int}{xs ys:List V}{p q:Addr}{x y:V}{G:Gl}{hd:Bool}{ρ:Loc}{X:String→Hp→Prop}
theorem Gv {α:Type}{P:α→Prop}:∀x∈([]:List α),P x:=fun ξ h=>absurd h List.not_mem_nil
theorem exL {o:Option Ob}{xs:List V} (h:o=some (.list xs)) (K:List V→Prop):(∃ys,o=some (.list ys)∧K ys)=K xs:=propext (by
 refine⟨fun h'=>?_,fun k=>⟨xs,h,k⟩⟩
 obtain⟨ys,e,k⟩:=h'
 cases h.symm.trans e
 exact k)
theorem exB {o:Option Bool}{b:Bool} (h:o=some b) (K:Bool→Prop):(∃c,o=some c∧K c)=K b:=propext (by
 refine⟨fun h'=>?_,fun k=>⟨b,h,k⟩⟩
 obtain⟨ys,e,k⟩:=h'
 cases h.symm.trans e
 exact k)
theorem obL {α:Sort 1}{o:Option Ob}{d:α}{K:List V→α}{D:List (Int×V)→α}{xs:List V} (h:o=some (.list xs)):ob1 o d K D=K xs:=by rw[h];rfl
theorem obD {α:Sort 1}{o:Option Ob}{d:α}{K:List V→α}{D:List (Int×V)→α}{xs:List (Int×V)} (h:o=some (.dict xs)):ob1 o d K D=D xs:=by rw[h];rfl
theorem exI {i:Int}{xs:List V}{j:Nat}{z:V}{K:V→Prop} (hi:Ix i) (h1:place i xs.length=some j) (h2:xs[j]?=some z):(∃j z,Ix i∧place i xs.length=some j∧xs[j]?=some z∧K z)=K z:=propext (by
 refine⟨fun h'=>?_,fun k=>⟨j,z,hi,h1,h2,k⟩⟩
 obtain⟨j',z',_,e,e',k⟩:=h'
 cases h1.symm.trans e
 cases h2.symm.trans e'
 exact k)
theorem A0 {v:V}{K:V→Prop}:Iq (some (some v)) K=K v:=rfl
theorem CW {K:Int→Prop}:B1 (.int a) K=K a:=rfl
theorem k_ref {K:Addr→Prop}:DW (.ref p) K=K p:=rfl
theorem OS {A:Prop}{K:Nat→Prop}:hW none A K=A:=rfl
theorem Ao {defs:String→Option Fn}{anc:String→List String}{n:Nat}{f:String}{vs:List V}{d:Fn} (h:defs f=some d) (hl:vs.length=d.params)
  (w:AH ⟨Aj defs anc n,anc⟩ false d.body ((vs.map some)++List.replicate (d.slots.length-d.params) none) (fun ξ H₁=>Q .none H₁) Q (fun c ξ H₁=>X c H₁) H):Aj defs anc (n+1) f vs Q X H:=by
 show Option.casesOn (motive:=fun ξ=>Prop) (defs f) False _
 rw[h];exact⟨hl,w⟩
inductive Same (defs:String→Option Fn) (f:String) (d:Fn):Prop
 | mk (nf:Nat) (slots:List String) (e:defs f=some ⟨d.params,nf,slots,d.body⟩) (l:slots.length=d.slots.length)
theorem G8 {defs:String→Option Fn}{anc:String→List String}{n:Nat}{f:String}{vs:List V}{d:Fn} (h:Same defs f d) (hl:vs.length=d.params)
  (w:AH ⟨Aj defs anc n,anc⟩ false d.body ((vs.map some)++List.replicate (d.slots.length-d.params) none) (fun ξ H₁=>Q .none H₁) Q (fun c ξ H₁=>X c H₁) H):Aj defs anc (n+1) f vs Q X H:=by
 cases h with
 | mk nf slots e l=>exact Ao e hl (by rw[←l] at w;exact w)
theorem Dk {anc:String→List String} (h:H p=some (.list xs)):Fx anc H (.ref p) [.list]=some true:=by
 show oor (ob1 (H p) none (fun ξ=>some true) fun ξ=>some false) (some false)=_
 rw[h];rfl
theorem G6 {anc:String→List String}:Fx anc H (.tup xs) [.tuple]=some true:=rfl
theorem AQ:EZ .add (.int a) (.int b) Q H=Q (.int (a+b)) H:=rfl
theorem Be:EZ .sub (.int a) (.int b) Q H=Q (.int (a-b)) H:=rfl
theorem FS:EZ .mul (.int a) (.int b) Q H=((Sm a∨Sm b)∧Q (.int (a*b)) H):=rfl
theorem Bi:EZ .fdiv (.int a) (.int b) Q H=((0<b∧b<1073741824)∧Q (.int (a / b)) H):=rfl
theorem Bu:EZ .mod (.int a) (.int b) Q H=(0<b∧Q (.int (a % b)) H):=rfl
theorem GV:EZ .pow (.int 10) (.int 9) Q H=Q (.int 1000000000) H:=propext ⟨fun h=>h.2,fun h=>⟨by decide,h⟩⟩
theorem P4:EZ .add (.tup xs) (.tup ys) Q H=(xs.length+ys.length≤Lim∧Q (.tup (xs++ys)) H):=rfl
theorem JX:EZ .add (.ref p) (.ref q) Q H=∃xs ys,H p=some (.list xs)∧H q=some (.list ys)∧Bb (xs++ys) Q H:=rfl
theorem P3:EZ .mul (.ref p) (.int n) Q H=∃x,H p=some (.list [x])∧(Ix n∧n≤16777216)∧Bb (List.replicate n.toNat x) Q H:=rfl
theorem EG:BC .lt (.int a) (.int b) B H=B (decide (a<b)) H:=rfl
theorem NT:BC .le (.int a) (.int b) B H=B (decide (a≤b)) H:=rfl
theorem DN:BC .gt (.int a) (.int b) B H=B (decide (b<a)) H:=rfl
theorem c_ge:BC .ge (.int a) (.int b) B H=B (decide (b≤a)) H:=rfl
theorem C7:BC .eq (.int a) (.int b) B H=B (decide (a=b)) H:=exB rfl fun c=>B (c) H
theorem EN:BC .ne (.int a) (.int b) B H=B (!decide (a=b)) H:=exB rfl fun c=>B (!c) H
theorem Ay {s t:Str}:BC .eq (.str s) (.str t) B H=B (decide (s=t)) H:=exB rfl fun c=>B (c) H
theorem MK {s t:Str}:BC .ne (.str s) (.str t) B H=B (!decide (s=t)) H:=exB rfl fun c=>B (!c) H
theorem Ia:BC .is .none .none B H=B true H:=rfl
theorem Ib:BC .is (.int a) .none B H=B false H:=rfl
theorem I9:BC .isNot .none .none B H=B false H:=rfl
theorem G9:BC .isNot (.int a) .none B H=B true H:=rfl
theorem A5 {b:Bool}:asB B (.bool b) H=B b H:=rfl
theorem i_ro {xs:List Int}:Ce (.ro xs) (.int i) Q H=∃j z,Ix i∧place i xs.length=some j∧xs[j]?=some z∧Q (.int z) H:=rfl
theorem Am:Ce (.tup (x :: xs)) (.int 0) Q H=Q x H:=exI ⟨by decide,by decide⟩ (Bz (k:=0) (Nat.zero_lt_succ _)) rfl
theorem AF:Ce (.tup (x :: y :: xs)) (.int 1) Q H=Q y H:=exI ⟨by decide,by decide⟩ (Bz (k:=1) (Nat.succ_lt_succ (Nat.zero_lt_succ _))) rfl
theorem C4 {z:V}:Ce (.tup (x :: y :: z :: xs)) (.int 2) Q H=Q z H:=exI ⟨by decide,by decide⟩ (Bz (k:=2) (Nat.succ_lt_succ (Nat.succ_lt_succ (Nat.zero_lt_succ _)))) rfl
theorem CY {r:Int×Int}:Ce (pv r) (.int 0) Q H=Q (.int r.1) H:=Am
theorem CX {r:Int×Int}:Ce (pv r) (.int 1) Q H=Q (.int r.2) H:=AF
theorem BJ (h:H p=some (.list xs)):Ce (.ref p) (.int i) Q H=∃j z,Ix i∧place i xs.length=some j∧xs[j]?=some z∧Q z H:=obL h
theorem Ct {kvs:List (Int×V)} (h:H p=some (.dict kvs)):Ce (.ref p) (.int i) Q H=∃z,C6 i kvs=some z∧Q z H:=obD h
theorem OT {xs:List Int}:wbc .len [.ro xs] Q H=Q (.int xs.length) H:=rfl
theorem Mv:wbc .len [.tup xs] Q H=Q (.int xs.length) H:=rfl
theorem AO (h:H p=some (.list xs)):wbc .len [.ref p] Q H=Q (.int xs.length) H:=obL h
theorem Mw {kvs:List (Int×V)} (h:H p=some (.dict kvs)):wbc .len [.ref p] Q H=Q (.int kvs.length) H:=obD h
theorem Kf:wbc .min2 [.int a,.int b] Q H=Q (.int (if b<a then b else a)) H:=rfl
theorem O7:wbc .max2 [.int a,.int b] Q H=Q (.int (if b > a then b else a)) H:=rfl
theorem DB (h:H p=some (.list xs)):wbc .list [.ref p] Q H=Bb xs Q H:=exL h fun xs=>Bb xs Q H
theorem HX (h:H p=some (.list xs)):wbc .sorted [.ref p] Q H=(xs.length<64∧((∃is,Da xs=some is∧∀js:List Int,js.Perm is→js.Pairwise (·≤·)→Bb (js.map V.int) Q H)∨(∃ps:List (Int×Int),xs=ps.map Bo∧(ps.map (·.1)).Nodup∧∀qs:List (Int×Int),qs.Perm ps→(qs.map (·.1)).Pairwise (·≤·)→Bb (qs.map Bo) Q H))):=obL h
theorem NJ {kvs:List (Int×V)} (h:H p=some (.dict kvs)):wbc .sorted [.ref p] Q H=(kvs.length<64∧∀js:List Int,js.Perm (kvs.map (·.1))→js.Pairwise (·≤·)→Bb (js.map V.int) Q H):=obD h
theorem Ea {is:List Int} (h:H p=some (.list xs)) (e:Da xs=some is):wbc .sum [.ref p] Q H=Q (.int is.sum) H:=propext (by
 refine⟨fun h'=>?_,fun k=>⟨xs,is,h,e,k⟩⟩
 obtain⟨ys,js,e1,e2,k⟩:=h'
 cases h.symm.trans e1
 cases e.symm.trans e2
 exact k)
theorem My {b:Bool}:wbc .int [.bool b] Q H=Q (.int (if b then 1 else 0)) H:=rfl
theorem Bk (h:H p=some (.list xs)):wmt .append (.ref p) [x] Q H=(xs.length<Lim∧Q .none (H.set p (.list (xs++[x])))):=exL h fun xs=>xs.length<Lim∧Q .none (H.set p (.list (xs++[x])))
theorem Nx (h:H p=some (.list xs)):wmt .clear (.ref p) [] Q H=Q .none (H.set p (.list [])):=exL h fun xs=>Q .none (H.set p (.list []))
theorem KQ (h:H p=some (.list xs)):wmt .reverse (.ref p) [] Q H=Q .none (H.set p (.list xs.reverse)):=exL h fun xs=>Q .none (H.set p (.list xs.reverse))
theorem OK {kvs:List (Int×V)} (h:H p=some (.dict kvs)):wmt .popD (.ref p) [.int i] Q H=∃z,C6 i kvs=some z∧Q z (H.set p (.dict (G0 i kvs))):=propext (by
 refine⟨fun h'=>?_,fun k=>⟨kvs,k.elim fun z k=>⟨z,h,k⟩⟩⟩
 obtain⟨ys,z,e,k⟩:=h'
 cases h.symm.trans e
 exact⟨z,k⟩)
theorem m_pop (h:H p=some (.list (xs++[x]))):wmt .pop (.ref p) [] Q H=Q x (H.set p (.list xs)):=propext (by
 refine⟨fun h'=>?_,fun k=>⟨xs,x,h,k⟩⟩
 obtain⟨ys,y,e,k⟩:=h'
 have e:=Option.some.inj (h.symm.trans e)
 obtain⟨rfl,rfl⟩:=List.append_singleton_inj.mp (congrArg (fun o=>Ob.casesOn (motive:=fun ξ=>List V) o (fun l=>l) fun ξ=>[]) e)
 exact k)
theorem r_L {m:Mt} (h:H p=some (.list xs)):Np m (.ref p) H=(m≠.get∧m≠.popD):=obL h
theorem r_D {m:Mt}{kvs:List (Int×V)} (h:H p=some (.dict kvs)):Np m (.ref p) H=(m=.get∨m=.popD):=obD h
theorem Ka (h:H p=some (.list xs)):wmt .count (.ref p) [x] Q H=∃n,H7 x xs=some n∧Q (.int n) H:=propext (by
 refine⟨fun h'=>?_,fun k=>⟨xs,k.elim fun n k=>⟨n,h,k⟩⟩⟩
 obtain⟨ys,n,e,k⟩:=h'
 cases h.symm.trans e
 exact⟨n,k⟩)
theorem MM {kvs:List (Int×V)} (h:H p=some (.dict kvs)):BC .isIn (.int i) (.ref p) B H=B (C6 i kvs).isSome H:=obD h
theorem CR {kvs:List (Int×V)} (h:H p=some (.dict kvs)):BC .notIn (.int i) (.ref p) B H=B (C6 i kvs).isNone H:=obD h
end

theorem I3 {α:Type}{xs:List α}{i:Int}{P:α→Prop} (hi:Ix i) (h0:0≤i) (h:i<xs.length) (hp:∀z∈xs,P z) :
  ∃j z,Ix i∧place i xs.length=some j∧xs[j]?=some z∧P z:=MA hi h0 h (hp _ (List.getElem_mem _))
theorem IS {A B:Prop} (h:B):if false=true then A else B:=h
theorem Mm {A B:Prop} (h:A):if true=true then A else B:=h
theorem FJ {A B:Prop} (h:A):if (!true)=false then A else B:=h
theorem FK {A B:Prop} (h:B):if (!true)=true then A else B:=h
theorem O9 {Q:Bool→Hp→Prop}{b:Bool}{H:Hp} (h:Q b H):asB Q (.bool b) H:=h
theorem AY {c A B:Prop} [i:Decidable c] (hc:c) (h:A):if c then A else B:=(if_pos hc).mpr h
theorem AK {c A B:Prop} [i:Decidable c] (hc:¬c) (h:B):if c then A else B:=(if_neg hc).mpr h
theorem AA {c:Prop} [Decidable c] {A B:Prop} (h1:c→A) (h2:¬c→B):if c then A else B:=by split <;> simp_all

noncomputable def keys (kvs:List (Int×V)):List Int:=kvs.map (·.1)
theorem IR (kvs:List (Int×V)):(keys kvs).length=kvs.length:=by simp [keys]
theorem Dd {k:Int}:∀ {kvs:List (Int×V)},(C6 k kvs).isSome=true ↔ k∈keys kvs
 | []=>by simp [C6,keys]
 | (j,v) :: r=>by
  have ih:=Dd (k:=k) (kvs:=r)
  simp only[C6,keys,List.map_cons,List.mem_cons] at ih ⊢
  split
  ·rename_i e;simp [e]
  ·rename_i e;rw[ih];exact⟨.inr,fun h=>h.resolve_left fun q=>e q.symm⟩
theorem Fj {k:Int}{v:V}:∀ {kvs:List (Int×V)},k∉keys kvs→EF k v kvs=kvs++[(k,v)]
 | [],_=>rfl
 | (j,x) :: r,h=>by
  simp only[keys,List.map_cons,List.mem_cons,not_or] at h
  rw[EF,if_neg (fun e=>h.1 e.symm),Fj (kvs:=r) h.2];rfl
theorem J2 {k:Int}{v:V}:∀ {kvs:List (Int×V)},(keys kvs).Nodup→(k,v)∈kvs→C6 k kvs=some v
 | (j,x) :: r,hn,hm=>by
  simp only[keys,List.map_cons,List.nodup_cons] at hn
  rcases List.mem_cons.mp hm with e | hm
  ·cases e;simp [C6]
  ·have:k∈r.map (·.1):=List.mem_map.mpr ⟨_,hm,rfl⟩
   rw[C6,if_neg (by rintro rfl;exact hn.1 this)]
   exact J2 (kvs:=r) hn.2 hm

theorem IN {α:Type} [DecidableEq α]:∀ {l ks:List α},l.Nodup→(∀x∈l,x∈ks)→l.length≤ks.length
 | [],_,_,_=>by simp
 | x :: r,ks,hn,hs=>by
  have hx:=hs x (.head _)
  have hn:=List.nodup_cons.mp hn
  have ih:=IN (l:=r) (ks:=ks.erase x) hn.2 fun y hy=>by
   rw[List.mem_erase_of_ne (by rintro rfl;exact hn.1 hy)];exact hs y (.tail _ hy)
  rw[List.length_erase_of_mem hx] at ih
  have:0<ks.length:=List.length_pos_of_mem hx
  simp only[List.length_cons];exact lA [] [_,_,_] (.a (.n 0) (.c 1)) (.n 1) [.L (.n 0) (.n 2),.E (.a (.n 2) (.c 1)) (.n 1)] [1,1,1] rfl ih (nsE (a:=ks.length) (b:=1) (lA [] [_] (.c 1) (.n 0) [.B (.c 0) (.n 0)] [1,1] rfl this))
theorem JF (M:Nat) (hM:0<M) {ks:List Int} (h:ks.length<M) (v:Int):∃n:Nat,((v-1+n) % (M:Int)+1)∉ks:=by
 refine Classical.byContradiction fun hc=>?_
 have hc:∀n:Nat,((v-1+n) % (M:Int)+1)∈ks:=fun n=>Classical.byContradiction fun q=>hc ⟨n,q⟩
 have:=IN (l:=(List.range M).map fun n:Nat=>((v-1+n) % (M:Int)+1)) (ks:=ks) ?_ (by
  intro x hx;obtain⟨n,_,rfl⟩:=List.mem_map.mp hx;exact hc n)
 ·simp at this;exact lf [] [_,_] [.B (.n 0) (.n 1),.L (.n 1) (.n 0)] [1,1] rfl h this
 ·rw[List.nodup_iff_pairwise_ne,List.pairwise_map]
  have hr:=List.nodup_range (n:=M)
  rw[List.nodup_iff_pairwise_ne] at hr
  refine hr.imp_of_mem fun {a b} ha hb hne e=>hne ?_
  have ha:=List.mem_range.mp ha;have hb:=List.mem_range.mp hb
  have e:(v-1+a) % (M:Int)=(v-1+b) % (M:Int):=by exact lq [_,_] [] (.v 0) (.v 1) [.e (.a (.v 0) (.c 1)) (.a (.v 1) (.c 1))] [1,-1] [1,1] rfl e
  have d:=Int.emod_emod_of_dvd (v-1+a) (Int.dvd_refl (M:Int))
  have q:(M:Int) ∣ ((v-1+a)-(v-1+b)):=by
   have h1:(M:Int) ∣ (v-1+a)-(v-1+b) % M:=by rw[←e];exact Int.dvd_self_sub_emod
   have h2:(M:Int) ∣ (v-1+b)-(v-1+b) % M:=Int.dvd_self_sub_emod
   have:=Int.dvd_sub h1 h2
   have z:(v-1+(a:Int))-(v-1+b) % M-((v-1+b)-(v-1+b) % M)=(v-1+a)-(v-1+b):=by exact lq [_,_] [_,_] (.s (.s (.a (.s (.v 0) (.c 1)) (.t (.n 0))) (.v 1)) (.s (.a (.s (.v 0) (.c 1)) (.t (.n 1))) (.v 1))) (.s (.a (.s (.v 0) (.c 1)) (.t (.n 0))) (.a (.s (.v 0) (.c 1)) (.t (.n 1)))) [] [1] [1] rfl
   rwa [z] at this
  have z:(v-1+(a:Int))-(v-1+b)=(a:Int)-b:=by exact lq [_] [_,_] (.s (.a (.s (.v 0) (.c 1)) (.t (.n 0))) (.a (.s (.v 0) (.c 1)) (.t (.n 1)))) (.s (.t (.n 0)) (.t (.n 1))) [] [1] [1] rfl
  rw[z] at q
  rcases Nat.lt_trichotomy a b with hl | hl | hl
  ·have q':(M:Int) ∣ (b:Int)-a:=by have:=Int.dvd_neg.mpr q;rwa [Int.neg_sub] at this
   have:=Int.le_of_dvd (by exact lb [] [_,_] (.c 0) (.s (.t (.n 0)) (.t (.n 1))) [.B (.n 1) (.n 0)] [1,1] rfl hl) q';exact lQ [] [_,_,_] (.n 0) (.n 1) [.B (.n 1) (.n 2),.l (.t (.n 2)) (.s (.t (.n 1)) (.t (.n 0))),.B (.n 0) (.n 1)] [0,1,1,0] [1,0,0,1] rfl hb this hl
  ·exact hl
  ·have:=Int.le_of_dvd (by exact lb [] [_,_] (.c 0) (.s (.t (.n 0)) (.t (.n 1))) [.B (.n 1) (.n 0)] [1,1] rfl hl) q;exact lQ [] [_,_,_] (.n 0) (.n 1) [.B (.n 1) (.n 0),.B (.n 0) (.n 2),.l (.t (.n 2)) (.s (.t (.n 0)) (.t (.n 1)))] [1,1,0,0] [0,0,1,1] rfl hl ha this

theorem H1 (lo st:Int) (n:Nat):(Bm lo st n).length=n:=by simp [Bm]
theorem KL {lo st:Int}{n:Nat}{done rest:List It}{it:It} (h:Bm lo st n=done++it :: rest):it=.v (.int (lo+done.length*st))∧done.length<n:=by
 have h1:=congrArg (fun l=>l[done.length]?) h
 have h2:=congrArg List.length h
 simp only[Bm,List.getElem?_map,List.length_map,List.length_range,List.length_append,List.length_cons] at h1 h2
 rw[List.getElem?_range (by exact lB [] [_,_,_] (.n 0) (.n 1) [.E (.n 1) (.a (.n 0) (.a (.n 2) (.c 1)))] [1,-1] rfl h2)] at h1
 simp at h1
 exact⟨h1.symm,by exact lB [] [_,_,_] (.n 0) (.n 1) [.E (.n 1) (.a (.n 0) (.a (.n 2) (.c 1)))] [1,-1] rfl h2⟩

theorem GS {t:Tg}{w:List (Addr×Ob)}{ρ:Loc}{elt:Loc→(V→Hp→Prop)→Hp→Prop}{Q:List V→Hp→Prop}{H:Hp} (f:It→V) (hw:okH w H) :
  ∀(its:List It) (acc:List V),acc.length+its.length≤Lim→(∀it∈its,∃ρ',Bt t it ρ=some ρ'∧∀K,K (f it) H→elt ρ' K H)→Q (acc++its.map f) H →
  AT t w ρ elt (fun ξ K H₂=>K true H₂) its acc Q H
 | [],acc,_,_,q=>by simp only[AT];exact⟨hw,by simpa using q⟩
 | it :: its,acc,hl,he,q=>by
  simp only[AT]
  obtain⟨ρ',e,k⟩:=he it (.head _)
  simp only[List.length_cons] at hl
  refine⟨hw,by exact lB [] [_,_,_] (.n 0) (.n 1) [.L (.a (.n 0) (.a (.n 2) (.c 1))) (.n 1)] [1,1] rfl hl,ρ',e,?_⟩
  rw[if_pos trivial]
  exact k _ (GS f hw its (acc++[f it]) (by simp;exact lA [] [_,_,_] (.a (.a (.n 0) (.c 1)) (.n 1)) (.n 2) [.L (.a (.n 0) (.a (.n 1) (.c 1))) (.n 2)] [1,1] rfl hl) (fun it' h=>he it' (.tail _ h)) (by simpa using q))

theorem Du {ps qs:List (Int×Int)} (hp:ps.Perm qs) (h1:(ps.map (·.1)).Pairwise (·≤·)) (h2:(qs.map (·.1)).Pairwise (·≤·)) (hn:(qs.map (·.1)).Nodup):ps=qs:=by
 have strict:∀l:List (Int×Int),(l.map (·.1)).Pairwise (·≤·)→(l.map (·.1)).Nodup→l.Pairwise (fun a b=>a.1<b.1):=fun l h n=>by
  rw[List.nodup_iff_pairwise_ne] at n
  rw[List.pairwise_map] at h n
  exact (h.and n).imp fun⟨x,y⟩=>by omega
 have n1:(ps.map (·.1)).Nodup:=((hp.map _).nodup_iff).mpr hn
 exact hp.eq_of_pairwise (le:=fun a b=>a.1<b.1) (fun a b ξ ξ x y=>by omega) (strict _ h1 n1) (strict _ h2 hn)

theorem Hv {α:Type} [DecidableEq α] {f:V→V→Option Bool}{g:α→V} (h:∀a b,f (g a) (g b)=some (decide (a=b))) (xs:List α):∀ys:List α,BE f (xs.map g) (ys.map g)=some (decide (xs=ys)):=by
 induction xs with
 | nil=>intro ys;cases ys with
  | nil=>exact congrArg some (decide_eq_true rfl).symm
  | cons b ys=>exact congrArg some (decide_eq_false nofun).symm
 | cons a xs ih=>intro ys;cases ys with
  | nil=>exact congrArg some (decide_eq_false nofun).symm
  | cons b ys =>
   show CM (f (g a) (g b)) (BE f (xs.map g) (ys.map g))=_
   rw[h,ih]
   show some (decide (a=b) && decide (xs=ys))=_
   rw[←Bool.decide_and]
   exact congrArg some (decide_eq_decide.mpr (List.cons.injEq a xs b ys▸Iff.rfl))
theorem CI {m:Nat}{H:Hp}{p q:Addr}{xs ys:List V} (h1:H p=some (.list xs)) (h2:H q=some (.list ys)):veq (m+1) H (.ref p) (.ref q)=BE (veq m H) xs ys:=by
 show ob1 (H p) none (fun xs=>ob1 (H q) none (fun ys=>BE (veq m H) xs ys) fun ξ=>none) (fun ξ=>none)=_
 rw[h1,h2];rfl
theorem EV {B:Bool→Hp→Prop}{H:Hp}{x y:V}{b:Bool} (h:veq Bd H x y=some b):BC .ne x y B H=B (!b) H:=exB h fun c=>B (!c) H
theorem GU {B:Bool→Hp→Prop}{H:Hp}{x y:V}{b:Bool} (h:veq Bd H x y=some b):BC .eq x y B H=B b H:=exB h fun c=>B c H
theorem Oc {H:Hp}{m:Nat} (a b:Int×Int):veq (m+2) H (pv a) (pv b)=some (decide (a=b)):=by
 obtain⟨a,c⟩:=a
 obtain⟨b,d⟩:=b
 show some (decide (a=b) && (decide (c=d) && true))=_
 rw[Bool.and_true,←Bool.decide_and]
 exact congrArg some (decide_eq_decide.mpr (Prod.mk.injEq a c b d▸Iff.rfl))
theorem J7 {H:Hp}{m:Nat} (ps qs:List (Int×Int)):BE (veq (m+2) H) (lv ps) (lv qs)=some (decide (ps=qs)):=Hv Oc ps qs
theorem Lo {H:Hp}{p q:Addr}{ps qs:List (Int×Int)} (h1:H p=some (.list (lv ps))) (h2:H q=some (.list (lv qs))):veq Bd H (.ref p) (.ref q)=some (decide (ps=qs)):=(CI (m:=7) h1 h2).trans (J7 (m:=5) ps qs)
theorem I8 {B:Bool→Hp→Prop}{H:Hp}{p q:Addr}{ps qs:List (Int×Int)} (h1:H p=some (.list (lv ps))) (h2:H q=some (.list (lv qs))):BC .ne (.ref p) (.ref q) B H=B (!decide (ps=qs)) H:=EV (Lo h1 h2)
theorem MN {B:Bool→Hp→Prop}{H:Hp}{p q:Addr}{ps qs:List (Int×Int)} (h1:H p=some (.list (lv ps))) (h2:H q=some (.list (lv qs))):BC .eq (.ref p) (.ref q) B H=B (decide (ps=qs)) H:=GU (Lo h1 h2)
theorem I7 {i:Int}{n:Nat} (h0:0≤i) (h1:i≤n):De i n=i.toNat:=by rw[De,if_neg (Int.not_lt.mpr h0),Int.min_eq_left h1,Int.max_eq_right h0]
theorem s_to {x:Addr}{xs:List V}{i:Int}{Q:V→Hp→Prop}{H:Hp} (h:H x=some (.list xs)) (h0:0≤i) (h1:i≤xs.length) (hl:xs.length≤Lim) (hq:∀a,H a=none→Q (.ref a) (H.set a (.list (xs.take i.toNat)))) :
  CE (.ref x) none (some i) Q H:=by
 have:Lim=16777216:=rfl
 refine⟨nofun,fun j e=>by cases e;exact⟨by exact lb [_] [] (.c (-4611686018427387904)) (.v 0) [.l (.c 0) (.v 0)] [1,1] rfl h0,by exact lb [_] [_,_] (.v 0) (.c 4611686018427387904) [.l (.v 0) (.t (.n 0)),.L (.n 0) (.n 1),.E (.n 1) (.c 16777216)] [1,1,1,1] rfl h1 hl this⟩,xs,h,?_⟩
 have e:De i xs.length=i.toNat:=I7 h0 h1
 simp only[Option.map_some,Option.getD_some,Option.map_none,Option.getD_none,List.drop_zero,e]
 exact⟨Nat.le_trans (List.length_take_le' _ _) hl,hq⟩
theorem Jn {x:Addr}{xs:List V}{i:Int}{Q:V→Hp→Prop}{H:Hp} (h:H x=some (.list xs)) (h0:0≤i) (h1:i≤xs.length) (hl:xs.length≤Lim) (hq:∀a,H a=none→Q (.ref a) (H.set a (.list (xs.drop i.toNat)))) :
  CE (.ref x) (some i) none Q H:=by
 have:Lim=16777216:=rfl
 refine⟨fun j e=>by cases e;exact⟨by exact lb [_] [] (.c (-4611686018427387904)) (.v 0) [.l (.c 0) (.v 0)] [1,1] rfl h0,by exact lb [_] [_,_] (.v 0) (.c 4611686018427387904) [.l (.v 0) (.t (.n 0)),.L (.n 0) (.n 1),.E (.n 1) (.c 16777216)] [1,1,1,1] rfl h1 hl this⟩,nofun,xs,h,?_⟩
 have e:De i xs.length=i.toNat:=I7 h0 h1
 simp only[Option.map_some,Option.getD_some,Option.map_none,Option.getD_none,e,List.take_length]
 exact⟨by rw[List.length_drop];exact lA [] [_,_,_] (.n 0) (.n 1) [.L (.n 2) (.n 1),.L (.n 0) (.n 2)] [1,1,1] rfl hl (ns0 (a:=xs.length) (b:=i.toNat)),hq⟩
theorem Ai:Lim=16777216:=rfl
noncomputable def Sts.app:Sts→Sts→Sts
 | .nil,r=>r
 | .cons s a,r=>.cons s (a.app r)
noncomputable def Sts.drop:Nat→Sts→Sts
 | 0,r=>r
 | n+1,.cons _ r=>r.drop n
 | _+1,.nil=>.nil
section
variable {G:Gl}{hd:Bool}{ρ:Loc}{N:Loc→Hp→Prop}{R:V→Hp→Prop}{X:String→Loc→Hp→Prop}{H:Hp}{r a b:Sts}{e c o k v:Ex}{i j m:Nat}{s:St}
theorem Aa:Sts.app .nil r=r:=rfl
theorem A7:Sts.app (.cons s a) r=.cons s (a.app r):=rfl
theorem Ik:∀(a:Sts) (ρ:Loc) (N:Loc→Hp→Prop) (H:Hp),AH G hd (a.app r) ρ N R X H=AH G hd a ρ (fun ρ₁ H₁=>AH G hd r ρ₁ N R X H₁) R X H
 | .nil,ρ,N,H=>by rw[Aa,K4]
 | .cons s a,ρ,N,H=>by
  rw[A7,CL,CL]
  congr 1
  funext ρ₁ H₁
  exact Ik a ρ₁ N H₁
theorem AL:AH G hd .nil ρ N R X H=N ρ H:=rfl
theorem F6:AH G hd (.cons (.asg i e) r) ρ N R X H=wpE G hd e ρ (fun v H₁=>AH G hd r (ρ.set i (some v)) N R X H₁) (fun c H₁=>X c ρ H₁) H:=rfl
theorem u_2 {x y:V}{K:V→V→Prop}:un2 (.tup [x,y]) K=K x y:=rfl
theorem u_3 {x y z:V}{K:V→V→V→Prop}:un3 (.tup [x,y,z]) K=K x y z:=rfl
theorem u_pv {p:Int×Int}{K:V→V→Prop}:un2 (pv p) K=K (.int p.1) (.int p.2):=rfl
theorem OC:AH G hd (.cons (.asg2 i j e) r) ρ N R X H=(hd=false∧wpE G hd e ρ (fun v H₁=>un2 v fun x y=>AH G hd r ((ρ.set i (some x)).set j (some y)) N R X H₁) (fun c H₁=>X c ρ H₁) H):=rfl
theorem OB:AH G hd (.cons (.asg3 i j m e) r) ρ N R X H=(hd=false∧wpE G hd e ρ (fun v H₁=>un3 v fun x y z=>AH G hd r (((ρ.set i (some x)).set j (some y)).set m (some z)) N R X H₁) (fun c H₁=>X c ρ H₁) H):=rfl
theorem HG:AH G hd (.cons (.setIt o k v) r) ρ N R X H=wpE G hd v ρ (fun z H₁=>wpE G hd o ρ (fun x H₂=>wpE G hd k ρ (fun y H₃=>KA z x y (fun H'=>AH G hd r ρ N R X H') H₃) (fun c H'=>X c ρ H') H₂) (fun c H'=>X c ρ H') H₁) (fun c H'=>X c ρ H') H:=by
 rfl
theorem set_L {z:V}{p:Addr}{k:Int}{xs:List V}{N:Hp→Prop} (h:H p=some (.list xs)):KA z (.ref p) (.int k) N H=((0≤k∧k<xs.length)∧N (H.set p (.list (xs.set k.toNat z)))):=obL h
theorem EI {z:V}{p:Addr}{k:Int}{kvs:List (Int×V)}{N:Hp→Prop} (h:H p=some (.dict kvs)):KA z (.ref p) (.int k) N H=(kvs.length<Lim∧N (H.set p (.dict (EF k z kvs)))):=obD h
theorem LV:AH G hd (.cons (.ex e) r) ρ N R X H=wpE G hd e ρ (fun ξ H₁=>AH G hd r ρ N R X H₁) (fun c H₁=>X c ρ H₁) H:=rfl
theorem Al:AH G hd (.cons (.ret e) r) ρ N R X H=wpE G hd e ρ (fun v H₁=>R v H₁) (fun c H₁=>X c ρ H₁) H:=rfl
theorem Dh:AH G hd (.cons (.ife e a b) r) ρ N R X H=wpE G hd e ρ (asB fun t H₁=>if t then AH G hd (a.app r) ρ N R X H₁ else AH G hd (b.app r) ρ N R X H₁) (fun c H₁=>X c ρ H₁) H:=by rw[CL,Jr];simp only[Ik]
theorem By {c m:String}:AH G hd (.cons (.raise c m) r) ρ N R X H=(hd=false∧X c ρ H):=rfl
theorem s_tr {hs:Hs}:AH G hd (.cons (.tr b hs) r) ρ N R X H=(hd=false∧AH G hd b ρ (fun ρ₁ H₁=>AH G hd r ρ₁ N R X H₁) R (fun c ρ₁ H₁=>Gb G c hs ρ₁ (fun ρ₁ H₁=>AH G hd r ρ₁ N R X H₁) R (X c ρ₁ H₁) H₁) H):=rfl
noncomputable def AN (G:Gl) (hd:Bool) (b:Sts) (R:V→Hp→Prop) (X:String→Loc→Hp→Prop):Loc→(Loc→Hp→Prop)→Hp→Prop:=fun ρ K H=>AH G hd b ρ K R X H
noncomputable def A4 (G:Gl) (hd:Bool) (r:Sts) (N:Loc→Hp→Prop) (R:V→Hp→Prop) (X:String→Loc→Hp→Prop):Loc→Hp→Prop:=fun ρ H=>AH G hd r ρ N R X H
theorem DR (I:Nat→Loc→Hp→Prop)
  (step:∀n ρ H K,I n ρ H→(∀m ρ' H',m<n→I m ρ' H'→K ρ' H')→wpE G hd c ρ (asB fun t H₁=>if t then AN G hd b R X ρ K H₁ else A4 G hd r N R X ρ H₁) (fun c H₁=>X c ρ H₁) H)
  {n:Nat}{ρ:Loc}{H:Hp} (h:I n ρ H):AH G hd (.cons (.whl c b) r) ρ N R X H:=by
 have:=MW (G:=G) (hd:=hd) (c:=c) (b:=b) (N:=fun ρ₁ H₁=>AH G hd r ρ₁ N R X H₁) (R:=R) (X:=X) I step h
 rw[CL];exact this
theorem AC {t:Tg}{s:Sr} (h:hd=false∧CS G hd s ρ (fun its w H₁=>Fh t w (AN G hd b R X) its ρ (A4 G hd r N R X) H₁) (fun c H₁=>X c ρ H₁) H):AH G hd (.cons (.for t s b) r) ρ N R X H:=by
 rw[CL,Js];exact h
theorem BB {K:List It→List (Addr×Ob)→Hp→Prop}{X:String→Hp→Prop}:CS G hd (.ex e) ρ K X H=wpE G hd e ρ (fun v H₁=>Ku v K H₁) X H:=rfl
theorem src_L {p:Addr}{xs:List V}{K:List It→List (Addr×Ob)→Hp→Prop} (h:H p=some (.list xs)):Ku (.ref p) K H=K (xs.map It.v) [(p,.list xs)] H:=obL h
theorem Ae:AH G hd (.cons (.asg i e) r) ρ N R X H=wpE G hd e ρ (fun v H₁=>A4 G hd r N R X (ρ.set i (some v)) H₁) (fun c H₁=>X c ρ H₁) H:=F6
theorem K2:AH G hd (.cons (.asg2 i j e) r) ρ N R X H=(hd=false∧wpE G hd e ρ (fun v H₁=>un2 v fun x y=>A4 G hd r N R X ((ρ.set i (some x)).set j (some y)) H₁) (fun c H₁=>X c ρ H₁) H):=OC
theorem Na:AH G hd (.cons (.asg3 i j m e) r) ρ N R X H=(hd=false∧wpE G hd e ρ (fun v H₁=>un3 v fun x y z=>A4 G hd r N R X (((ρ.set i (some x)).set j (some y)).set m (some z)) H₁) (fun c H₁=>X c ρ H₁) H):=OB
theorem BS:AH G hd (.cons (.setIt o k v) r) ρ N R X H=wpE G hd v ρ (fun z H₁=>wpE G hd o ρ (fun x H₂=>wpE G hd k ρ (fun y H₃=>KA z x y (fun H'=>A4 G hd r N R X ρ H') H₃) (fun c H'=>X c ρ H') H₂) (fun c H'=>X c ρ H') H₁) (fun c H'=>X c ρ H') H:=HG
theorem BT:AH G hd (.cons (.ex e) r) ρ N R X H=wpE G hd e ρ (fun ξ H₁=>A4 G hd r N R X ρ H₁) (fun c H₁=>X c ρ H₁) H:=LV
theorem Ad:AH G hd (.cons (.ife e a b) r) ρ N R X H=wpE G hd e ρ (asB fun t H₁=>if t then A4 G hd (a.app r) N R X ρ H₁ else A4 G hd (b.app r) N R X ρ H₁) (fun c H₁=>X c ρ H₁) H:=Dh
theorem B2 {p:Addr}{xs:List V}{K:List It→List (Addr×Ob)→Hp→Prop} (h:H p=some (.list xs)) (k:K (xs.map It.v) [(p,.list xs)] H):Ku (.ref p) K H:=by rw[src_L h];exact k
theorem OG {c d:Prop}{i1:Decidable c}{i2:Decidable d}{A B:Prop} (h1:c→d→B) (h2:¬(c∧d)→A):if c then (if (!decide d)=true then A else B) else (if (!false)=true then A else B):=by
 by_cases hc:c
 ·by_cases hd:d
  ·simpa [hc,hd] using h1 hc hd
  ·simpa [hc,hd] using h2 (by simp [hd])
 ·simpa [hc] using h2 (by simp [hc])
variable {K:SK}{Y:String→Hp→Prop}{m n t:Int}{x y z:Ex}
theorem F5:CS G hd (.range1 x) ρ K Y H=wpE G hd x ρ (fun v H₁=>r1W v K H₁) Y H:=rfl
theorem LJ:CS G hd (.range3 x y z) ρ K Y H=wpE G hd x ρ (fun u H₁=>wpE G hd y ρ (fun v H₂=>wpE G hd z ρ (fun t H₃=>r3W u v t K H₃) Y H₂) Y H₁) Y H:=rfl
theorem Oo:CS G hd (.zip x y) ρ K Y H=wpE G hd x ρ (fun u H₁=>wpE G hd y ρ (fun v H₂=>MU u v K H₂) Y H₁) Y H:=rfl
theorem K1 {s:Sr}:CS G hd (.enum s) ρ K Y H=CS G hd s ρ (fun its w H₁=>∃js,Eg 0 its=some js∧K js w H₁) Y H:=rfl
theorem HI:r1W (.int n) K H=(Ix n∧K (Bm 0 1 n.toNat) [] H):=rfl
theorem OH:r3W (.int m) (.int n) (.int t) K H=(Ix m∧Ix n∧Ix t∧t≠0∧K (Bm m t (Bj m n t)) [] H):=rfl
theorem zip_i {p q:Addr}{xs ys:List V} (h1:H p=some (.list xs)) (h2:H q=some (.list ys)) (h:K (Ga xs ys) [(p,.list xs),(q,.list ys)] H):MU (.ref p) (.ref q) K H:=⟨xs,ys,h1,h2,h⟩
theorem FI {c:Prop}{i1:Decidable c}{i2:Decidable (@decide c i1=false)}{i3:Decidable c}{A B B':Prop} (h1:c→A) (h2:¬c→B'):@ite Prop (@decide c i1=false) i2 B' (@ite Prop c i3 A B):=by
 by_cases h:c
 ·rw[if_neg (by simp [h]),if_pos h];exact h1 h
 ·rw[if_pos (by simp [h])];exact h2 h
theorem Id {c:Prop}{i1 i2:Decidable c}{A B B':Prop} (h1:c→B') (h2:¬c→B):@ite Prop c i1 B' (@ite Prop c i2 A B):=by
 by_cases h:c
 ·rw[if_pos h];exact h1 h
 ·rw[if_neg h,if_neg h];exact h2 h
end
end Mine.Internal
end

section
namespace Mine.Internal
noncomputable def ancT (c:String):List String:=if c = "TillError" then ["TillError"] else [c, "TillError"]
noncomputable def Ch:Fn:=⟨1,1,["value"],
 (.cons (.ife (.nt (.cmp2 .le .le (.int 1) (.var 0) (.glob "MOST_VALUE" 1000))) (.cons (.raise "NoKind" "no kind")
  .nil) .nil)
 .nil)⟩
noncomputable def BA:Fn:=⟨1,1,["count"],
 (.cons (.ife (.nt (.cmp2 .le .le (.int 0) (.var 0) (.glob "MOST_COUNT" 1000000000))) (.cons (.raise "NoCount" "no count")
  .nil) .nil)
 .nil)⟩
noncomputable def AZ:Fn:=⟨1,1,["counts", "value"],
 (.cons (.ret (.comp (.tup (.cons (.var 1) (.cons (.idx (.var 0) (.var 1)) .nil))) (.one 1) (.ex (.bc .sorted (.cons (.var 0) .nil)))))
 .nil)⟩
noncomputable def BD:Fn:=⟨2,2,["_law_script", "_law_k"],
 (.cons (.ife (.cmp .lt (.var 1) (.bc .len (.cons (.var 0) .nil))) (.cons (.ret (.idx (.var 0) (.var 1)))
  .nil) .nil)
 (.cons (.ret (.int 0))
 .nil))⟩
noncomputable def B7:Fn:=⟨1,1,["_law_found"],
 (.cons (.ret (.bop true (.cons (.isi (.var 0) [.int]) (.cons (.nt (.isi (.var 0) [.bool])) .nil))))
 .nil)⟩
noncomputable def B8:Fn:=⟨2,2,["_law_cell", "_law_k"],
 (.cons (.ret (.bin .mod (.bin .mul (.bin .add (.var 0) (.bin .mul (.int 7919) (.var 1))) (.int 48271)) (.int 2147483647)))
 .nil)⟩
noncomputable def Ci:Fn:=⟨2,3,["_law_cell", "_law_k", "_law_drawn"],
 (.cons (.asg 2 (.call "_law_mixed" (.cons (.var 0) (.cons (.var 1) .nil))))
 (.cons (.ife (.cmp .eq (.bin .mod (.var 0) (.int 3)) (.int 0)) (.cons (.ret (.idx (.list (.cons (.int 1) (.cons (.int 2) (.cons (.int 5) (.cons (.int 10) (.cons (.int 20) (.cons (.int 50) (.cons (.int 100) (.cons (.int 200) (.cons (.int 500) (.cons (.int 1000) .nil))))))))))) (.bin .mod (.var 2) (.int 10))))
  .nil) .nil)
 (.cons (.ife (.cmp .eq (.bin .mod (.var 0) (.int 3)) (.int 1)) (.cons (.ret (.bin .add (.int 1) (.bin .mod (.var 2) (.int 30))))
  .nil) .nil)
 (.cons (.ret (.bin .add (.int 1) (.bin .mod (.var 2) (.int 1000))))
 .nil))))⟩
noncomputable def Cl:Fn:=⟨2,3,["_law_cell", "_law_k", "_law_drawn"],
 (.cons (.asg 2 (.call "_law_mixed" (.cons (.var 0) (.cons (.var 1) .nil))))
 (.cons (.ife (.cmp .eq (.bin .mod (.bin .fdiv (.var 0) (.int 3)) (.int 4)) (.int 1)) (.cons (.ret (.bin .mod (.var 2) (.int 61)))
  .nil) .nil)
 (.cons (.ife (.cmp .eq (.bin .mod (.bin .fdiv (.var 0) (.int 3)) (.int 12)) (.int 6)) (.cons (.ret (.bin .mul (.bin .mod (.bin .fdiv (.var 2) (.int 7)) (.int 2)) (.bin .sub (.bin .pow (.int 10) (.int 9)) (.bin .mod (.var 2) (.int 50)))))
  .nil) .nil)
 (.cons (.ret (.bin .mod (.var 2) (.int 5)))
 .nil))))⟩
noncomputable def BP:Fn:=⟨1,7,["_law_script", "_law_cell", "_law_many", "_law_found", "_law_seen", "_law_k", "_law_value_here"],
 (.cons (.asg 1 (.call "_law_cell_at" (.cons (.var 0) (.cons (.int 0) .nil))))
 (.cons (.asg 2 (.bin .add (.int 1) (.bin .mod (.var 1) (.int 5))))
 (.cons (.ife (.cmp .eq (.bin .mod (.bin .fdiv (.var 1) (.int 5)) (.int 8)) (.int 1)) (.cons (.asg 2 (.bin .add (.int 6) (.bin .mod (.bin .fdiv (.var 1) (.int 40)) (.int 5))))
  .nil) .nil)
 (.cons (.asg 3 (.list .nil))
 (.cons (.asg 4 .dict0)
 (.cons (.for (.one 5) (.range1 (.var 2)) (.cons (.asg 6 (.call "_law_value" (.cons (.call "_law_cell_at" (.cons (.var 0) (.cons (.int 1) .nil))) (.cons (.bin .add (.var 5) (.int 1)) .nil))))
  (.cons (.whl (.cmp .isIn (.var 6) (.var 4)) (.cons (.asg 6 (.bin .add (.bin .mod (.var 6) (.int 1000)) (.int 1)))
   .nil))
  (.cons (.setIt (.var 4) (.var 6) (.bool true))
  (.cons (.ex (.mt .append (.var 3) (.cons (.tup (.cons (.var 6) (.cons (.call "_law_count" (.cons (.call "_law_cell_at" (.cons (.var 0) (.cons (.int 2) .nil))) (.cons (.bin .add (.var 5) (.int 1)) .nil))) .nil))) .nil)))
  .nil)))))
 (.cons (.ret (.var 3))
 .nil)))))))⟩
noncomputable def D4:Fn:=⟨2,3,["_law_found", "_law_due_here", "_law_pair"],
 (.cons (.ife (.bop false (.cons (.nt (.isi (.var 0) [.list])) (.cons (.cmp .ne (.var 0) (.var 1)) .nil))) (.cons (.ret (.bool false))
  .nil) .nil)
 (.cons (.for (.one 2) (.ex (.var 0)) (.cons (.ife (.bop false (.cons (.nt (.isi (.var 2) [.tuple])) (.cons (.nt (.call "_law_whole" (.cons (.idx (.var 2) (.int 0)) .nil))) (.cons (.nt (.call "_law_whole" (.cons (.idx (.var 2) (.int 1)) .nil))) .nil)))) (.cons (.ret (.bool false))
   .nil) .nil)
  .nil))
 (.cons (.ret (.bool true))
 .nil)))⟩
end Mine.Internal
end

section
namespace Mine.Internal
open PySem (Str Addr)

section
variable {defs:String→Option Fn}{anc:String→List String}{n:Nat}{Q:V→Hp→Prop}{X:String→Hp→Prop}{H:Hp}
theorem DH (h:defs "_law_cell_at" = some BD) {xs:List Int}{k:Int} (h0:0≤k) (hk:k<1000) (hq:∀c,Q (.int c) H) :
  Aj defs anc (n+1) "_law_cell_at" [.ro xs,.int k] Q X H:=by
 refine Ao h rfl ?_;simp only[BD]
 (simp only[List.map_cons,List.map_nil,List.length_cons,List.length_nil,Nat.reduceAdd,Nat.sub_self,List.replicate,List.cons_append,List.nil_append,Dh,A7,Aa,Al,Ac,A3,gS,gZ,A0,i_ro,A9,Ab,A5,Ar,A6,A8,OT,true_and,EG,decide_eq_true_eq])
 refine AA (fun hl=>?_) fun hl=>hq _
 exact MA (P:=fun z=>Q (.int z) H) ⟨by exact lb [_] [] (.c (-4611686018427387904)) (.v 0) [.l (.c 0) (.v 0)] [1,1] rfl h0,by exact lb [_] [] (.v 0) (.c 4611686018427387904) [.b (.v 0) (.c 1000)] [1,1] rfl hk⟩ h0 hl (hq _)
theorem Gx (h:defs "need_kind" = some Ch) {v:Int} (h1:1≤v∧v≤1000→Q .none H) (h2:¬(1≤v∧v≤1000)→X "NoKind" H) :
  Aj defs anc (n+1) "need_kind" [.int v] Q X H:=by
 refine Ao h rfl ?_;simp only[Ch]
 (simp only[List.map_cons,List.map_nil,List.length_cons,List.length_nil,Nat.reduceAdd,Nat.sub_self,List.replicate,List.cons_append,List.nil_append,Dh,A7,Aa,By,true_and,AL,BO,A5,F9,El,A3,gZ,A0,NT,A9,decide_eq_true_eq])
 (repeat' split) <;> simp_all <;> first | (apply h1;omega) | (apply h2;omega)
theorem Cr (h:defs "need_count" = some BA) {v:Int} (h1:0≤v∧v≤1000000000→Q .none H) (h2:¬(0≤v∧v≤1000000000)→X "NoCount" H) :
  Aj defs anc (n+1) "need_count" [.int v] Q X H:=by
 refine Ao h rfl ?_;simp only[BA]
 (simp only[List.map_cons,List.map_nil,List.length_cons,List.length_nil,Nat.reduceAdd,Nat.sub_self,List.replicate,List.cons_append,List.nil_append,Dh,A7,Aa,By,true_and,AL,BO,A5,F9,El,A3,gZ,A0,NT,A9,decide_eq_true_eq])
 (repeat' split) <;> simp_all <;> first | (apply h1;omega) | (apply h2;omega)
theorem CO (h:defs "_law_mixed" = some B8) {c k:Int} (hq:∀v,0≤v→v<2147483647→Q (.int v) H) :
  Aj defs anc (n+1) "_law_mixed" [.int c,.int k] Q X H:=by
 refine Ao h rfl ?_;simp only[B8]
 (simp only[List.map_cons,List.map_nil,List.length_cons,List.length_nil,Nat.reduceAdd,Nat.sub_self,List.replicate,List.cons_append,List.nil_append,Al,Ah,A9,A3,gS,gZ,A0,FS,AQ,Bu])
 refine⟨.inl ⟨by decide,by decide⟩,.inr ⟨by decide,by decide⟩,by decide,hq _ (Int.emod_nonneg _ (by decide)) (Int.emod_lt_of_pos _ (by decide))⟩
theorem Jf (h:defs "_law_mixed" = some B8)  (h':defs "_law_value" = some Ci) {c k:Int} (hq:∀v H',1≤v→v≤1000→Ext H H'→Q (.int v) H') :
  Aj defs anc (n+2) "_law_value" [.int c,.int k] Q X H:=by
 refine Ao h' rfl ?_
 simp only[Ci]
 (simp only[List.map_cons,List.map_nil,List.length_cons,List.length_nil,Nat.reduceAdd,Nat.reduceSub,List.replicate,List.cons_append,List.nil_append,F6,sS,sZ,Dh,A7,Aa,Al,Ac,Ah,A9,A3,gS,gZ,A0,AE,A6,A8,Ab,A5,Bu,C7,decide_eq_true_eq,Ag,true_and])
 refine CO h fun v h0 h1=>?_
 (simp only[Bu,AQ])
 refine⟨by decide,AA (fun ξ=>?_) fun ξ=>⟨by decide,AA (fun ξ=>?_) fun ξ=>?_⟩⟩
 ·refine⟨by decide,fun a ha=>⟨by decide,?_⟩⟩
  rw[BJ (Hp.set_self _ _ _)]
  have e1:=Int.emod_nonneg v (show (10:Int)≠0 by decide)
  have e2:=Int.emod_lt_of_pos v (show (0:Int)<10 by decide)
  refine I3 (P:=fun z=>Q z _) ⟨by exact lb [_] [] (.c (-4611686018427387904)) (.v 0) [.l (.c 0) (.v 0)] [1,1] rfl e1,by exact lb [_] [] (.v 0) (.c 4611686018427387904) [.b (.v 0) (.c 10)] [1,1] rfl e2⟩ e1 (by simpa using e2) ?_
  simp only[List.mem_cons,List.not_mem_nil,or_false]
  rintro z (rfl | rfl | rfl | rfl | rfl | rfl | rfl | rfl | rfl | rfl) <;> exact hq _ _ (by decide) (by decide) (.new _ ha)
 ·exact⟨by decide,hq _ _ (by exact la [_] [] (.c 1) (.a (.c 1) (.v 0)) [.l (.c 0) (.v 0)] [1,1] rfl (em0 30 rfl)) (by exact la [_] [] (.a (.c 1) (.v 0)) (.c 1000) [.b (.v 0) (.c 30)] [1,1] rfl (em1 30 rfl)) (.refl _)⟩
 ·exact⟨by decide,hq _ _ (by exact la [_] [] (.c 1) (.a (.c 1) (.v 0)) [.l (.c 0) (.v 0)] [1,1] rfl (em0 1000 rfl)) (by exact la [_] [] (.a (.c 1) (.v 0)) (.c 1000) [.b (.v 0) (.c 1000)] [1,1] rfl (em1 1000 rfl)) (.refl _)⟩
theorem JP (h:defs "_law_mixed" = some B8)  (h':defs "_law_count" = some Cl) {c k:Int} (hq:∀v,0≤v→v≤1000000000→Q (.int v) H) :
  Aj defs anc (n+2) "_law_count" [.int c,.int k] Q X H:=by
 refine Ao h' rfl ?_
 simp only[Cl]
 (simp only[List.map_cons,List.map_nil,List.length_cons,List.length_nil,Nat.reduceAdd,Nat.reduceSub,List.replicate,List.cons_append,List.nil_append,F6,sS,sZ,Dh,A7,Aa,Al,Ah,A9,A3,gS,gZ,A0,GV,Ab,A5,Bi,Bu,C7,decide_eq_true_eq,Ag,A6,A8,true_and])
 refine CO h fun v h0 h1=>?_
 (simp only[Bu,Be,Bi,FS])
 refine⟨⟨by decide,by decide⟩,by decide,AA (fun ξ=>?_) fun ξ=>⟨⟨by decide,by decide⟩,by decide,AA (fun ξ=>?_) fun ξ=>?_⟩⟩
 ·exact⟨by decide,hq _ (by exact la [_] [] (.c 0) (.v 0) [.l (.c 0) (.v 0)] [1,1] rfl (em0 61 rfl)) (by exact la [_] [] (.v 0) (.c 1000000000) [.b (.v 0) (.c 61)] [1,1] rfl (em1 61 rfl))⟩
 ·have hz:v / 7 % 2=0∨v / 7 % 2=1:=by omega
  refine⟨⟨by decide,by decide⟩,by decide,by decide,.inl ⟨by exact lb [_] [] (.c (-18446744073709551616)) (.v 0) [.l (.c 0) (.v 0)] [1,1] rfl (em0 2 rfl),by exact lb [_] [] (.v 0) (.c 18446744073709551616) [.b (.v 0) (.c 2)] [1,1] rfl (em1 2 rfl)⟩,?_⟩
  rcases hz with e | e <;> rw[e] <;> exact hq _ (by (first | exact la [_] [] (.c 0) (.m 0 (.s (.c 1000000000) (.v 0))) [] [1] rfl | exact la [_] [] (.c 0) (.m 1 (.s (.c 1000000000) (.v 0))) [.b (.v 0) (.c 50)] [1,1] rfl (em1 50 rfl))) (by (first | exact la [_] [] (.m 0 (.s (.c 1000000000) (.v 0))) (.c 1000000000) [] [1] rfl | exact la [_] [] (.m 1 (.s (.c 1000000000) (.v 0))) (.c 1000000000) [.l (.c 0) (.v 0)] [1,1] rfl (em0 50 rfl)))
 ·exact⟨by decide,hq _ (by exact la [_] [] (.c 0) (.v 0) [.l (.c 0) (.v 0)] [1,1] rfl (em0 5 rfl)) (by exact la [_] [] (.v 0) (.c 1000000000) [.b (.v 0) (.c 5)] [1,1] rfl (em1 5 rfl))⟩
theorem CH (h:defs "_law_whole" = some B7) {i:Int} (hq:Q (.bool true) H) :
  Aj defs anc (n+1) "_law_whole" [.int i] Q X H:=by
 refine Ao h rfl ?_;simp only[B7]
 (simp only[List.map_cons,List.map_nil,List.length_cons,List.length_nil,Nat.reduceAdd,Nat.sub_self,List.replicate,List.cons_append,List.nil_append,Al,An,Ak,At,BO,Cq,A5,A3,gZ,A0])
 exact⟨true,rfl,false,rfl,hq⟩
end
structure Good (ps:List (Int×Int)):Prop where
 pos:1≤ps.length
 len:ps.length≤10
 nodup:(ps.map (·.1)).Nodup
 val:∀q∈ps,1≤q.1∧q.1≤1000
 cnt:∀q∈ps,0≤q.2∧q.2≤1000000000
theorem ND {c:Prop} [Decidable c] {A B:Prop}{P:Int→Prop}{L U:Int} (x y:Int) (hA:P x→A) (hB:P y→B) (hx:L≤x∧x≤U) (hy:L≤y∧y≤U) (h:∀m,L≤m∧m≤U→P m):if c then A else B:=by
 split
 ·exact hA (h x hx)
 ·exact hB (h y hy)
theorem CN {α:Type}{l:List α}{a:α} (h:l.Nodup) (ha:a∉l):(l++[a]).Nodup:=by
 rw[List.nodup_append]
 refine⟨h,by simp,?_⟩
 intro x hx y hy
 simp only[List.mem_cons,List.not_mem_nil,or_false] at hy
 subst hy;rintro rfl;exact ha hx
section
variable {defs:String→Option Fn}{anc:String→List String}{n:Nat}{Q:V→Hp→Prop}{X:String→Hp→Prop}{H:Hp}
theorem em_u {u:Int} (h1:1≤u) (h2:u≤1000):(u-1+((0:Nat):Int)) % 1000+1=u:=by
 show (u-1+0) % 1000+1=u
 rw[Int.add_zero,Int.emod_eq_of_lt (Int.sub_nonneg_of_le h1) (Int.sub_lt_iff.mpr (Int.lt_add_one_of_le h2)),Int.sub_add_cancel]
theorem em_s (u:Int) (k:Nat):(u % 1000+1-1+(k:Int)) % 1000+1=(u-1+((k+1:Nat):Int)) % 1000+1:=by
 rw[Int.add_sub_cancel,Int.emod_add_emod,Int.natCast_succ,Int.add_comm (k:Int) 1,←Int.add_assoc,Int.sub_add_cancel]
theorem Jv (h1:defs "_law_mixed" = some B8)  (h2:defs "_law_value" = some Ci) (h3:defs "_law_count" = some Cl) (h4:defs "_law_cell_at" = some BD) (h5:defs "_law_pairs" = some BP) {xs:List Int}
  (hq:∀ps a H',Good ps→Ext H H'→H a=none→H' a=some (.list (lv ps))→Q (.ref a) H') :
  Aj defs anc (n+3) "_law_pairs" [.ro xs] Q X H:=by
 refine Ao h5 rfl ?_
 simp only[BP]
 (simp only[List.map_cons,List.map_nil,List.length_cons,List.length_nil,Nat.reduceAdd,Nat.reduceSub,List.replicate,List.cons_append,List.nil_append,F6,sS,sZ,Dh,A7,Aa,F8,AE,A8,Ah,A9,A3,gS,gZ,A0,Ab,A5,Ag,A6,true_and])
 refine DH h4 (by decide) (by decide) fun c=>?_
 refine⟨by decide,⟨by decide,by decide⟩,by decide,?_⟩
 (simp only[Bi,Bu,AQ,C7,decide_eq_true_eq])
 refine ND (P:=fun m:Int=>Bb [] (fun v H₁=>∀(a:Addr),H₁ a=none→A4 ⟨Aj defs anc (n+2),anc⟩ false (BP.body.drop 5) (fun ξ H₁=>Q .none H₁) Q (fun c ξ H₁=>X c H₁) [some (.ro xs),some (.int c),some (.int m),some v,some (.ref a),none,none] (H₁.set a (.dict []))) H) (L:=1) (U:=10) (6+c / 40 % 5) (1+c % 5) (fun h=>⟨⟨by decide,by decide⟩,by decide,h⟩) (fun h=>h) (by exact⟨la [_] [] (.c 1) (.a (.c 6) (.v 0)) [.l (.c 0) (.v 0)] [1,1] rfl (em0 5 rfl),la [_] [] (.a (.c 6) (.v 0)) (.c 10) [.b (.v 0) (.c 5)] [1,1] rfl (em1 5 rfl)⟩) (by exact⟨la [_] [] (.c 1) (.a (.c 1) (.v 0)) [.l (.c 0) (.v 0)] [1,1] rfl (em0 5 rfl),la [_] [] (.a (.c 1) (.v 0)) (.c 10) [.b (.v 0) (.c 5)] [1,1] rfl (em1 5 rfl)⟩) fun m hm=>?_
 dsimp only[A4]
 simp only[BP,Sts.drop]
 obtain⟨hm0,hm⟩:=hm
 refine⟨by decide,fun F hF S hS=>AC ⟨rfl,?_⟩⟩
 (simp only[F5,A3,gS,gZ,A0,HI])
 refine⟨⟨by exact lb [_] [] (.c (-4611686018427387904)) (.v 0) [.l (.c 1) (.v 0)] [1,1] rfl hm0,by exact lb [_] [] (.v 0) (.c 4611686018427387904) [.l (.v 0) (.c 10)] [1,1] rfl hm⟩,?_⟩
 have hFS:F≠S:=AJ (Hp.set_self H F (.list [])) hS
 have hS0:H S=none:=by rwa [Hp.set_ne _ (Ne.symm hFS)] at hS
 refine FD (I:=fun done rest ρ H'=>Bm 0 1 m.toNat=done++rest∧∃ps kvs x5 x6,ρ=[some (.ro xs),some (.int c),some (.int m),some (.ref F),some (.ref S),x5,x6]∧Ext H H'∧H' F=some (.list (lv ps))∧H' S=some (.dict kvs)∧ps.length=done.length∧keys kvs=ps.map (·.1)∧(ps.map (·.1)).Nodup∧(∀q∈ps,1≤q.1∧q.1≤1000)∧(∀q∈ps,0≤q.2∧q.2≤1000000000)) ?_ ?_ ?_ _ [] _ _ ⟨rfl,[],[],none,none,rfl,((Ext.new _ hF).trans (.new _ hS)),by rw[Hp.set_ne _ hFS];exact Hp.set_self _ _ _,Hp.set_self _ _ _,rfl,rfl,by simp,by simp,by simp⟩
 ·intro _ _ _ _ _ p hp;cases hp
 ·rintro done ρ H' ⟨hr,ps,kvs,x5,x6,rfl,hE,e1,e2,l1,l2,l3,l4,l5⟩
  rw[A4]
  (simp only[Al,A3,gS,gZ,A0])
  have:=congrArg List.length hr
  rw[H1] at this;simp at this
  exact hq ps F H' ⟨by exact lA [_] [_,_,_] (.c 1) (.n 0) [.l (.c 1) (.v 0),.E (.n 0) (.n 1),.E (.n 2) (.n 1),.l (.v 0) (.t (.n 2))] [1,1,-1,1,1] rfl hm0 l1 this (tn0 (a:=m)),by exact lA [_] [_,_,_] (.n 0) (.c 10) [.l (.v 0) (.c 10),.E (.n 0) (.n 1),.E (.n 2) (.n 1),.e (.t (.n 2)) (.v 0)] [1,1,1,-1,1] rfl hm l1 this (tnE (a:=m) (la [_] [] (.c 0) (.v 0) [.l (.c 1) (.v 0)] [1,1] rfl hm0)),l3,l4,l5⟩ hE hF e1
 ·rintro done it rest ρ H' K' ⟨hr,ps,kvs,x5,x6,rfl,hE,e1,e2,l1,l2,l3,l4,l5⟩ hK'
  obtain⟨rfl,hlt⟩:=KL hr
  refine⟨_,rfl,?_⟩
  rw[AN]
  (simp only[sS,sZ,F6,Ag,A6,A8,Ah,A9,A3,gS,gZ,A0,AQ,true_and])
  refine DH h4 (by decide) (by decide) fun c1=>?_
  refine Jf h1 h2 fun v H₂ hv1 hv2 hE2=>?_
  have e1':=hE2 _ _ e1
  have e2':=hE2 _ _ e2
  obtain⟨nn,hnn⟩:=JF 1000 (by decide) (ks:=keys kvs) (by rw[l2,List.length_map];exact lB [_] [_,_,_] (.n 0) (.c 1000) [.l (.v 0) (.c 10),.E (.n 0) (.n 1),.B (.n 1) (.n 2),.e (.t (.n 2)) (.v 0)] [1,1,1,1,1] rfl hm l1 hlt (tnE (a:=m) (la [_] [] (.c 0) (.v 0) [.l (.c 1) (.v 0)] [1,1] rfl hm0))) v
  refine DR (I:=fun k ρ H''=>H''=H₂∧∃v:Int,ρ=[some (.ro xs),some (.int c),some (.int m),some (.ref F),some (.ref S),some (.int (0+done.length*1)),some (.int v)]∧1≤v∧v≤1000∧((v-1+(k:Int)) % (1000:Int)+1)∉keys kvs) ?_ (n:=nn) ⟨rfl,v,rfl,hv1,hv2,hnn⟩
  rintro k ρ H'' K'' ⟨rfl,u,rfl,hu1,hu2,hu⟩ hK''
  (simp only[Ab,A5,A3,gS,gZ,A0])
  rw[MM e2']
  simp only[Dd]
  refine AA (fun hin=>?_) fun hin=>?_
  ·dsimp only[AN]
   (simp only[F6,sS,sZ,AL,Ah,A9,A3,gS,gZ,A0,Bu,AQ])
   refine⟨by decide,?_⟩
   cases k with
   | zero =>
    have:(u-1+((0:Nat):Int)) % 1000+1=u:=em_u (by assumption) (by assumption)
    rw[this] at hu;exact absurd hin hu
   | succ k =>
    refine hK'' k _ _ (Nat.lt_succ_self _) ⟨rfl,_,rfl,by exact la [_] [] (.c 1) (.a (.v 0) (.c 1)) [.l (.c 0) (.v 0)] [1,1] rfl (em0 1000 rfl),by exact la [_] [] (.a (.v 0) (.c 1)) (.c 1000) [.b (.v 0) (.c 1000)] [1,1] rfl (em1 1000 rfl),?_⟩
    have:=em_s u k
    rw[this];exact hu
  ·dsimp only[A4]
   (simp only[HG,LV,AL,BV,A6,A8,AI,List.length_cons,List.length_nil,Nat.reduceAdd,Ag,Ah,A9,A3,gS,gZ,A0,AQ,true_and,CV])
   rw[EI e2']
   refine⟨by rw[←IR,l2,List.length_map,Ai];exact lB [_] [_,_,_] (.n 0) (.c 16777216) [.l (.v 0) (.c 10),.E (.n 0) (.n 1),.B (.n 1) (.n 2),.e (.t (.n 2)) (.v 0)] [1,1,1,1,1] rfl hm l1 hlt (tnE (a:=m) (la [_] [] (.c 0) (.v 0) [.l (.c 1) (.v 0)] [1,1] rfl hm0)),?_⟩
   have e1'':(H''.set S (.dict (EF u (.bool true) kvs))) F=some (.list (lv ps)):=by rw[Hp.set_ne _ hFS];exact e1'
   rw[r_L e1'']
   refine⟨⟨by decide,by decide⟩,?_⟩
   refine DH h4 (by decide) (by decide) fun c2=>?_
   refine JP h1 h3 fun cc cc0 cc1=>?_
   refine⟨by decide,?_⟩
   rw[Bk e1'']
   refine⟨by rw[lv_length,Ai];exact lB [_] [_,_,_] (.n 0) (.c 16777216) [.l (.v 0) (.c 10),.E (.n 0) (.n 1),.B (.n 1) (.n 2),.e (.t (.n 2)) (.v 0)] [1,1,1,1,1] rfl hm l1 hlt (tnE (a:=m) (la [_] [] (.c 0) (.v 0) [.l (.c 1) (.v 0)] [1,1] rfl hm0)),?_⟩
   refine hK' _ _ ⟨by rw[hr];simp,ps++[(u,cc)],EF u (.bool true) kvs,_,_,rfl,?_,?_,?_,by simp [l1],by rw[Fj hin];simpa [keys] using l2,by rw[List.map_append];exact CN l3 (by rw[←l2];exact hin),?_,?_⟩
   ·exact .setNew _ (.setNew _ (hE.trans hE2) hS0) hF
   ·rw[Hp.set_self,CA];rfl
   ·rw[Hp.set_ne _ (Ne.symm hFS),Hp.set_self]
   ·intro q hq'
    rcases List.mem_append.mp hq' with h | h
    ·exact l4 q h
    ·simp only[List.mem_cons,List.not_mem_nil,or_false] at h;subst h;exact⟨hu1,hu2⟩
   ·intro q hq'
    rcases List.mem_append.mp hq' with h | h
    ·exact l5 q h
    ·simp only[List.mem_cons,List.not_mem_nil,or_false] at h;subst h;exact⟨cc0,cc1⟩

end
section
variable {defs:String→Option Fn}{anc:String→List String}{n:Nat}{Q:V→Hp→Prop}{X:String→Hp→Prop}{H:Hp}
theorem NH {p:Addr}{ps:List (Int×Int)}{i:Int} (h:H p=some (.list (lv ps))) (h0:0≤i) (h1:i<ps.length) (hl:ps.length≤Lim) (hq:∀r,ps[i.toNat]?=some r→Q (pv r) H):Ce (.ref p) (.int i) Q H:=by
 rw[BJ h]
 rw[Ai] at hl
 have:i.toNat<ps.length:=by exact lB [_] [_,_] (.n 0) (.n 1) [.b (.v 0) (.t (.n 1)),.e (.t (.n 0)) (.v 0)] [1,1,1] rfl h1 (tnE (a:=i) (h0))
 exact⟨i.toNat,pv ps[i.toNat],⟨by exact lb [_] [] (.c (-4611686018427387904)) (.v 0) [.l (.c 0) (.v 0)] [1,1] rfl h0,by exact lb [_] [_] (.v 0) (.c 4611686018427387904) [.b (.v 0) (.t (.n 0)),.L (.n 0) (.c 16777216)] [1,1,1] rfl h1 hl⟩,II h0 (by rw[lv_length];exact h1),by simp [lv,this],hq _ (List.getElem?_eq_getElem this)⟩
end
noncomputable def kvI (p:Int×Int):Int×V:=(p.1,.int p.2)
theorem E8 (ps:List (Int×Int)):keys (ps.map kvI)=ps.map (·.1):=by simp [keys,kvI,Function.comp_def]
section
variable {defs:String→Option Fn}{anc:String→List String}{n:Nat}{Q:V→Hp→Prop}{X:String→Hp→Prop}{H:Hp}
theorem EK (h5:defs "pairs_of" = some AZ) {p:Addr}{ps:List (Int×Int)} (hp:H p=some (.dict (ps.map kvI))) (hl:ps.length≤63) (hn:(ps.map (·.1)).Nodup)
  (hq:∀qs a H',qs.Perm ps→(qs.map (·.1)).Pairwise (·≤·)→Ext H H'→H a=none→H' a=some (.list (lv qs))→Q (.ref a) H') :
  Aj defs anc (n+1) "pairs_of" [.ref p] Q X H:=by
 refine Ao h5 rfl ?_
 simp only[AZ]
 (simp only[List.map_cons,List.map_nil,List.length_cons,List.length_nil,Nat.reduceAdd,Nat.reduceSub,List.replicate,List.cons_append,List.nil_append,Al,Cu,AI,A6,A8,Ac,A3,BB,Ar,gZ,A0,true_and])
 rw[NJ hp]
 refine⟨by simp;exact lB [] [_] (.n 0) (.c 64) [.L (.n 0) (.c 63)] [1,1] rfl hl,fun js hj hs=>⟨?_,fun a ha=>?_⟩⟩
 ·have:=hj.length_eq;rw[List.length_map,Ai];simp at this;exact lA [] [_,_] (.n 0) (.c 16777216) [.L (.n 1) (.c 63),.E (.n 0) (.n 1)] [1,1,1] rfl hl this
 refine B2 (Hp.set_self _ _ _) ?_
 have hj:js.Perm (ps.map (·.1)):=by have:=E8 ps;rw[keys] at this;rwa [this] at hj
 have hp':=Ext.new (.list (js.map V.int)) ha _ _ hp
 have hjl:js.length=ps.length:=by have:=hj.length_eq;simpa using this
 let f:Int→Int×Int:=fun k=>(k,match C6 k (ps.map kvI) with | some (.int v)=>v | _=>0)
 have hf:∀q∈ps,C6 q.1 (ps.map kvI)=some (.int q.2):=fun q hq=>J2 (by rw[E8];exact hn) (List.mem_map.mpr ⟨q,hq,rfl⟩)
 have hf2:∀q∈ps,f q.1=q:=fun q hq=>by simp only[f,hf q hq]
 refine GS (f:=fun it=>match it with | .v (.int k)=>pv (f k) | _=>.none) (fun q hq=>by simp only[List.mem_cons,List.not_mem_nil,or_false] at hq;subst hq;exact Hp.set_self _ _ _) _ [] (by simp [Ai];exact lA [] [_,_] (.n 0) (.c 16777216) [.L (.n 1) (.c 63),.E (.n 0) (.n 1)] [1,1,1] rfl hl hjl) ?_ ?_
 ·intro it hit
  simp only[List.mem_map] at hit
  obtain⟨v,⟨k,hk,rfl⟩,rfl⟩:=hit
  refine⟨_,rfl,fun K hK=>?_⟩
  (simp only[sS,sZ,gS,gZ,A0])
  obtain⟨q,hq1,hq2⟩:=List.mem_map.mp (hj.mem_iff.mp hk)
  rw[Ct hp']
  subst hq2
  refine⟨_,hf q hq1,Nat.le_of_ble_eq_true rfl,?_⟩
  simp only[hf2 q hq1] at hK
  exact hK
 ·refine⟨by simp [Ai];exact lA [] [_,_] (.n 0) (.c 16777216) [.L (.n 1) (.c 63),.E (.n 0) (.n 1)] [1,1,1] rfl hl hjl,fun b hb=>?_⟩
  have hb0:H b=none:=(Ext.new _ ha).no hb
  refine hq (js.map f) b _ ?_ ?_ ((Ext.new _ ha).trans (.new _ hb)) hb0 ?_
  ·have h1:=hj.map f
   rw[List.map_map] at h1
   have h2:ps.map (f ∘ fun x=>x.1)=ps:=by
    exact (List.map_congr_left (g:=id) fun q hq=>hf2 q hq).trans (by simp)
   rw[h2] at h1;exact h1
  ·rw[List.map_map];simpa [f,Function.comp_def] using hs
  ·rw[Hp.set_self];simp [lv,Function.comp_def]
end
section
variable {defs:String→Option Fn}{n:Nat}{Q:V→Hp→Prop}{X:String→Hp→Prop}{H:Hp}
end
theorem Av {α:Type}{t:Tg}{w:List (Addr×Ob)}{body:Loc→(Loc→Hp→Prop)→Hp→Prop}{N:Loc→Hp→Prop}{f:α→It}{l:List α} (I:List α→Loc→Hp→Prop)
  (hw:∀as ρ H,I as ρ H→okH w H) (hN:∀ρ H,I l ρ H→N ρ H)
  (step:∀as b bs ρ H K,l=as++b :: bs→I as ρ H→(∀ρ' H',I (as++[b]) ρ' H'→K ρ' H')→∃ρ',Bt t (f b) ρ=some ρ'∧body ρ' K H) {ρ:Loc}{H:Hp} (h:I [] ρ H):Fh t w body (l.map f) ρ N H:=by
 have go:∀(bs as:List α) (ρ:Loc) (H:Hp),l=as++bs→I as ρ H→Fh t w body (bs.map f) ρ N H:=by
  intro bs
  induction bs with
  | nil=>intro as ρ H e i;rw[List.append_nil] at e;subst e;exact⟨hw _ _ _ i,hN _ _ i⟩
  | cons b bs ih =>
   intro as ρ H e i
   exact⟨hw _ _ _ i,step as b bs ρ H _ e i fun ρ' H' i'=>ih (as++[b]) ρ' H' (by rw[e];simp) i'⟩
 exact go l [] ρ H rfl h
theorem GA (ps:List (Int×Int)):(lv ps).map It.v=ps.map (fun p=>It.v (pv p)):=by simp [lv,Function.comp_def]
theorem AR {p:Addr}{o:Ob}{H:Hp} (h:H p=some o):okH [(p,o)] H:=fun q hq=>by
 simp only[List.mem_cons,List.not_mem_nil,or_false] at hq;subst hq;exact h
theorem BY {H:Hp}:okH [] H:=fun q hq=>by cases hq
theorem Dp {α:Type}{t:Tg}{w:List (Addr×Ob)}{ρ:Loc}{elt:Loc→(V→Hp→Prop)→Hp→Prop}{test:Loc→(Bool→Hp→Prop)→Hp→Prop}{Q:List V→Hp→Prop}{H:Hp} (g:α→It) (c:α→Bool) (f:α→V) (hw:okH w H) :
  ∀(l:List α) (acc:List V),acc.length+l.length≤Lim→(∀a∈l,∃ρ',Bt t (g a) ρ=some ρ'∧(∀K,K (c a) H→test ρ' K H)∧(c a=true→∀K,K (f a) H→elt ρ' K H))→Q (acc++(l.filter c).map f) H →
  AT t w ρ elt test (l.map g) acc Q H
 | [],acc,_,_,q=>by simp only[List.map_nil,AT];exact⟨hw,by simpa using q⟩
 | a :: l,acc,hl,he,q=>by
  simp only[List.map_cons,AT]
  obtain⟨ρ',e,k1,k2⟩:=he a (.head _)
  simp only[List.length_cons] at hl
  refine⟨hw,by exact lB [] [_,_,_] (.n 0) (.n 1) [.L (.a (.n 0) (.a (.n 2) (.c 1))) (.n 1)] [1,1] rfl hl,ρ',e,k1 _ ?_⟩
  by_cases hc:c a=true
  ·rw[if_pos hc]
   exact k2 hc _ (Dp g c f hw l (acc++[f a]) (by simp;exact lA [] [_,_,_] (.a (.a (.n 0) (.c 1)) (.n 1)) (.n 2) [.L (.a (.n 0) (.a (.n 1) (.c 1))) (.n 2)] [1,1] rfl hl) (fun x h=>he x (.tail _ h)) (by simpa [hc] using q))
  ·rw[if_neg hc]
   exact Dp g c f hw l acc (by exact lA [] [_,_,_] (.a (.n 0) (.n 1)) (.n 2) [.L (.a (.n 0) (.a (.n 1) (.c 1))) (.n 2)] [1,1] rfl hl) (fun x h=>he x (.tail _ h)) (by simpa [hc] using q)
theorem DG {α:Type}{t:Tg}{w:List (Addr×Ob)}{ρ:Loc}{elt:Loc→(V→Hp→Prop)→Hp→Prop}{Q:List V→Hp→Prop}{H:Hp} (g:α→It) (f:α→V) (hw:okH w H) {l:List α} (hl:l.length≤Lim)
  (he:∀a∈l,∃ρ',Bt t (g a) ρ=some ρ'∧∀K,K (f a) H→elt ρ' K H) (q:Q (l.map f) H):AT t w ρ elt (fun ξ K H₂=>K true H₂) (l.map g) [] Q H :=
 Dp g (fun ξ=>true) f hw l [] (by simpa using hl) (fun a ha=>let ⟨ρ',e,k⟩:=he a ha;⟨ρ',e,fun K hK=>hK,fun ξ=>k⟩) (by
  have:List.filter (fun _:α=>true) l=l:=by simp
  rw[this];exact q)
noncomputable def lk (v:Int):List (Int×Int)→Option Int
 | []=>none
 | p :: r=>if p.1=v then some p.2 else lk v r
noncomputable def BI (v c:Int):List (Int×Int)→List (Int×Int)
 | []=>[(v,c)]
 | p :: r=>if p.1=v then (p.1,c) :: r else p :: BI v c r
theorem Es {v:Int}:∀ {ps:List (Int×Int)},lk v ps=none ↔ v∉ps.map (·.1)
 | []=>by simp [lk]
 | p :: r=>by
  have ih:=Es (v:=v) (ps:=r)
  simp only[lk,List.map_cons,List.mem_cons,not_or]
  split
  ·rename_i e;simp [e]
  ·rename_i e;rw[ih];exact⟨fun h=>⟨fun q=>e q.symm,h⟩,(·.2)⟩
theorem Er {v c:Int}:∀ {ps:List (Int×Int)},lk v ps=some c→(v,c)∈ps
 | [],h=>by simp [lk] at h
 | p :: r,h=>by
  simp only[lk] at h
  split at h
  ·rename_i e;cases h;subst e;exact .head _
  ·exact .tail _ (Er h)
theorem Cs {v c:Int}:∀ {ps:List (Int×Int)},(ps.map (·.1)).Nodup→(v,c)∈ps→lk v ps=some c
 | p :: r,hn,hm=>by
  simp only[List.map_cons,List.nodup_cons] at hn
  rcases List.mem_cons.mp hm with e | hm
  ·subst e;simp [lk]
  ·have:v∈r.map (·.1):=List.mem_map.mpr ⟨_,hm,rfl⟩
   rw[lk,if_neg (by intro e;exact hn.1 (e▸this))]
   exact Cs hn.2 hm
theorem Hl {v:Int}:∀ {as bs:List (Int×Int)},v∉as.map (·.1)→lk v (as++bs)=lk v bs
 | [],bs,_=>rfl
 | p :: r,bs,h=>by
  simp only[List.map_cons,List.mem_cons,not_or] at h
  rw[List.cons_append,lk,if_neg (fun e=>h.1 e.symm)]
  exact Hl h.2
theorem BR {v c:Int}:∀ {ps:List (Int×Int)},EF v (.int c) (ps.map kvI)=(BI v c ps).map kvI
 | []=>rfl
 | p :: r=>by
  simp only[List.map_cons,BI]
  rw[show kvI p=(p.1,V.int p.2) from rfl,EF]
  split
  ·simp [kvI]
  ·rw[BR (ps:=r)];rfl
theorem Gm {v c:Int}:∀ {ps:List (Int×Int)},v∉ps.map (·.1)→BI v c ps=ps++[(v,c)]
 | [],_=>rfl
 | p :: r,h=>by
  simp only[List.map_cons,List.mem_cons,not_or] at h
  rw[BI,if_neg (fun e=>h.1 e.symm),Gm h.2];rfl
theorem CJ {v c:Int}:∀ {ps:List (Int×Int)},(ps.map (·.1)).Nodup→v∈ps.map (·.1)→BI v c ps=ps.map fun p=>if p.1=v then (v,c) else p
 | p :: r,hn,h=>by
  simp only[List.map_cons,List.nodup_cons] at hn
  simp only[BI,List.map_cons]
  split
  ·rename_i e
   have:List.map (fun p=>if p.1=v then (v,c) else p) r=r:=by
    refine (List.map_congr_left (g:=id) fun q hq=>?_).trans (by simp)
    have:q.1≠v:=fun z=>hn.1 (by rw[e,←z];exact List.mem_map.mpr ⟨q,hq,rfl⟩)
    simp [this]
   rw[this,e]
  ·rename_i e
   simp only[List.map_cons,List.mem_cons] at h
   rw[CJ hn.2 (h.resolve_left fun q=>e q.symm)]
theorem Fq {v c:Int}:∀ {ps:List (Int×Int)},(BI v c ps).map (·.1)=if v∈ps.map (·.1) then ps.map (·.1) else ps.map (·.1)++[v]
 | []=>by simp [BI]
 | p :: r=>by
  have ih:=Fq (v:=v) (c:=c) (ps:=r)
  simp only[BI,List.map_cons,List.mem_cons]
  by_cases e:p.1=v
  ·simp [e]
  ·rw[if_neg e]
   simp only[List.map_cons,ih]
   by_cases m:v∈r.map (·.1)
   ·rw[if_pos m,if_pos (.inr m)]
   ·rw[if_neg m,if_neg (by rintro (q | q);exact e q.symm;exact m q)];rfl
theorem Gk {v c:Int}{ps:List (Int×Int)} (h:(ps.map (·.1)).Nodup):((BI v c ps).map (·.1)).Nodup:=by
 rw[Fq];split
 ·exact h
 ·rename_i m;exact CN h m
theorem Iz {v c:Int}{ps:List (Int×Int)}:(BI v c ps).length≤ps.length+1:=by
 have:=congrArg List.length (Fq (v:=v) (c:=c) (ps:=ps))
 rw[List.length_map] at this
 rw[this];split <;> simp
abbrev EY (ps:List (Int×Int)):Prop:=(ps.map (·.1)).Pairwise (·≤·)
structure Till (ps:List (Int×Int)):Prop where
 pos:1≤ps.length
 len:ps.length≤10
 nodup:(ps.map (·.1)).Nodup
 srt:EY ps
 val:∀q∈ps,1≤q.1∧q.1≤1000
 cnt:∀q∈ps,0≤q.2∧q.2≤1000000000
abbrev Row:=List (Option Int)
noncomputable def ov:Option Int→V
 | none=>.none
 | some i=>.int i
noncomputable def lo (r:Row):List V:=r.map ov
theorem CB (r:Row):(lo r).length=r.length:=List.length_map ..
theorem OM {r:Row}{p:Nat}{x:Option Int} (h:r[p]?=some x):(lo r)[p]?=some (ov x):=by rw[lo,List.getElem?_map,h];rfl
theorem OL (r:Row) (p:Nat) (x:Option Int):(lo r).set p (ov x)=lo (r.set p x):=by rw[lo,lo,List.map_set]

noncomputable def BH (r:Row) (v c p:Nat):Option Int→Prop
 | none=>∀m,m≤c→m*v≤p→r[p-m*v]?=some none
 | some x=>(∃m,m≤c∧m*v≤p∧r[p-m*v]?=some (some (x-m)))∧∀m a,m≤c→m*v≤p→r[p-m*v]?=some (some a)→x≤a+m
theorem BH.one {r:Row}{v c p:Nat}{x y:Option Int} (h:BH r v c p x) (k:BH r v c p y):x=y:=by
 cases x with
 | none=>cases y with
  | none=>rfl
  | some y =>
   obtain⟨⟨m,h1,h2,h3⟩,_⟩:=k
   have:=h m h1 h2;rw[h3] at this;cases this
 | some x =>
  obtain⟨⟨m,h1,h2,h3⟩,k1⟩:=h
  cases y with
  | none=>have:=k m h1 h2;rw[h3] at this;cases this
  | some y =>
   obtain⟨⟨m',g1,g2,g3⟩,k2⟩:=k
   have:=k1 m' _ g1 g2 g3
   have:=k2 m _ h1 h2 h3
   congr 1;omega

structure Win (A:Nat→Option Int) (L:Int) (t:Nat) (cur:List (Int×Int)):Prop where
 mem:∀e∈cur,∃j:Nat,e.1=j∧j<t∧A j=some (e.2+j)
 srt:cur.Pairwise fun a b=>a.1<b.1∧a.2<b.2
 cov:∀(j:Nat) (a:Int),j<t→L≤j→A j=some a→∃e∈cur,(j:Int)≤e.1∧e.2≤a-j
theorem Win.nil (A:Nat→Option Int) (L:Int):Win A L 0 []:=⟨fun ξ h=>(by cases h),List.Pairwise.nil,fun j a h=>(by omega)⟩
theorem Win.skip {A:Nat→Option Int}{L:Int}{t:Nat}{cur:List (Int×Int)} (w:Win A L t cur) (h:A t=none):Win A L (t+1) cur where
 mem:=fun e he=>let ⟨j,h1,h2,h3⟩:=w.mem e he;⟨j,h1,by exact lB [] [_,_] (.n 0) (.a (.n 1) (.c 1)) [.B (.n 0) (.n 1)] [1,1] rfl h2,h3⟩
 srt:=w.srt
 cov:=fun j a hj hL hA=>by
  by_cases q:j=t
  ·subst q;rw[h] at hA;cases hA
  ·exact w.cov j a (by omega) hL hA
theorem Win.push {A:Nat→Option Int}{L:Int}{t:Nat}{cur suf:List (Int×Int)}{a:Int} (w:Win A L t (cur++suf)) (h:A t=some a) (h1:∀e∈suf,a-t≤e.2) (h2:∀e∈cur,e.2<a-t):Win A L (t+1) (cur++[((t:Int),a-t)]) where
 mem:=fun e he=>by
  rcases List.mem_append.mp he with q | q
  ·obtain⟨j,k1,k2,k3⟩:=w.mem e (List.mem_append.mpr (.inl q));exact⟨j,k1,by exact lB [] [_,_] (.n 0) (.a (.n 1) (.c 1)) [.B (.n 0) (.n 1)] [1,1] rfl k2,k3⟩
  ·simp only[List.mem_cons,List.not_mem_nil,or_false] at q;subst q
   exact⟨t,rfl,by exact lB [] [_] (.n 0) (.a (.n 0) (.c 1)) [] [1] rfl,by rw[h];congr 1;omega⟩
 srt:=by
  rw[List.pairwise_append]
  refine⟨(List.pairwise_append.mp w.srt).1,List.pairwise_singleton ..,fun x hx y hy=>?_⟩
  simp only[List.mem_cons,List.not_mem_nil,or_false] at hy;subst hy
  obtain⟨j,k1,k2,k3⟩:=w.mem x (List.mem_append.mpr (.inl hx))
  exact⟨by simp only;exact lb [_] [_,_] (.v 0) (.t (.n 0)) [.e (.v 0) (.t (.n 1)),.B (.n 1) (.n 0)] [1,1,1] rfl k1 k2,h2 x hx⟩
 cov:=fun j b hj hL hA=>by
  by_cases q:j=t
  ·subst q;rw[h] at hA;cases hA
   exact⟨_,List.mem_append.mpr (.inr (.head _)),by simp,by simp⟩
  ·obtain⟨e,he,e1,e2⟩:=w.cov j b (by omega) hL hA
   rcases List.mem_append.mp he with z | z
   ·exact⟨e,List.mem_append.mpr (.inl z),e1,e2⟩
   ·have:=h1 e z
    exact⟨_,List.mem_append.mpr (.inr (.head _)),by simp only;exact la [] [_,_] (.t (.n 0)) (.t (.n 1)) [.B (.n 0) (.a (.n 1) (.c 1))] [1,1] rfl hj,by simp only;exact la [_,_,_] [_,_] (.s (.v 0) (.t (.n 0))) (.s (.v 1) (.t (.n 1))) [.l (.v 2) (.s (.v 1) (.t (.n 1))),.l (.s (.v 0) (.t (.n 0))) (.v 2)] [1,1,1] rfl e2 this⟩
theorem Win.drop {A:Nat→Option Int}{L L':Int}{t:Nat}{old cur:List (Int×Int)} (w:Win A L t (old++cur)) (h:L≤L') (h1:∀e∈old,e.1<L'):Win A L' t cur where
 mem:=fun e he=>w.mem e (List.mem_append.mpr (.inr he))
 srt:=(List.pairwise_append.mp w.srt).2.1
 cov:=fun j a hj hL hA=>by
  obtain⟨e,he,e1,e2⟩:=w.cov j a hj (by exact la [_,_] [_] (.v 0) (.t (.n 0)) [.l (.v 0) (.v 1),.l (.v 1) (.t (.n 0))] [1,1,1] rfl h hL) hA
  rcases List.mem_append.mp he with z | z
  ·have:=h1 e z;omega
  ·exact⟨e,z,e1,e2⟩
theorem Win.least {r:Row}{v c s t:Nat}{cur:List (Int×Int)} (hs:s<v) (w:Win (fun j=>(r[s+j*v]?).getD none) ((t:Int)-c) (t+1) cur) (hlt:s+t*v<r.length) (hh:∀e r',cur=e :: r'→(t:Int)-c≤e.1) :
  BH r v c (s+t*v) (cur.head?.map fun e=>e.2+t):=by
 have at_:∀m,m≤t→s+t*v-m*v=s+(t-m)*v:=fun m hm=>by
  rw[Nat.sub_mul];have:=Nat.mul_le_mul_right v hm;exact lQ [] [_,_,_,_,_] (.n 0) (.a (.n 1) (.n 2)) [.E (.a (.n 0) (.n 3)) (.a (.n 1) (.n 4)),.E (.a (.n 2) (.n 3)) (.n 4)] [1,-1,1] [1,1,-1] rfl (nsE (a:=s+t*v) (b:=m*v) (lA [] [_,_,_] (.n 0) (.a (.n 1) (.n 2)) [.L (.n 0) (.n 2)] [1,1] rfl this)) (nsE (a:=t*v) (b:=m*v) (this))
 have le_:∀m,m*v≤s+t*v→m≤t:=fun m hm=>by
  rcases Nat.lt_or_ge t m with q | q
  ·have:=Nat.mul_le_mul_right v q
   rw[Nat.succ_mul] at this;exact lA [] [_,_,_,_,_,_] (.n 0) (.n 1) [.B (.n 2) (.n 3),.L (.n 4) (.a (.n 2) (.n 5)),.L (.a (.n 5) (.n 3)) (.n 4)] [0,1,1,1] rfl hs hm this
  ·exact q
 have in_:∀m,m≤t→∃x,r[s+(t-m)*v]?=some x:=fun m hm=>by
  have:(t-m)*v≤t*v:=Nat.mul_le_mul_right v (Nat.sub_le ..)
  exact⟨_,List.getElem?_eq_getElem (by exact lB [] [_,_,_,_] (.a (.n 0) (.n 1)) (.n 2) [.B (.a (.n 0) (.n 3)) (.n 2),.L (.n 1) (.n 3)] [1,1,1] rfl hlt this)⟩
 cases cur with
 | nil =>
  intro m hm hv
  have ht:=le_ m hv
  rw[at_ m ht]
  obtain⟨x,hx⟩:=in_ m ht
  cases x with
  | none=>exact hx
  | some a =>
   obtain⟨e,he,_⟩:=w.cov (t-m) a (by exact lB [] [_,_] (.n 0) (.a (.n 1) (.c 1)) [.L (.n 0) (.n 1)] [1,1] rfl (ns0 (a:=t) (b:=m))) (by exact la [] [_,_,_,_] (.s (.t (.n 0)) (.t (.n 1))) (.t (.n 2)) [.L (.n 3) (.n 1),.L (.n 0) (.a (.n 2) (.n 3))] [1,1,1] rfl hm (ns1 (a:=t) (b:=m))) (by simp only[hx];rfl)
   cases he
 | cons e r' =>
  obtain⟨j,k1,k2,k3⟩:=w.mem e (.head _)
  have hL:=hh e r' rfl
  have hj:r[s+j*v]?=some (some (e.2+j)):=by
   cases q:r[s+j*v]? with
   | none=>simp only[q] at k3;cases k3
   | some y=>simp only[q,Option.getD_some] at k3;rw[k3]
  refine⟨⟨t-j,by exact lA [_] [_,_,_,_] (.n 0) (.n 1) [.e (.v 0) (.t (.n 2)),.l (.s (.t (.n 3)) (.t (.n 1))) (.v 0),.E (.a (.n 0) (.n 2)) (.n 3)] [1,1,1,1] rfl k1 hL (nsE (a:=t) (b:=j) (lA [] [_,_] (.n 0) (.n 1) [.B (.n 0) (.a (.n 1) (.c 1))] [1,1] rfl k2)),?_,?_⟩,fun m a hm hv ha=>?_⟩
  ·have:(t-j)*v≤t*v:=Nat.mul_le_mul_right v (Nat.sub_le ..)
   exact lA [] [_,_,_] (.n 0) (.a (.n 1) (.n 2)) [.L (.n 0) (.n 2)] [1,1] rfl this
  ·rw[at_ _ (by exact lA [] [_,_] (.n 0) (.n 1) [.L (.n 0) (.n 1)] [1,1] rfl (ns0 (a:=t) (b:=j))),show t-(t-j)=j by exact lQ [] [_,_,_,_] (.n 0) (.n 1) [.E (.a (.n 0) (.n 2)) (.n 3),.E (.a (.n 2) (.n 1)) (.n 3)] [1,-1,1] [1,1,-1] rfl (nsE (a:=t) (b:=t-j) (lA [] [_,_] (.n 0) (.n 1) [.L (.n 0) (.n 1)] [1,1] rfl (ns0 (a:=t) (b:=j)))) (nsE (a:=t) (b:=j) (lA [] [_,_] (.n 0) (.n 1) [.B (.n 0) (.a (.n 1) (.c 1))] [1,1] rfl k2)),hj]
   show some (some (e.2+(j:Int)))=some (some (e.2+(t:Int)-((t-j:Nat):Int)))
   congr 2;exact lq [_] [_,_,_] (.a (.v 0) (.t (.n 0))) (.s (.a (.v 0) (.t (.n 1))) (.t (.n 2))) [.L (.n 1) (.a (.n 2) (.n 0)),.E (.a (.n 2) (.n 0)) (.n 1)] [1,0,-1] [1,0,1] rfl (ns1 (a:=t) (b:=j)) (nsE (a:=t) (b:=j) (lA [] [_,_] (.n 0) (.n 1) [.B (.n 0) (.a (.n 1) (.c 1))] [1,1] rfl k2))
  ·have ht:=le_ m hv
   rw[at_ m ht] at ha
   obtain⟨e',he',e1,e2⟩:=w.cov (t-m) a (by exact lB [] [_,_] (.n 0) (.a (.n 1) (.c 1)) [.L (.n 0) (.n 1)] [1,1] rfl (ns0 (a:=t) (b:=m))) (by exact la [] [_,_,_,_] (.s (.t (.n 0)) (.t (.n 1))) (.t (.n 2)) [.L (.n 3) (.n 1),.L (.n 0) (.a (.n 2) (.n 3))] [1,1,1] rfl hm (ns1 (a:=t) (b:=m))) (by simp only[ha];rfl)
   rcases List.mem_cons.mp he' with rfl | z
   ·simp only;exact la [_,_] [_,_,_] (.a (.v 0) (.t (.n 0))) (.a (.v 1) (.t (.n 1))) [.l (.v 0) (.s (.v 1) (.t (.n 2))),.L (.n 0) (.a (.n 2) (.n 1))] [1,1,1] rfl e2 (ns1 (a:=t) (b:=m))
   ·have:=((List.pairwise_cons.mp w.srt).1 e' z).2
    simp only;exact la [_,_,_] [_,_,_] (.a (.v 0) (.t (.n 0))) (.a (.v 1) (.t (.n 1))) [.l (.v 2) (.s (.v 1) (.t (.n 2))),.b (.v 0) (.v 2),.L (.n 0) (.a (.n 2) (.n 1))] [1,1,1,1] rfl e2 this (ns1 (a:=t) (b:=m))
end Mine.Internal
end

section
namespace Mine.Internal
noncomputable def AW:Fn:=⟨1,4,["till", "found", "value", "count"],
 (.cons (.asg 1 .dict0)
 (.cons (.for (.two 2 3) (.ex (.var 0)) (.cons (.setIt (.var 1) (.var 2) (.var 3))
  .nil))
 (.cons (.ret (.var 1))
 .nil)))⟩
noncomputable def BM:Fn:=⟨2,4,["till", "value", "one", "count"],
 (.cons (.for (.two 2 3) (.ex (.var 0)) (.cons (.ife (.cmp .eq (.var 2) (.var 1)) (.cons (.ret (.var 3))
   .nil) .nil)
  .nil))
 (.cons (.raise "NoKind" "the till has no such kind")
 .nil))⟩
noncomputable def Bg:Fn:=⟨3,4,["till", "value", "count", "counts"],
 (.cons (.asg 3 (.call "counts_of" (.cons (.var 0) .nil)))
 (.cons (.setIt (.var 3) (.var 1) (.var 2))
 (.cons (.ret (.call "pairs_of" (.cons (.var 3) .nil)))
 .nil)))⟩
noncomputable def Ew:Fn:=⟨3,4,["till", "value", "count", "there"],
 (.cons (.asg 3 (.call "count_of" (.cons (.var 0) (.cons (.var 1) .nil))))
 (.cons (.ex (.call "need_count" (.cons (.var 2) .nil)))
 (.cons (.ex (.call "need_count" (.cons (.bin .add (.var 3) (.var 2)) .nil)))
 (.cons (.ret (.call "with_count" (.cons (.var 0) (.cons (.var 1) (.cons (.bin .add (.var 3) (.var 2)) .nil)))))
 .nil))))⟩
noncomputable def Ev:Fn:=⟨3,4,["till", "value", "count", "there"],
 (.cons (.asg 3 (.call "count_of" (.cons (.var 0) (.cons (.var 1) .nil))))
 (.cons (.ex (.call "need_count" (.cons (.var 2) .nil)))
 (.cons (.ife (.cmp .gt (.var 2) (.var 3)) (.cons (.raise "TooFew" "more than lies there")
  .nil) .nil)
 (.cons (.ret (.call "with_count" (.cons (.var 0) (.cons (.var 1) (.cons (.bin .sub (.var 3) (.var 2)) .nil)))))
 .nil))))⟩
noncomputable def Eu:Fn:=⟨2,2,["till", "value"],
 (.cons (.ex (.call "need_kind" (.cons (.var 1) .nil)))
 (.cons (.ife (.cmp .isIn (.var 1) (.call "counts_of" (.cons (.var 0) .nil))) (.cons (.raise "Twice" "the kind is there")
  .nil) .nil)
 (.cons (.ife (.cmp .eq (.bc .len (.cons (.var 0) .nil)) (.glob "MOST_KINDS" 10)) (.cons (.raise "NoTill" "too many kinds")
  .nil) .nil)
 (.cons (.ret (.call "with_count" (.cons (.var 0) (.cons (.var 1) (.cons (.int 0) .nil)))))
 .nil))))⟩
noncomputable def DE:Fn:=⟨2,2,["till", "value", "pair"],
 (.cons (.ife (.cmp .gt (.call "count_of" (.cons (.var 0) (.cons (.var 1) .nil))) (.int 0)) (.cons (.raise "StillHeld" "pieces of the kind lie there")
  .nil) .nil)
 (.cons (.ife (.cmp .eq (.bc .len (.cons (.var 0) .nil)) (.int 1)) (.cons (.raise "NoTill" "it is the last kind")
  .nil) .nil)
 (.cons (.ret (.compIf (.var 2) (.one 2) (.ex (.var 0)) (.cmp .ne (.idx (.var 2) (.int 0)) (.var 1))))
 .nil)))⟩
end Mine.Internal
end

section
namespace Mine.Internal
noncomputable def C9:Fn:=⟨1,1,["due"],
 (.cons (.ife (.nt (.cmp2 .le .le (.int 0) (.var 0) (.glob "MOST_SUM" 1000))) (.cons (.raise "NoSum" "no sum")
  .nil) .nil)
 .nil)⟩
noncomputable def DF:Fn:=⟨5,10,["found", "ahead", "start", "value", "count", "waiting", "first", "turn", "place", "least"],
 (.cons (.asg 5 (.list .nil))
 (.cons (.asg 6 (.int 0))
 (.cons (.for (.two 7 8) (.enum (.range3 (.var 2) (.bc .len (.cons (.var 1) .nil)) (.var 3))) (.cons (.ife (.cmp .isNot (.idx (.var 1) (.var 8)) .none) (.cons (.asg 9 (.bin .sub (.idx (.var 1) (.var 8)) (.var 7)))
   (.cons (.whl (.bop true (.cons (.cmp .gt (.bc .len (.cons (.var 5) .nil)) (.var 6)) (.cons (.cmp .ge (.idx (.idx (.var 5) (.neg (.int 1))) (.int 1)) (.var 9)) .nil))) (.cons (.ex (.mt .pop (.var 5) .nil))
    .nil))
   (.cons (.ex (.mt .append (.var 5) (.cons (.tup (.cons (.var 7) (.cons (.var 9) .nil))) .nil)))
   .nil))) .nil)
  (.cons (.whl (.bop true (.cons (.cmp .lt (.var 6) (.bc .len (.cons (.var 5) .nil))) (.cons (.cmp .lt (.idx (.idx (.var 5) (.var 6)) (.int 0)) (.bin .sub (.var 7) (.var 4))) .nil))) (.cons (.asg 6 (.bin .add (.var 6) (.int 1)))
   .nil))
  (.cons (.ife (.cmp .lt (.var 6) (.bc .len (.cons (.var 5) .nil))) (.cons (.setIt (.var 0) (.var 8) (.bin .add (.idx (.idx (.var 5) (.var 6)) (.int 1)) (.var 7)))
   .nil) .nil)
  .nil))))
 .nil)))⟩
noncomputable def BL:Fn:=⟨3,5,["ahead", "value", "count", "found", "start", "one"],
 (.cons (.asg 3 (.comp .none (.one 5) (.ex (.var 0))))
 (.cons (.for (.one 4) (.range1 (.bc .min2 (.cons (.var 1) (.cons (.bc .len (.cons (.var 0) .nil)) .nil)))) (.cons (.ex (.call "fill" (.cons (.var 3) (.cons (.var 0) (.cons (.var 4) (.cons (.var 1) (.cons (.var 2) .nil)))))))
  .nil))
 (.cons (.ret (.var 3))
 .nil)))⟩
noncomputable def Fi:Fn:=⟨2,5,["till", "most", "rows", "value", "count", "due"],
 (.cons (.ex (.call "need_sum" (.cons (.var 1) .nil)))
 (.cons (.asg 2 (.list (.cons (.bin .add (.list (.cons (.int 0) .nil)) (.comp .none (.one 5) (.range1 (.var 1)))) .nil)))
 (.cons (.for (.two 3 4) (.ex (.var 0)) (.cons (.ex (.mt .append (.var 2) (.cons (.call "row_with" (.cons (.idx (.var 2) (.neg (.int 1))) (.cons (.var 3) (.cons (.var 4) .nil)))) .nil)))
  .nil))
 (.cons (.ret (.var 2))
 .nil))))⟩
noncomputable def BQ:Fn:=⟨4,7,["_law_ahead", "_law_at", "_law_value_here", "_law_count_here", "_law_found", "_law_many", "_law_few"],
 (.cons (.asg 4 .none)
 (.cons (.for (.one 5) (.range1 (.bin .add (.bc .min2 (.cons (.var 3) (.cons (.bin .fdiv (.var 1) (.var 2)) .nil))) (.int 1))) (.cons (.asg 6 (.idx (.var 0) (.bin .sub (.var 1) (.bin .mul (.var 5) (.var 2)))))
  (.cons (.ife (.bop true (.cons (.cmp .isNot (.var 6) .none) (.cons (.bop false (.cons (.cmp .is (.var 4) .none) (.cons (.cmp .lt (.bin .add (.var 6) (.var 5)) (.var 4)) .nil))) .nil))) (.cons (.asg 4 (.bin .add (.var 6) (.var 5)))
   .nil) .nil)
  .nil)))
 (.cons (.ret (.var 4))
 .nil)))⟩
noncomputable def CD:Fn:=⟨2,3,["_law_row_here", "_law_size", "_law_few"],
 (.cons (.ife (.bop false (.cons (.nt (.isi (.var 0) [.list])) (.cons (.cmp .ne (.bc .len (.cons (.var 0) .nil)) (.var 1)) .nil))) (.cons (.ret (.bool false))
  .nil) .nil)
 (.cons (.for (.one 2) (.ex (.var 0)) (.cons (.ife (.bop true (.cons (.cmp .isNot (.var 2) .none) (.cons (.nt (.call "_law_whole" (.cons (.var 2) .nil))) .nil))) (.cons (.ret (.bool false))
   .nil) .nil)
  .nil))
 (.cons (.ret (.bool true))
 .nil)))⟩
noncomputable def DC:Fn:=⟨3,5,["_law_rows", "_law_till", "_law_most_here", "_law_k", "_law_at"],
 (.cons (.ife (.bop false (.cons (.nt (.isi (.var 0) [.list])) (.cons (.cmp .ne (.bc .len (.cons (.var 0) .nil)) (.bin .add (.bc .len (.cons (.var 1) .nil)) (.int 1))) (.cons (.nt (.call "_law_row" (.cons (.idx (.var 0) (.int 0)) (.cons (.bin .add (.var 2) (.int 1)) .nil)))) .nil)))) (.cons (.ret (.bool false))
  .nil) .nil)
 (.cons (.ife (.cmp .ne (.idx (.var 0) (.int 0)) (.bin .add (.list (.cons (.int 0) .nil)) (.bin .mul (.list (.cons .none .nil)) (.var 2)))) (.cons (.ret (.bool false))
  .nil) .nil)
 (.cons (.for (.one 3) (.range1 (.bc .len (.cons (.var 1) .nil))) (.cons (.ife (.nt (.call "_law_row" (.cons (.idx (.var 0) (.bin .add (.var 3) (.int 1))) (.cons (.bin .add (.var 2) (.int 1)) .nil)))) (.cons (.ret (.bool false))
   .nil) .nil)
  (.cons (.for (.one 4) (.range1 (.bin .add (.var 2) (.int 1))) (.cons (.ife (.cmp .ne (.idx (.idx (.var 0) (.bin .add (.var 3) (.int 1))) (.var 4)) (.call "_law_least" (.cons (.idx (.var 0) (.var 3)) (.cons (.var 4) (.cons (.idx (.idx (.var 1) (.var 3)) (.int 0)) (.cons (.idx (.idx (.var 1) (.var 3)) (.int 1)) .nil)))))) (.cons (.ret (.bool false))
    .nil) .nil)
   .nil))
  .nil)))
 (.cons (.ret (.bool true))
 .nil))))⟩
end Mine.Internal
end

section
namespace Mine.Internal
open PySem (Str Addr)
noncomputable def Sts.forBody:Sts→Sts
 | .cons (.for _ _ b) _=>b
 | _=>.nil
theorem F4 {s L v t:Nat} (hv:0<v):t<Bj s L v ↔ s+t*v<L:=by
 unfold Bj
 have hv':(0:Int)<v:=by exact lb [] [_] (.c 0) (.t (.n 0)) [.B (.c 0) (.n 0)] [1,1] rfl hv
 rw[if_pos hv']
 have key:((t:Int)+1≤((L:Int)-s+v-1) / v) ↔ ((t:Int)+1)*v≤(L:Int)-s+v-1:=Int.le_ediv_iff_mul_le hv'
 have e:((t:Int)+1)*v=((t*v:Nat):Int)+v:=by rw[Int.add_mul,Int.one_mul,Int.natCast_mul]
 rw[e] at key
 generalize ((L:Int)-s+v-1) / v=q at key ⊢
 generalize t*v=w at key ⊢
 constructor
 ·intro h
  have h':=key.mp (Int.lt_toNat.mp h)
  exact lB [] [_,_,_,_] (.a (.n 0) (.n 1)) (.n 2) [.l (.a (.t (.n 1)) (.t (.n 3))) (.s (.a (.s (.t (.n 2)) (.t (.n 0))) (.t (.n 3))) (.c 1))] [1,1] rfl h'
 ·intro h
  exact Int.lt_toNat.mpr (key.mpr (by exact la [] [_,_,_,_] (.a (.t (.n 0)) (.t (.n 1))) (.s (.a (.s (.t (.n 2)) (.t (.n 3))) (.t (.n 1))) (.c 1)) [.B (.a (.n 3) (.n 0)) (.n 2)] [1,1] rfl h))
theorem B5 {N b:Nat}{as bs:List Nat} (h:List.range N=as++b :: bs):b=as.length∧as.length<N:=by
 have h1:=congrArg (fun l=>l[as.length]?) h
 have h2:=congrArg List.length h
 simp only[List.length_range,List.length_append,List.length_cons] at h2
 rw[List.getElem?_range (by exact lB [] [_,_,_] (.n 0) (.n 1) [.E (.n 1) (.a (.n 0) (.a (.n 2) (.c 1)))] [1,-1] rfl h2)] at h1
 simp at h1
 exact⟨h1.symm,by exact lB [] [_,_,_] (.n 0) (.n 1) [.E (.n 1) (.a (.n 0) (.a (.n 2) (.c 1)))] [1,-1] rfl h2⟩
section
variable {defs:String→Option Fn}{anc:String→List String}{n:Nat}{Q:V→Hp→Prop}{X:String→Hp→Prop}{H:Hp}
theorem D8 (h:defs "need_sum" = some C9) {v:Int} (h1:0≤v∧v≤1000→Q .none H) (h2:¬(0≤v∧v≤1000)→X "NoSum" H) :
  Aj defs anc (n+1) "need_sum" [.int v] Q X H:=by
 refine Ao h rfl ?_
 simp only[C9]
 (simp only[List.map_cons,List.map_nil,List.length_cons,List.length_nil,Nat.reduceAdd,Nat.sub_self,List.replicate,List.cons_append,List.nil_append,Ad,A7,Aa,BO,A5,F9,El,A3,gZ,A0,NT,A9,decide_eq_true_eq])
 refine OG (fun a b=>?_) fun a=>?_
 ·dsimp only[A4];(simp only[AL]);exact h1 ⟨a,b⟩
 ·dsimp only[A4];(simp only[By,true_and]);exact h2 a
theorem Mp {p:Addr}{r:Row}{i:Nat}{x:Option Int} (h:H p=some (.list (lo r))) (hx:r[i]?=some x) (hl:r.length≤2001) (hq:Q (ov x) H):Ce (.ref p) (.int (i:Int)) Q H:=by
 rw[BJ h]
 have hi:i<r.length:=by
  rcases Nat.lt_or_ge i r.length with q | q
  ·exact q
  ·rw[List.getElem?_eq_none q] at hx;cases hx
 exact⟨i,ov x,⟨by exact lb [] [_] (.c (-4611686018427387904)) (.t (.n 0)) [] [1] rfl,by exact lb [] [_,_] (.t (.n 0)) (.c 4611686018427387904) [.L (.n 1) (.c 2001),.B (.n 0) (.n 1)] [1,1,1] rfl hl hi⟩,Bz (by rw[CB];exact hi),OM hx,hq⟩
theorem HU {p:Addr}{r:Row}{i:Nat}{x:Option Int} (h:H p=some (.list (lo r))) (hx:r[i]?=some x) (hl:r.length≤1001) (hq:Q (ov x) H):Ce (.ref p) (.int (i:Int)) Q H:=Mp h hx (Nat.le_trans hl (Nat.le_of_ble_eq_true rfl)) hq
noncomputable def Fm (H H':Hp) (ds:List Addr):Prop:=∀a o,a∉ds→H a=some o→H' a=some o
inductive FillI (H:Hp) (F A Wt:Addr) (r f:Row) (s v c:Nat) (as:List Nat) (ρ:Loc) (H':Hp):Prop
 | mk (cur fr:List (Int×Int)) (f':Row) (x7 x8 x9:Option V) (e:ρ=[some (.ref F),some (.ref A),some (.int s),some (.int v),some (.int c),some (.ref Wt),some (.int (fr.length:Nat)),x7,x8,x9]) (e1:H' F=some (.list (lo f'))) (l1:f'.length=r.length) (e2:H' Wt=some (.list (lv (fr++cur)))) (l2:(fr++cur).length≤as.length) (hk:Fm H H' [F,Wt])
   (w:Win (fun j=>(r[s+j*v]?).getD none) ((as.length:Int)-1-c) as.length cur) (k1:∀t,t<as.length→∃x,f'[s+t*v]?=some x∧BH r v c (s+t*v) x) (k2:∀p,(∀t,t<as.length→p≠s+t*v)→f'[p]?=f[p]?)
inductive FillJ (cur:List (Int×Int)) (lim:Int) (H':Hp) (mk0:List (Int×Int)→Loc) (k:Nat) (ρ:Loc) (H'':Hp):Prop
 | mk (old new:List (Int×Int)) (eH:H''=H') (ec:cur=old++new) (ek:k=new.length) (ho:∀e∈old,e.1<lim) (eρ:ρ=mk0 old)
inductive FillK (H:Hp) (F Wt:Addr) (f':Row) (fr cur:List (Int×Int)) (low:Int) (ρ0:Loc) (k:Nat) (ρ:Loc) (H'':Hp):Prop
 | mk (new suf:List (Int×Int)) (ec:cur=new++suf) (ek:k=new.length) (hsuf:∀e∈suf,low≤e.2) (e1:H'' F=some (.list (lo f'))) (e2:H'' Wt=some (.list (lv (fr++new)))) (hk:Fm H H'' [F,Wt]) (eρ:ρ=ρ0)
theorem fillB (h5:defs "fill" = some DF) {F A:Addr}{r f:Row}{s v c:Nat} (hF:H F=some (.list (lo f))) (hA:H A=some (.list (lo r))) (hne:A≠F) (hlen:f.length=r.length) (hL:r.length≤2001) (hs:s<v) (hv:v≤2000) (hc:c≤1000000000)
  (h0:∀p,p<r.length→p % v=s→f[p]?=some none)
  (hq:∀f' H',f'.length=r.length→(∀p,p<r.length→p % v=s→∃x,f'[p]?=some x∧BH r v c p x)→(∀p,p % v≠s→f'[p]?=f[p]?)→H' F=some (.list (lo f'))→Fm H H' [F]→Q .none H') :
  Aj defs anc (n+1) "fill" [.ref F,.ref A,.int s,.int v,.int c] Q X H:=by
 refine Ao h5 rfl ?_
 simp only[DF]
 (simp only[List.map_cons,List.map_nil,List.length_cons,List.length_nil,Nat.reduceAdd,Nat.reduceSub,List.replicate,List.cons_append,List.nil_append,Ae,sS,sZ,AE,A8])
 refine⟨Nat.le_of_ble_eq_true rfl,fun Wt hW=>?_⟩
 have nF:F≠Wt:=AJ hF hW
 have nA:A≠Wt:=AJ hA hW
 dsimp only[A4]
 (simp only[Ae,sS,sZ,A9])
 dsimp only[A4]
 refine AC ⟨rfl,?_⟩
 (simp only[K1,LJ,A3,gS,gZ,A0,Ar,A6,A8,true_and])
 rw[AO (Ext.new _ hW _ _ hA),CB]
 (simp only[OH])
 refine⟨⟨by exact lb [] [_] (.c (-4611686018427387904)) (.t (.n 0)) [] [1] rfl,by exact lb [] [_,_] (.t (.n 0)) (.c 4611686018427387904) [.B (.n 0) (.n 1),.L (.n 1) (.c 2000)] [1,1,1] rfl hs hv⟩,⟨by exact lb [] [_] (.c (-4611686018427387904)) (.t (.n 0)) [] [1] rfl,by exact lb [] [_] (.t (.n 0)) (.c 4611686018427387904) [.L (.n 0) (.c 2001)] [1,1] rfl hL⟩,⟨by exact lb [] [_] (.c (-4611686018427387904)) (.t (.n 0)) [] [1] rfl,by exact lb [] [_] (.t (.n 0)) (.c 4611686018427387904) [.L (.n 0) (.c 2000)] [1,1] rfl hv⟩,by exact lf [] [_,_] [.B (.n 0) (.n 1),.e (.t (.n 1)) (.c 0)] [1,1] rfl hs,_,FN _ _ _ _,?_⟩
 let B:=(DF.body.drop 2).forBody
 have atp:∀t:Nat,((s:Int)+(t:Int)*(v:Int))=((s+t*v:Nat):Int):=fun t=>by rw[Int.natCast_add,Int.natCast_mul]
 have modp:∀t:Nat,(s+t*v) % v=s:=fun t=>by rw[Nat.add_mul_mod_self_right,Nat.mod_eq_of_lt hs]
 have wfin:∀(M:Nat),M≤2001→∀(t:Nat) (cur fr:List (Int×Int)) (f':Row) (x9:Option V) (H':Hp) (K:Loc→Hp→Prop),t<Bj s r.length v→H' F=some (.list (lo f'))→f'.length=r.length→f'[s+t*v]?=some none→H' Wt=some (.list (lv (fr++cur)))→(fr++cur).length≤M→Fm H H' [F,Wt]→Win (fun j=>(r[s+j*v]?).getD none) ((t:Int)-1-c) (t+1) cur →
   (∀(cur fr:List (Int×Int)) (f'':Row) (H'':Hp),H'' F=some (.list (lo f''))→f''.length=r.length→(∃x,f''[s+t*v]?=some x∧BH r v c (s+t*v) x)→(∀p,p≠s+t*v→f''[p]?=f'[p]?)→H'' Wt=some (.list (lv (fr++cur)))→(fr++cur).length≤M→Fm H H'' [F,Wt]→Win (fun j=>(r[s+j*v]?).getD none) ((t:Int)-c) (t+1) cur→K [some (.ref F),some (.ref A),some (.int s),some (.int v),some (.int c),some (.ref Wt),some (.int fr.length),some (.int t),some (.int (s+t*v:Nat)),x9] H'') →
   A4 ⟨Aj defs anc n,anc⟩ false (B.drop 1) K Q (fun c ξ H₁=>X c H₁) [some (.ref F),some (.ref A),some (.int s),some (.int v),some (.int c),some (.ref Wt),some (.int fr.length),some (.int t),some (.int (s+t*v:Nat)),x9] H':=by
  intro M hM t cur fr f' x9 H' K ht e1 l1 e0 e2 l2 hk w hK
  dsimp only[A4]
  show AH _ _ (.cons (.whl _ _) _) _ _ _ _ _
  refine DR (I:=FillJ cur ((t:Int)-c) H' fun old=>[some (.ref F),some (.ref A),some (.int s),some (.int v),some (.int c),some (.ref Wt),some (.int ((fr++old).length:Nat)),some (.int t),some (.int (s+t*v:Nat)),x9]) ?_ (n:=cur.length) ⟨[],cur,rfl,rfl,rfl,(fun ξ h=>by cases h),by simp⟩
  rintro k ρ H'' K' ⟨old,new,rfl,rfl,rfl,ho,rfl⟩ hK'
  have e2':H'' Wt=some (.list (lv ((fr++old)++new))):=by rw[e2,List.append_assoc]
  (simp only[An,Ak,At,Ab,A5,Ah,A3,gS,gZ,A0,Be,Ac,A9,Ar,A6,A8,true_and])
  rw[AO e2',lv_length]
  (simp only[EG,decide_eq_true_eq])
  have fin:(∀e r',new=e :: r'→(t:Int)-c≤e.1)→A4 ⟨Aj defs anc n,anc⟩ false (B.drop 2) K Q (fun c ξ H₁=>X c H₁) [some (.ref F),some (.ref A),some (.int s),some (.int v),some (.int c),some (.ref Wt),some (.int ((fr++old).length:Nat)),some (.int t),some (.int (s+t*v:Nat)),x9] H'':=by
   intro hh
   have w':=w.drop (L':=(t:Int)-c) (by exact la [] [_,_] (.s (.s (.t (.n 0)) (.c 1)) (.t (.n 1))) (.s (.t (.n 0)) (.t (.n 1))) [] [1] rfl) ho
   have hl:=w'.least hs ((F4 (by exact lB [] [_,_] (.c 0) (.n 0) [.B (.n 1) (.n 0)] [1,1] rfl hs)).mp ht) hh
   dsimp only[A4]
   show AH _ _ (.cons (.ife _ _ _) _) _ _ _ _ _
   (simp only[Ad,A7,Aa,Ab,A5,Ar,A6,A8,A3,gS,gZ,A0,true_and])
   rw[AO e2',lv_length]
   (simp only[EG,decide_eq_true_eq])
   refine AA (fun hlt=>?_) fun hlt=>?_
   ·cases new with
    | nil=>simp at hlt
    | cons e r' =>
     dsimp only[A4]
     (simp only[BS,A3,gS,gZ,A0,Ah,Ac,A9])
     refine NH e2' (by exact la [] [_] (.c 0) (.t (.n 0)) [] [1] rfl) hlt (by rw[Ai,List.append_assoc];exact lA [] [_,_] (.n 0) (.c 16777216) [.L (.n 1) (.c 2001),.L (.n 0) (.n 1)] [1,1,1] rfl hM l2) fun q hq'=>?_
     have:q=e:=by
      rw[show (((fr++old).length:Nat):Int).toNat=(fr++old).length by exact lQ [] [_,_] (.n 0) (.n 1) [.l (.t (.n 1)) (.t (.n 0)),.e (.t (.n 0)) (.t (.n 1))] [1,0,-1] [1,0,1] rfl (tn0 (a:=(↑(fr++old).length:Int))) (tnE (a:=(↑(fr++old).length:Int)) (la [] [_] (.c 0) (.t (.n 0)) [] [1] rfl)),List.getElem?_append_right (Nat.le_refl _),Nat.sub_self] at hq'
      cases hq';rfl
     subst this
     (simp only[CX,AQ])
     rw[set_L e1]
     have hp:s+t*v<f'.length:=by rw[l1];exact (F4 (by exact lB [] [_,_] (.c 0) (.n 0) [.B (.n 1) (.n 0)] [1,1] rfl hs)).mp ht
     refine⟨⟨by exact la [] [_,_] (.c 0) (.t (.a (.n 0) (.n 1))) [] [1] rfl,by rw[CB];exact lb [] [_,_,_] (.t (.a (.n 0) (.n 1))) (.t (.n 2)) [.B (.a (.n 0) (.n 1)) (.n 2)] [1,1] rfl hp⟩,?_⟩
     dsimp only[A4]
     (simp only[AL])
     rw[show (((s+t*v:Nat):Int)).toNat=s+t*v by exact lQ [] [_,_,_] (.n 0) (.a (.n 1) (.n 2)) [.l (.t (.a (.n 1) (.n 2))) (.t (.n 0)),.e (.t (.n 0)) (.t (.a (.n 1) (.n 2)))] [1,0,-1] [1,0,1] rfl (tn0 (a:=(↑(s+t*v):Int))) (tnE (a:=(↑(s+t*v):Int)) (la [] [_,_] (.c 0) (.t (.a (.n 0) (.n 1))) [] [1] rfl))]
     refine hK (q :: r') (fr++old) (f'.set (s+t*v) (some (q.2+t))) _ ?_ (by rw[List.length_set];exact l1) ⟨_,?_,hl⟩ (fun p hp'=>?_) ?_ (by rw[List.append_assoc];exact l2) (fun a o ha h=>?_) w'
     ·rw[Hp.set_self,←OL];rfl
     ·rw[List.getElem?_set_self hp];rfl
     ·rw[List.getElem?_set_ne (Ne.symm hp')]
     ·rw[Hp.set_ne _ (Ne.symm nF)];exact e2'
     ·rw[Hp.set_ne _ (by rintro rfl;exact ha (.head _))];exact hk a o ha h
   ·have:new=[]:=by
     cases new with
     | nil=>rfl
     | cons e r'=>simp at hlt;omega
    subst this
    dsimp only[A4]
    (simp only[AL])
    exact hK [] (fr++old) f' _ e1 l1 ⟨_,e0,hl⟩ (fun ξ ξ=>rfl) e2' (by rw[List.append_assoc];exact l2) hk w'
  refine Id (fun hlt=>?_) fun hlt=>fin fun e r' h=>by subst h;simp at hlt;exact la [_] [_,_,_,_] (.s (.t (.n 0)) (.t (.n 1))) (.v 0) [.l (.a (.t (.n 2)) (.a (.t (.n 3)) (.c 1))) (.t (.n 2))] [0,1] rfl hlt
  cases new with
  | nil=>simp at hlt
  | cons e r' =>
   refine NH e2' (by exact la [] [_] (.c 0) (.t (.n 0)) [] [1] rfl) hlt (by rw[Ai,List.append_assoc];exact lA [] [_,_] (.n 0) (.c 16777216) [.L (.n 1) (.c 2001),.L (.n 0) (.n 1)] [1,1,1] rfl hM l2) fun q hq'=>?_
   have:q=e:=by
    rw[show (((fr++old).length:Nat):Int).toNat=(fr++old).length by exact lQ [] [_,_] (.n 0) (.n 1) [.l (.t (.n 1)) (.t (.n 0)),.e (.t (.n 0)) (.t (.n 1))] [1,0,-1] [1,0,1] rfl (tn0 (a:=(↑(fr++old).length:Int))) (tnE (a:=(↑(fr++old).length:Int)) (la [] [_] (.c 0) (.t (.n 0)) [] [1] rfl)),List.getElem?_append_right (Nat.le_refl _),Nat.sub_self] at hq'
    cases hq';rfl
   subst this
   (simp only[CY,EG,decide_eq_true_eq])
   refine AA (fun hold=>?_) fun hold=>fin fun e' r'' h=>by cases h;exact (Int.not_lt.mp hold)
   dsimp only[AN]
   (simp only[Ae,sS,sZ,Ah,A9,A3,gS,gZ,A0,AQ])
   dsimp only[A4]
   (simp only[AL])
   refine hK' r'.length _ _ (by simp) ⟨old++[q],r',rfl,by simp,rfl,fun e he=>?_,by simp;exact lq [] [_,_] (.a (.a (.t (.n 0)) (.t (.n 1))) (.c 1)) (.a (.t (.n 0)) (.a (.t (.n 1)) (.c 1))) [] [1] [1] rfl⟩
   rcases List.mem_append.mp he with z | z
   ·exact ho e z
   ·simp only[List.mem_cons,List.not_mem_nil,or_false] at z;subst z;exact hold
 refine Av (I:=FillI H F A Wt r f s v c) ?_ ?_ ?_ ⟨[],[],f,_,_,_,rfl,by rw[Hp.set_ne _ nF];exact hF,hlen,Hp.set_self _ _ _,Nat.le_refl _,fun a o ha h=>Ext.new _ hW _ _ h,.nil _ _,(fun t ht=>by cases ht),fun p ξ=>rfl⟩
 ·rintro as ρ H' _;exact BY
 ·rintro ρ H' ⟨cur,fr,f',x7,x8,x9,rfl,e1,l1,e2,l2,hk,w,k1,k2⟩
  rw[List.length_range] at k1 k2
  dsimp only[A4]
  (simp only[AL])
  refine hq f' H' l1 (fun p hp hm=>?_) (fun p hm=>k2 p fun t ξ e=>hm (by rw[e,modp])) e1 fun a o ha h=>hk a o (fun z=>?_) h
  ·have:p=s+p / v*v:=by have:=Nat.div_add_mod p v;rw[hm,Nat.mul_comm] at this;exact lQ [] [_,_,_] (.n 0) (.a (.n 1) (.n 2)) [.E (.a (.n 2) (.n 1)) (.n 0)] [1,1] [1,-1] rfl this
   rw[this] at hp ⊢
   exact k1 _ ((F4 (by exact lB [] [_,_] (.c 0) (.n 0) [.B (.n 1) (.n 0)] [1,1] rfl hs)).mpr hp)
  ·simp only[List.mem_cons,List.not_mem_nil,or_false] at z ha
   rcases z with z | z
   ·exact ha z
   ·subst z;rw[hW] at h;cases h
 ·rintro as b bs ρ H' K hl ⟨cur,fr,f',x7,x8,x9,rfl,e1,l1,e2,l2,hk,w,k1,k2⟩ hK
  obtain⟨rfl,ht⟩:=B5 hl
  refine⟨_,rfl,?_⟩
  have hp:=(F4 (show 0<v by exact lB [] [_,_] (.c 0) (.n 0) [.B (.n 1) (.n 0)] [1,1] rfl hs)).mp ht
  have hN:as.length≤2000:=by
   have:=Nat.mul_le_mul_left as.length (show 1≤v by exact lA [] [_,_] (.c 1) (.n 0) [.B (.n 1) (.n 0)] [1,1] rfl hs)
   exact lA [] [_,_,_,_] (.n 0) (.c 2000) [.L (.n 1) (.c 2001),.B (.a (.n 2) (.n 3)) (.n 1),.L (.p (.n 0) 1) (.n 3)] [1,1,1,1] rfl hL hp this
  have hne':∀t,t<as.length→s+as.length*v≠s+t*v:=fun t h e=>by
   have:=Nat.mul_lt_mul_of_pos_right h (show 0<v by exact lB [] [_,_] (.c 0) (.n 0) [.B (.n 1) (.n 0)] [1,1] rfl hs)
   exact lf [] [_,_,_] [.E (.a (.n 0) (.n 1)) (.a (.n 0) (.n 2)),.B (.n 2) (.n 1)] [1,1] rfl e this
  have e0:f'[s+as.length*v]?=some none:=by rw[k2 _ hne',h0 _ hp (modp _)]
  obtain⟨x,hx⟩:∃x,r[s+as.length*v]?=some x:=⟨_,List.getElem?_eq_getElem hp⟩
  have hA':H' A=some (.list (lo r)):=hk _ _ (by simp [hne,nA]) hA
  have nxt:∀(cur fr:List (Int×Int)) (x9:Option V) (H':Hp),H' F=some (.list (lo f'))→H' Wt=some (.list (lv (fr++cur)))→(fr++cur).length≤as.length+1→Fm H H' [F,Wt]→Win (fun j=>(r[s+j*v]?).getD none) ((as.length:Int)-1-c) (as.length+1) cur →
    A4 ⟨Aj defs anc n,anc⟩ false (B.drop 1) K Q (fun c ξ H₁=>X c H₁) [some (.ref F),some (.ref A),some (.int s),some (.int v),some (.int c),some (.ref Wt),some (.int fr.length),some (.int as.length),some (.int (s+as.length*v:Nat)),x9] H':=by
   intro cur fr x9 H' e1 e2 l2 hk w
   refine wfin (as.length+1) (by exact lA [] [_] (.a (.n 0) (.c 1)) (.c 2001) [.L (.n 0) (.c 2000)] [1,1] rfl hN) as.length cur fr f' x9 H' K ht e1 l1 e0 e2 l2 hk w fun cur' fr' f'' H'' g1 g2 g3 g4 g5 g6 g7 g8=>hK _ _ ⟨cur',fr',f'',_,_,_,rfl,g1,g2,g5,?_,g7,?_,fun t h=>?_,fun p h=>?_⟩
   ·simpa using g6
   ·rw[List.length_append]
    have:((as.length + [as.length].length:Nat):Int)-1-c=(as.length:Int)-c:=by simp
    rw[this];exact g8
   ·rw[List.length_append] at h
    by_cases q:t=as.length
    ·subst q;exact g3
    ·obtain⟨x,h1,h2⟩:=k1 t (Nat.lt_of_le_of_ne (Nat.le_of_lt_succ h) q)
     exact⟨x,by rw[g4 _ (fun e=>hne' t (Nat.lt_of_le_of_ne (Nat.le_of_lt_succ h) q) e.symm)];exact h1,h2⟩
   ·rw[List.length_append] at h
    rw[g4 p (h as.length (by simp)),k2 p fun t ht=>h t (by simp;exact lB [] [_,_] (.n 0) (.a (.n 1) (.c 1)) [.B (.n 0) (.n 1)] [1,1] rfl ht)]
  dsimp only[AN]
  rw[show (0+(as.length:Int))=as.length by exact lq [] [_] (.a (.c 0) (.t (.n 0))) (.t (.n 0)) [] [1] [1] rfl,atp]
  (simp only[sS,sZ,Ad,A7,Aa,Ab,A5,BU,Ac,A3,gS,gZ,A0])
  refine Mp hA' hx (by exact hL) ?_
  cases x with
  | none =>
   show BC .isNot .none .none _ _
   (simp only[I9])
   rw[if_neg Bool.false_ne_true]
   exact nxt cur fr x9 H' e1 e2 (by exact lA [] [_,_] (.n 0) (.a (.n 1) (.c 1)) [.L (.n 0) (.n 1)] [1,1] rfl l2) hk (w.skip (by show (r[s+as.length*v]?).getD none=none;rw[hx];rfl))
  | some a =>
   show BC .isNot (.int a) .none _ _
   (simp only[G9])
   rw[if_pos trivial]
   dsimp only[A4]
   (simp only[Ae,sS,sZ,Ah,A3,gS,gZ,A0,Ac])
   refine Mp hA' hx (by exact hL) ?_
   show EZ .sub (.int a) _ _ _
   (simp only[Be])
   dsimp only[A4]
   refine DR (I:=FillK H F Wt f' fr cur (a-(as.length:Int)) [some (.ref F),some (.ref A),some (.int s),some (.int v),some (.int c),some (.ref Wt),some (.int (fr.length:Nat)),some (.int as.length),some (.int (s+as.length*v:Nat)),some (.int (a-as.length))]) ?_ (n:=cur.length) ⟨cur,[],by simp,rfl,(fun ξ h=>by cases h),e1,e2,hk,rfl⟩
   rintro k ρ H'' K' ⟨new,suf,rfl,rfl,hsuf,e1',e2',hk',rfl⟩ hK'
   have l3:(fr++new).length≤as.length:=by rw[←List.append_assoc,List.length_append] at l2;exact lA [] [_,_,_] (.n 0) (.n 1) [.L (.a (.n 0) (.n 2)) (.n 1)] [1,1] rfl l2
   have fin:(∀e∈new,e.2<a-(as.length:Int))→A4 ⟨Aj defs anc n,anc⟩ false (Sts.app (.cons (.ex (.mt .append (.var 5) (.cons (.tup (.cons (.var 7) (.cons (.var 9) .nil))) .nil))) .nil) (B.drop 1)) K Q (fun c ξ H₁=>X c H₁) [some (.ref F),some (.ref A),some (.int s),some (.int v),some (.int c),some (.ref Wt),some (.int (fr.length:Nat)),some (.int as.length),some (.int (s+as.length*v:Nat)),some (.int (a-as.length))] H'':=by
    intro hall
    dsimp only[A4]
    show AH _ _ (.cons (.ex _) _) _ _ _ _ _
    (simp only[Aa,BT,BV,A6,A8,AI,List.length_cons,List.length_nil,Nat.reduceAdd,A3,gS,gZ,A0])
    rw[r_L e2']
    refine⟨⟨by decide,by decide⟩,Nat.le_of_ble_eq_true rfl,?_⟩
    rw[Bk e2']
    refine⟨by rw[lv_length,Ai];exact lB [] [_,_] (.n 0) (.c 16777216) [.L (.n 1) (.c 2000),.L (.n 0) (.n 1)] [1,1,1] rfl hN l3,?_⟩
    refine nxt (new++[((as.length:Int),a-as.length)]) fr _ _ (by rw[Hp.set_ne _ nF];exact e1') (by rw[Hp.set_self,←List.append_assoc,CA (fr++new)];rfl) (by rw[←List.append_assoc,List.length_append];simp;simp at l3;exact l3) (fun b o hb h=>?_) (w.push (by show (r[s+as.length*v]?).getD none=some a;rw[hx];rfl) hsuf hall)
    rw[Hp.set_ne _ (by rintro rfl;exact hb (.tail _ (.head _)))];exact hk' b o hb h
   (simp only[An,Ak,At,Ab,A5,A3,gS,gZ,A0,Ac,A9,Dv,CW,Ar,A6,A8,true_and])
   rw[AO e2',lv_length]
   (simp only[DN,decide_eq_true_eq])
   refine Id (fun hlt=>?_) fun hlt=>fin fun e he=>?_
   case _ =>
    have:new≠[]:=by rintro rfl;simp at hlt
    obtain⟨new',e,rfl⟩:∃new' e,new=new'++[e]:=⟨_,_,(List.dropLast_concat_getLast this).symm⟩
    rw[BJ e2']
    refine⟨(fr++new').length,pv e,⟨by decide,by decide⟩,?_,?_,?_⟩
    ·rw[lv_length,EO (by simp;exact lB [] [_,_] (.c 0) (.a (.n 0) (.a (.n 1) (.c 1))) [] [1] rfl)];simp
    ·rw[←List.append_assoc,CA,List.getElem?_append_right (by rw[lv_length];exact Nat.le_refl _),lv_length,Nat.sub_self];rfl
    (simp only[CX,c_ge,decide_eq_true_eq])
    refine AA (fun hge=>?_) fun hge=>fin fun q hq'=>?_
    ·dsimp only[AN]
     (simp only[BT,BV,A8,A3,gS,gZ,A0])
     rw[r_L e2']
     refine⟨⟨by decide,by decide⟩,?_⟩
     rw[m_pop (xs:=lv (fr++new')) (x:=pv e) (by rw[e2',←List.append_assoc,CA];rfl)]
     dsimp only[A4]
     (simp only[AL])
     refine hK' new'.length _ _ (by simp) ⟨new',e :: suf,by simp,rfl,fun q hq'=>?_,by rw[Hp.set_ne _ nF];exact e1',Hp.set_self _ _ _,fun b o hb h=>?_,rfl⟩
     ·rcases List.mem_cons.mp hq' with rfl | z
      ·exact hge
      ·exact hsuf q z
     ·rw[Hp.set_ne _ (by rintro rfl;exact hb (.tail _ (.head _)))];exact hk' b o hb h
    ·rcases List.mem_append.mp hq' with z | z
     ·have hs1:=(List.pairwise_append.mp w.srt).1
      have:=((List.pairwise_append.mp hs1).2.2 q z e (.head _)).2
      exact lb [_,_,_] [_] (.v 0) (.s (.v 1) (.t (.n 0))) [.b (.v 2) (.s (.v 1) (.t (.n 0))),.b (.v 0) (.v 2)] [1,1,1] rfl (Int.not_le.mp hge) this
     ·simp only[List.mem_cons,List.not_mem_nil,or_false] at z;subst z;exact (Int.not_le.mp hge)
   case _ =>
    have:new=[]:=by
     cases new with
     | nil=>rfl
     | cons e r'=>simp at hlt;omega
    subst this;cases he
end
noncomputable def Kn (r:Row) (v c:Nat) (r':Row):Prop:=r'.length=r.length∧∀p,p<r.length→∃x,r'[p]?=some x∧BH r v c p x
section
variable {defs:String→Option Fn}{anc:String→List String}{n:Nat}{Q:V→Hp→Prop}{X:String→Hp→Prop}{H:Hp}
theorem Fm.ext {H H':Hp}{F:Addr} (h:Fm H H' [F]) (hF:H F=none):Ext H H':=fun a o e=>h a o (fun z=>by simp only[List.mem_cons,List.not_mem_nil,or_false] at z;subst z;rw[hF] at e;cases e) e
theorem Bq (n:Nat):Bm 0 1 n=(List.range n).map fun (k:Nat)=>It.v (.int (k:Int)):=by
 unfold Bm;apply List.map_congr_left;intro k _;simp
theorem minI (a b:Nat):(if (a:Int)<(b:Int) then (a:Int) else (b:Int))=((min b a:Nat):Int):=by
 by_cases h:a<b
 ·rw[if_pos (Int.ofNat_lt.mpr h),Nat.min_eq_right (Nat.le_of_lt h)]
 ·rw[if_neg (fun z=>h (Int.ofNat_lt.mp z)),Nat.min_eq_left (Nat.not_lt.mp h)]
theorem KJ (h1:defs "fill" = some DF) (h5:defs "row_with" = some BL) {A:Addr}{r:Row}{v c:Nat} (hA:H A=some (.list (lo r))) (hL:r.length≤2001) (hv0:1≤v) (hv:v≤2000) (hc:c≤1000000000)
  (hq:∀r' a H',Kn r v c r'→Ext H H'→H a=none→H' a=some (.list (lo r'))→Q (.ref a) H') :
  Aj defs anc (n+2) "row_with" [.ref A,.int v,.int c] Q X H:=by
 refine Ao h5 rfl ?_
 simp only[BL]
 (simp only[List.map_cons,List.map_nil,List.length_cons,List.length_nil,Nat.reduceAdd,Nat.reduceSub,List.replicate,List.cons_append,List.nil_append,Ae,sS,sZ,Cu,BU,BB,A3,gZ,A0,true_and])
 refine B2 hA ?_
 have hit:(lo r).map It.v=r.map fun x=>It.v (ov x):=by simp [lo,Function.comp_def]
 rw[hit]
 refine DG _ (fun ξ=>V.none) (AR hA) (by rw[Ai];exact lA [] [_] (.n 0) (.c 16777216) [.L (.n 0) (.c 2001)] [1,1] rfl hL) (fun x ξ=>⟨_,rfl,fun K hK=>hK⟩) ⟨by rw[List.length_map,Ai];exact lA [] [_] (.n 0) (.c 16777216) [.L (.n 0) (.c 2001)] [1,1] rfl hL,fun F hF=>?_⟩
 have nA:A≠F:=AJ hA hF
 have e0:r.map (fun ξ=>V.none)=lo (List.replicate r.length none):=by rw[lo,List.map_replicate];simp [ov,List.map_const']
 rw[e0]
 dsimp only[A4]
 refine AC ⟨rfl,?_⟩
 (simp only[F5,Ar,A6,A8,A3,gZ,A0,true_and,gS])
 rw[AO (Ext.new _ hF _ _ hA),CB]
 (simp only[Kf,HI])
 have eN:(if (r.length:Int)<(v:Int) then (r.length:Int) else (v:Int))=((min v r.length:Nat):Int):=minI _ _
 rw[eN]
 refine⟨⟨by exact lb [] [_] (.c (-4611686018427387904)) (.t (.n 0)) [] [1] rfl,Int.lt_of_le_of_lt (Int.ofNat_le.mpr (Nat.le_trans (Nat.min_le_right ..) hL)) (by decide)⟩,?_⟩
 rw[Int.toNat_natCast,Bq]
 refine Av (I:=fun as ρ H'=>∃f' x4,ρ=[some (.ref A),some (.int v),some (.int c),some (.ref F),x4,none]∧H' F=some (.list (lo f'))∧f'.length=r.length∧Fm H H' [F]∧(∀p,p<r.length→p % v<as.length→∃x,f'[p]?=some x∧BH r v c p x)∧(∀p,p<r.length→as.length≤p % v→f'[p]?=some none)) ?_ ?_ ?_
  ⟨List.replicate r.length none,_,rfl,Hp.set_self _ _ _,List.length_replicate ..,fun a o ha h=>Ext.new _ hF _ _ h,(fun p ξ h=>by cases h),fun p hp ξ=>by rw[List.getElem?_replicate,if_pos hp]⟩
 ·rintro as ρ H' _;exact BY
 ·rintro ρ H' ⟨f',x4,rfl,e1,l1,hk,k1,k2⟩
  rw[List.length_range] at k1
  dsimp only[A4]
  (simp only[Al,A3,gS,gZ,A0])
  refine hq f' F H' ⟨l1,fun p hp=>k1 p hp ?_⟩ (hk.ext hF) hF e1
  have h1:=Nat.mod_lt p (show v > 0 by exact lB [] [_] (.c 0) (.n 0) [.L (.c 1) (.n 0)] [1,1] rfl hv0)
  exact Nat.lt_min.mpr ⟨h1,Nat.lt_of_le_of_lt (Nat.mod_le p v) hp⟩
 ·rintro as b bs ρ H' K hl ⟨f',x4,rfl,e1,l1,hk,k1,k2⟩ hK
  obtain⟨rfl,ht⟩:=B5 hl
  refine⟨_,rfl,?_⟩
  dsimp only[AN]
  (simp only[sS,sZ,BT,Ag,A6,A8,A3,gS,gZ,A0,true_and])
  refine fillB h1 e1 (hk _ _ (by simp [nA]) hA) nA l1 hL (Nat.lt_of_lt_of_le ht (Nat.min_le_left ..)) hv hc (fun p hp hm=>k2 p hp (by exact lA [] [_,_] (.n 0) (.n 1) [.E (.n 1) (.n 0)] [1,-1] rfl hm)) fun f'' H'' g1 g2 g3 g4 g5=>?_
  dsimp only[A4]
  (simp only[AL])
  refine hK _ _ ⟨f'',_,rfl,g4,g1,fun a o ha h=>g5 a o ha (hk a o ha h),fun p hp hm=>?_,fun p hp hm=>?_⟩
  ·rw[List.length_append] at hm
   by_cases q:p % v=as.length
   ·exact g2 p hp q
   ·rw[g3 p q];exact k1 p hp (Nat.lt_of_le_of_ne (Nat.le_of_lt_succ hm) q)
  ·rw[List.length_append] at hm
   simp at hm
   rw[g3 p (by exact lf [] [_,_] [.L (.a (.n 0) (.c 1)) (.n 1),.E (.n 1) (.n 0)] [1,1] rfl hm)];exact k2 p hp (by exact lA [] [_,_] (.n 0) (.n 1) [.L (.a (.n 0) (.c 1)) (.n 1)] [1,1] rfl hm)
theorem H0 (h1:defs "fill" = some DF) (h5:defs "row_with" = some BL) {A:Addr}{r:Row}{v c:Nat} (hA:H A=some (.list (lo r))) (hL:r.length≤1001) (hv0:1≤v) (hv:v≤1000) (hc:c≤1000000000)
  (hq:∀r' a H',Kn r v c r'→Ext H H'→H a=none→H' a=some (.list (lo r'))→Q (.ref a) H') :
  Aj defs anc (n+2) "row_with" [.ref A,.int v,.int c] Q X H:=KJ h1 h5 hA (Nat.le_trans hL (Nat.le_of_ble_eq_true rfl)) hv0 (Nat.le_trans hv (Nat.le_of_ble_eq_true rfl)) hc hq
end
structure Tab (most:Nat) (ps:List (Int×Int)) (tr:List (Addr×Row)):Prop where
 len:tr.length=ps.length+1
 zero:∃a,tr[0]?=some (a,some 0 :: List.replicate most none)
 step:∀i p,ps[i]?=some p→∃a b,tr[i]?=some a∧tr[i+1]?=some b∧Kn a.2 p.1.toNat p.2.toNat b.2
 rows:∀x∈tr,x.2.length=most+1
noncomputable def InH (H:Hp) (tr:List (Addr×Row)):Prop:=∀x∈tr,H x.1=some (.list (lo x.2))
noncomputable def EE (tr:List (Addr×Row)):List V:=tr.map fun x=>V.ref x.1
section
variable {defs:String→Option Fn}{anc:String→List String}{n:Nat}{Q:V→Hp→Prop}{X:String→Hp→Prop}{H:Hp}
theorem Gh (h0:defs "need_sum" = some C9) (h1:defs "fill" = some DF) (h2:defs "row_with" = some BL) (h5:defs "table" = some Fi) {p:Addr}{ps:List (Int×Int)}{most:Int} (hp:H p=some (.list (lv ps))) (hl:ps.length≤100)
  (hv:∀q∈ps,1≤q.1∧q.1≤1000) (hc:∀q∈ps,0≤q.2∧q.2≤1000000000) (hX:¬(0≤most∧most≤1000)→X "NoSum" H)
  (hq:(0≤most∧most≤1000)→∀tr a H',Tab most.toNat ps tr→Ext H H'→H a=none→H' a=some (.list (EE tr))→InH H' tr→(∀x∈tr,H x.1=none∧x.1≠a)→(tr.map (·.1)).Nodup→Q (.ref a) H') :
  Aj defs anc (n+3) "table" [.ref p,.int most] Q X H:=by
 refine Ao h5 rfl ?_
 simp only[Fi]
 (simp only[List.map_cons,List.map_nil,List.length_cons,List.length_nil,Nat.reduceAdd,Nat.reduceSub,List.replicate,List.cons_append,List.nil_append,BT,Ag,A6,A8,A3,gS,gZ,A0,true_and])
 refine D8 h0 (fun hm=>?_) hX
 dsimp only[A4]
 (simp only[Ae,sS,sZ,AE,A6,A8,Ah,Cu,BU,F5,A3,gS,gZ,A0,HI,true_and,A9])
 obtain⟨M,rfl⟩:∃M:Nat,most=M:=⟨most.toNat,by exact lq [_] [_] (.v 0) (.t (.n 0)) [.e (.t (.n 0)) (.v 0),.l (.v 0) (.t (.n 0))] [1,1,0] [1,-1,0] rfl (tnE (a:=most) (hm.1)) (tn0 (a:=most))⟩
 have hM:M≤1000:=by exact lA [] [_] (.n 0) (.c 1000) [.l (.t (.n 0)) (.c 1000)] [1,1] rfl hm.2
 refine⟨Nat.le_of_ble_eq_true rfl,fun a0 ha0=>⟨⟨by exact lb [] [_] (.c (-4611686018427387904)) (.t (.n 0)) [.l (.c 0) (.t (.n 0))] [1,1] rfl hm.1,by exact lb [] [_] (.t (.n 0)) (.c 4611686018427387904) [.l (.t (.n 0)) (.c 1000)] [1,1] rfl hm.2⟩,?_⟩⟩
 rw[Int.toNat_natCast,Bq]
 refine DG _ (fun ξ=>V.none) BY (by rw[List.length_range,Ai];exact lA [] [_] (.n 0) (.c 16777216) [.l (.t (.n 0)) (.c 1000)] [1,1] rfl hm.2) (fun x ξ=>⟨_,rfl,fun K hK=>hK⟩) ⟨by rw[List.length_map,List.length_range,Ai];exact lA [] [_] (.n 0) (.c 16777216) [.l (.t (.n 0)) (.c 1000)] [1,1] rfl hm.2,fun a1 ha1=>?_⟩
 dsimp only
 rw[JX]
 have e0:[V.int 0]++(List.range M).map (fun ξ=>V.none)=lo (some 0 :: List.replicate M none):=by
  rw[lo,List.map_cons,List.map_replicate,List.map_const',List.length_range];rfl
 refine⟨_,_,Ext.new _ ha1 _ _ (Hp.set_self _ _ _),Hp.set_self _ _ _,?_⟩
 rw[e0]
 refine⟨by rw[CB,List.length_cons,List.length_replicate,Ai];exact lA [] [_] (.a (.n 0) (.c 1)) (.c 16777216) [.l (.t (.n 0)) (.c 1000)] [1,1] rfl hm.2,fun a2 ha2=>⟨Nat.le_of_ble_eq_true rfl,fun R hR=>?_⟩⟩
 have hE1:=(Ext.new (.list [V.int 0]) ha0).trans (.new (.list ((List.range M).map fun ξ=>V.none)) ha1)
 have hE2:=hE1.trans (.new (.list (lo (some 0 :: List.replicate M none))) ha2)
 have hE3:=hE2.trans (.new (.list [V.ref a2]) hR)
 have hR0:=hE2.no hR
 have h20:=hE1.no ha2
 have n2R:a2≠R:=AJ (Hp.set_self _ a2 _) hR
 have g2:=Ext.new (.list [V.ref a2]) hR _ _ (Hp.set_self _ a2 (.list (lo (some 0 :: List.replicate M none))))
 have gR:=Hp.set_self (((H.set a0 (.list [V.int 0])).set a1 (.list ((List.range M).map fun ξ=>V.none))).set a2 (.list (lo (some 0 :: List.replicate M none)))) R (.list [V.ref a2])
 generalize (((H.set a0 (.list [V.int 0])).set a1 (.list ((List.range M).map fun ξ=>V.none))).set a2 (.list (lo (some 0 :: List.replicate M none)))).set R (.list [V.ref a2])=H₁ at hE3 g2 gR ⊢
 dsimp only[A4]
 refine AC ⟨rfl,?_⟩
 (simp only[BB,A3,gZ,A0])
 refine B2 (hE3 _ _ hp) ?_
 rw[GA]
 refine Av (I:=fun as ρ H'=>∃tr x3 x4,ρ=[some (.ref p),some (.int M),some (.ref R),x3,x4,none]∧H' R=some (.list (EE tr))∧Tab M as tr∧InH H' tr∧Ext H H'∧(∀x∈tr,H x.1=none∧x.1≠R)∧(tr.map (·.1)).Nodup) ?_ ?_ ?_
  ⟨[(a2,some 0 :: List.replicate M none)],_,_,rfl,gR,⟨rfl,⟨a2,rfl⟩,(fun i q h=>by cases h),fun x hx=>by simp only[List.mem_cons,List.not_mem_nil,or_false] at hx;subst hx;simp⟩,(fun x hx=>by simp only[List.mem_cons,List.not_mem_nil,or_false] at hx;subst hx;exact g2),hE3,(fun x hx=>by simp only[List.mem_cons,List.not_mem_nil,or_false] at hx;subst hx;exact⟨h20,n2R⟩),by simp⟩
 ·rintro as ρ H' ⟨tr,x3,x4,rfl,e1,T,I,hE,hf,hn⟩;exact AR (hE _ _ hp)
 ·rintro ρ H' ⟨tr,x3,x4,rfl,e1,T,I,hE,hf,hn⟩
  dsimp only[A4]
  (simp only[Al,A3,gS,gZ,A0])
  exact hq hm tr R H' (by rw[Int.toNat_natCast];exact T) hE hR0 e1 I hf hn
 ·rintro as b bs ρ H' K hl' ⟨tr,x3,x4,rfl,e1,T,I,hE,hf,hn⟩ hK
  refine⟨_,rfl,?_⟩
  have hb:b∈ps:=by rw[hl'];simp
  have hlas:as.length≤100:=by rw[hl'] at hl;simp at hl;exact lA [] [_,_] (.n 0) (.c 100) [.L (.a (.n 0) (.a (.n 1) (.c 1))) (.c 100)] [1,1] rfl hl
  dsimp only[AN]
  (simp only[sS,sZ,BT,BV,A6,A8,Ag,A3,gS,gZ,A0,Ac,Dv,A9,CW,true_and])
  rw[r_L e1]
  refine⟨⟨by decide,by decide⟩,?_⟩
  rw[BJ e1]
  have hlt:as.length<tr.length:=by rw[T.len];exact lB [] [_] (.n 0) (.a (.n 0) (.c 1)) [] [1] rfl
  have hlast:tr[as.length]?=some tr[as.length]:=List.getElem?_eq_getElem hlt
  have hmem:tr[as.length]∈tr:=List.getElem_mem _
  refine⟨as.length,.ref tr[as.length].1,⟨by decide,by decide⟩,?_,?_,?_⟩
  ·rw[EE,List.length_map,EO (by exact lB [] [_,_] (.c 0) (.n 0) [.B (.n 1) (.n 0)] [1,1] rfl hlt),T.len];rfl
  ·rw[EE,List.getElem?_map,hlast];rfl
  skip
  obtain⟨v1,v2⟩:=hv b hb
  obtain⟨c1,c2⟩:=hc b hb
  have ev:b.1=(b.1.toNat:Nat):=by exact lq [_] [_] (.v 0) (.t (.n 0)) [.e (.t (.n 0)) (.v 0),.l (.v 0) (.t (.n 0))] [1,1,0] [1,-1,0] rfl (tnE (a:=b.fst) (la [_] [] (.c 0) (.v 0) [.l (.c 1) (.v 0)] [1,1] rfl v1)) (tn0 (a:=b.fst))
  have ec:b.2=(b.2.toNat:Nat):=by exact lq [_] [_] (.v 0) (.t (.n 0)) [.e (.t (.n 0)) (.v 0),.l (.v 0) (.t (.n 0))] [1,1,0] [1,-1,0] rfl (tnE (a:=b.snd) (c1)) (tn0 (a:=b.snd))
  rw[ev,ec]
  refine H0 h1 h2 (I _ hmem) (by rw[T.rows _ hmem];exact lA [] [_] (.a (.n 0) (.c 1)) (.c 1001) [.l (.t (.n 0)) (.c 1000)] [1,1] rfl hm.2) (by exact lA [_] [_] (.c 1) (.n 0) [.l (.c 1) (.v 0),.e (.v 0) (.t (.n 0))] [1,1,1] rfl v1 ev) (by exact lA [_] [_] (.n 0) (.c 1000) [.l (.v 0) (.c 1000),.e (.v 0) (.t (.n 0))] [1,1,-1] rfl v2 ev) (by exact lA [_] [_] (.n 0) (.c 1000000000) [.l (.v 0) (.c 1000000000),.e (.v 0) (.t (.n 0))] [1,1,-1] rfl c2 ec) fun r' a H'' hr hE' hna hea=>?_
  have e1':=hE' _ _ e1
  rw[Bk e1']
  have naR:a≠R:=by rintro rfl;rw[e1] at hna;cases hna
  refine⟨by rw[EE,List.length_map,T.len,Ai];exact lB [] [_] (.a (.n 0) (.c 1)) (.c 16777216) [.L (.n 0) (.c 100)] [1,1] rfl hlas,?_⟩
  dsimp only[A4]
  (simp only[AL])
  refine hK _ _ ⟨tr++[(a,r')],_,_,rfl,by rw[Hp.set_self,EE,EE,List.map_append];rfl,⟨by simp [T.len],?_,fun i q hi=>?_,fun x hx=>?_⟩,fun x hx=>?_,.setNew _ (hE.trans hE') hR0,fun x hx=>?_,?_⟩
  ·obtain⟨z,hz⟩:=T.zero
   exact⟨z,by rw[List.getElem?_append_left (by rw[T.len];exact lB [] [_] (.c 0) (.a (.n 0) (.c 1)) [] [1] rfl)];exact hz⟩
  ·by_cases q':i<as.length
   ·rw[List.getElem?_append_left q'] at hi
    obtain⟨x,y,k1,k2,k3⟩:=T.step i q hi
    exact⟨x,y,by rw[List.getElem?_append_left (by rw[T.len];exact lB [] [_,_] (.n 0) (.a (.n 1) (.c 1)) [.B (.n 0) (.n 1)] [1,1] rfl q')];exact k1,by rw[List.getElem?_append_left (by rw[T.len];exact lB [] [_,_] (.a (.n 0) (.c 1)) (.a (.n 1) (.c 1)) [.B (.n 0) (.n 1)] [1,1] rfl q')];exact k2,k3⟩
   ·have:i=as.length:=by
     rcases Nat.lt_or_ge as.length i with z | z
     ·rw[List.getElem?_eq_none (by simp;exact lA [] [_,_] (.a (.n 0) (.c 1)) (.n 1) [.B (.n 0) (.n 1)] [1,1] rfl z)] at hi;cases hi
     ·exact lQ [] [_,_] (.n 0) (.n 1) [.L (.n 1) (.n 0),.L (.n 0) (.n 1)] [1,1,0] [1,0,1] rfl (Nat.not_lt.mp q') z
    subst this
    rw[List.getElem?_append_right (Nat.le_refl _),Nat.sub_self] at hi
    cases hi
    exact⟨_,_,by rw[List.getElem?_append_left hlt];exact hlast,by rw[List.getElem?_append_right (by rw[T.len];exact lA [] [_] (.a (.n 0) (.c 1)) (.a (.n 0) (.c 1)) [] [1] rfl),T.len,Nat.sub_self];rfl,hr⟩
  ·rcases List.mem_append.mp hx with z | z
   ·exact T.rows x z
   ·simp only[List.mem_cons,List.not_mem_nil,or_false] at z;subst z;rw[hr.1,T.rows _ hmem]
  ·rcases List.mem_append.mp hx with z | z
   ·rw[Hp.set_ne _ (hf x z).2];exact hE' _ _ (I x z)
   ·simp only[List.mem_cons,List.not_mem_nil,or_false] at z;subst z;rw[Hp.set_ne _ naR];exact hea
  ·rcases List.mem_append.mp hx with z | z
   ·exact hf x z
   ·simp only[List.mem_cons,List.not_mem_nil,or_false] at z;subst z;exact⟨hE.no hna,naR⟩
  ·rw[List.map_append]
   refine CN hn fun z=>?_
   obtain⟨x,hx,ex⟩:=List.mem_map.mp z
   have:=I x hx;rw[ex,hna] at this;cases this
end
theorem Ln {H:Hp}{m:Nat} (a b:Option Int):veq (m+1) H (ov a) (ov b)=some (decide (a=b)):=by
 cases a with
 | none=>cases b with
  | none=>rfl
  | some b=>rfl
 | some a=>cases b with
  | none=>rfl
  | some b=>exact congrArg some (decide_eq_decide.mpr (Option.some.injEq a b▸Iff.rfl))
theorem MT {H:Hp}{m:Nat} (r q:Row):BE (veq (m+1) H) (lo r) (lo q)=some (decide (r=q)):=Hv Ln r q
theorem ML {B:Bool→Hp→Prop}{H:Hp}{a b:Option Int}:BC .ne (ov a) (ov b) B H=B (!decide (a=b)) H:=EV (Ln (m:=7) a b)
theorem Od {H:Hp}{m:Nat}{p q:Addr}{r r':Row} (h1:H p=some (.list (lo r))) (h2:H q=some (.list (lo r'))):veq (m+2) H (.ref p) (.ref q)=some (decide (r=r')):=(CI h1 h2).trans (MT r r')
theorem OY {B:Bool→Hp→Prop}{H:Hp}{p q:Addr}{r r':Row} (h1:H p=some (.list (lo r))) (h2:H q=some (.list (lo r'))):BC .ne (.ref p) (.ref q) B H=B (!decide (r=r')) H:=EV (Od (m:=6) h1 h2)
noncomputable def Ig (r:Row) (v p k:Nat):Option Int→Prop
 | none=>∀m,m<k→r[p-m*v]?=some none
 | some x=>(∃m,m<k∧r[p-m*v]?=some (some (x-m)))∧∀m a,m<k→r[p-m*v]?=some (some a)→x≤a+m
section
variable {defs:String→Option Fn}{anc:String→List String}{n:Nat}{Q:V→Hp→Prop}{X:String→Hp→Prop}{H:Hp}
theorem Jz (h5:defs "_law_least" = some BQ) {A:Addr}{r:Row}{p v c:Nat} (hA:H A=some (.list (lo r))) (hL:r.length≤1001) (hp:p<r.length) (hv0:1≤v) (hv:v≤1000) (hc:c≤1000000000)
  (hq:∀x,BH r v c p x→Q (ov x) H) :
  Aj defs anc (n+1) "_law_least" [.ref A,.int p,.int v,.int c] Q X H:=by
 refine Ao h5 rfl ?_
 simp only[BQ]
 (simp only[List.map_cons,List.map_nil,List.length_cons,List.length_nil,Nat.reduceAdd,Nat.reduceSub,List.replicate,List.cons_append,List.nil_append,Ae,sS,sZ,BU])
 dsimp only[A4]
 refine AC ⟨rfl,?_⟩
 (simp only[F5,Ah,A9,Ar,A6,A8,A3,gS,gZ,A0,Bi,Kf,AQ,HI,true_and])
 have ed:(p:Int) / (v:Int)=((p / v:Nat):Int):=by rw[Int.natCast_ediv]
 have hd:p / v≤p:=Nat.div_le_self ..
 have eN:(if (p:Int) / (v:Int)<(c:Int) then (p:Int) / (v:Int) else (c:Int))+1=((min c (p / v)+1:Nat):Int):=by rw[ed,minI];rfl
 rw[eN]
 have hN:min c (p / v)+1≤1002:=Nat.succ_le_succ (Nat.le_trans (Nat.min_le_right ..) (by exact lA [] [_,_,_] (.n 0) (.c 1001) [.L (.n 1) (.c 1001),.B (.n 2) (.n 1),.L (.n 0) (.n 2)] [1,1,1,1] rfl hL hp hd))
 refine⟨⟨by exact lb [] [_] (.c 0) (.t (.n 0)) [.L (.c 1) (.n 0)] [1,1] rfl hv0,by exact lb [] [_] (.t (.n 0)) (.c 1073741824) [.L (.n 0) (.c 1000)] [1,1] rfl hv⟩,⟨Int.lt_of_lt_of_le (by decide) (Int.natCast_nonneg _),Int.lt_of_le_of_lt (Int.ofNat_le.mpr hN) (by decide)⟩,?_⟩
 rw[Int.toNat_natCast,Bq]
 have hm:∀m,m<min c (p / v)+1 ↔ (m≤c∧m*v≤p):=fun m=>by
  rw[←Nat.le_div_iff_mul_le (by exact lB [] [_] (.c 0) (.n 0) [.L (.c 1) (.n 0)] [1,1] rfl hv0)];exact Nat.lt_succ_iff.trans Nat.le_min
 refine Av (I:=fun as ρ H'=>H'=H∧∃y x5 x6,ρ=[some (.ref A),some (.int p),some (.int v),some (.int c),some (ov y),x5,x6]∧Ig r v p as.length y) ?_ ?_ ?_ ⟨rfl,none,_,_,rfl,fun m h=>by cases h⟩
 ·rintro as ρ H' _;exact BY
 ·rintro ρ H' ⟨rfl,y,x5,x6,rfl,hy⟩
  rw[List.length_range] at hy
  dsimp only[A4]
  (simp only[Al,A3,gS,gZ,A0])
  refine hq y ?_
  cases y with
  | none=>exact fun m h1 h2=>hy m ((hm m).mpr ⟨h1,h2⟩)
  | some x=>exact⟨let ⟨m,h1,h2⟩:=hy.1;⟨m,((hm m).mp h1).1,((hm m).mp h1).2,h2⟩,fun m a h1 h2 h3=>hy.2 m a ((hm m).mpr ⟨h1,h2⟩) h3⟩
 ·rintro as b bs ρ H' K hl ⟨rfl,y,x5,x6,rfl,hy⟩ hK
  obtain⟨rfl,ht⟩:=B5 hl
  obtain⟨k1,k2⟩:=(hm _).mp ht
  refine⟨_,rfl,?_⟩
  dsimp only[AN]
  (simp only[sS,sZ,Ae,Ac,Ah,A3,gS,gZ,A0,FS,Be])
  refine⟨.inr ⟨by exact lb [] [_] (.c (-18446744073709551616)) (.t (.n 0)) [.L (.c 1) (.n 0)] [1,1] rfl hv0,by exact lb [] [_] (.t (.n 0)) (.c 18446744073709551616) [.L (.n 0) (.c 1000)] [1,1] rfl hv⟩,?_⟩
  obtain⟨z,hz⟩:∃z,r[p-as.length*v]?=some z:=⟨_,List.getElem?_eq_getElem (by exact lB [] [_,_,_] (.n 0) (.n 1) [.B (.n 2) (.n 1),.L (.n 0) (.n 2)] [1,1,1] rfl hp (ns0 (a:=p) (b:=as.length*v)))⟩
  rw[show (p:Int)-(as.length:Int)*(v:Int)=((p-as.length*v:Nat):Int) by rw[←Int.natCast_mul];exact lq [] [_,_,_] (.s (.t (.n 0)) (.t (.n 1))) (.t (.n 2)) [.E (.a (.n 2) (.n 1)) (.n 0),.L (.n 0) (.a (.n 2) (.n 1))] [1,1,0] [1,-1,0] rfl (nsE (a:=p) (b:=as.length*v) (k2)) (ns1 (a:=p) (b:=as.length*v))]
  refine HU hA hz (by exact hL) ?_
  dsimp only[A4]
  have keep:(∀a,z=some a→∃x,y=some x∧x≤a+as.length)→Ig r v p (as.length+1) y:=fun hk=>by
   cases y with
   | none =>
    intro m hm'
    by_cases q:m=as.length
    ·subst q
     cases z with
     | none=>exact hz
     | some a=>obtain⟨x,h,_⟩:=hk a rfl;cases h
    ·exact hy m (Nat.lt_of_le_of_ne (Nat.le_of_lt_succ hm') q)
   | some x =>
    refine⟨let ⟨m,h1,h2⟩:=hy.1;⟨m,by exact lB [] [_,_] (.n 0) (.a (.n 1) (.c 1)) [.B (.n 0) (.n 1)] [1,1] rfl h1,h2⟩,fun m a h1 h2=>?_⟩
    by_cases q:m=as.length
    ·subst q;rw[hz] at h2;cases h2
     obtain⟨x',h,h'⟩:=hk a rfl;cases h;exact h'
    ·exact hy.2 m a (Nat.lt_of_le_of_ne (Nat.le_of_lt_succ h1) q) h2
  have take:∀a,z=some a→(∀x,y=some x→a+as.length<x)→Ig r v p (as.length+1) (some (a+as.length)):=fun a ha hk=>by
   refine⟨⟨as.length,by exact lB [] [_] (.n 0) (.a (.n 0) (.c 1)) [] [1] rfl,by rw[hz,ha];congr 2;exact lq [_] [_] (.v 0) (.s (.a (.v 0) (.t (.n 0))) (.t (.n 0))) [] [1] [1] rfl⟩,fun m b h1 h2=>?_⟩
   by_cases q:m=as.length
   ·subst q;rw[hz,ha] at h2;cases h2;exact la [_] [_] (.a (.v 0) (.t (.n 0))) (.a (.v 0) (.t (.n 0))) [] [1] rfl
   ·cases y with
    | none=>have:=hy m (Nat.lt_of_le_of_ne (Nat.le_of_lt_succ h1) q);rw[this] at h2;cases h2
    | some x=>exact Int.le_trans (Int.le_of_lt (hk x rfl)) (hy.2 m b (Nat.lt_of_le_of_ne (Nat.le_of_lt_succ h1) q) h2)
  have len1:(as++[as.length]).length=as.length+1:=by simp
  cases z with
  | none =>
   (simp only[Ad,A7,Aa,An,Ak,At,Ab,A5,A3,gS,gZ,A0,Ah,BU])
   simp only[ov]
   (simp only[I9])
   rw[if_neg Bool.false_ne_true,if_neg Bool.false_ne_true]
   dsimp only[A4]
   (simp only[AL])
   exact hK _ _ ⟨rfl,y,_,_,rfl,by rw[len1];exact keep (fun a h=>by cases h)⟩
  | some a =>
   (simp only[Ad,A7,Aa,An,Ak,At,Ab,A5,A3,gS,gZ,A0,Ah,BU])
   cases y with
   | none =>
    simp only[ov]
    (simp only[AQ,Ia,G9])
    simp only[if_true,if_false,Bool.true_eq_false]
    dsimp only[A4]
    (simp only[Ae,sS,sZ,Ah,A3,gS,gZ,A0,AQ])
    dsimp only[A4]
    (simp only[AL])
    exact hK _ _ ⟨rfl,some (a+as.length),_,_,rfl,by rw[len1];exact take a rfl (fun x h=>by cases h)⟩
   | some x =>
    simp only[ov]
    (simp only[AQ,EG,decide_eq_true_eq,Ib,G9])
    simp only[if_true]
    refine AA (fun hlt=>?_) fun hlt=>?_
    ·dsimp only[A4]
     (simp only[Ae,sS,sZ,Ah,A3,gS,gZ,A0,AQ])
     dsimp only[A4]
     (simp only[AL])
     exact hK _ _ ⟨rfl,some (a+as.length),_,_,rfl,by rw[len1];exact take a rfl (fun x' h=>by cases h;exact hlt)⟩
    ·dsimp only[A4]
     (simp only[AL])
     exact hK _ _ ⟨rfl,some x,_,_,rfl,by rw[len1];exact keep (fun a' h=>by cases h;exact⟨x,rfl,by exact (Int.not_lt.mp hlt)⟩)⟩
theorem IA (h1:defs "_law_whole" = some B7) (h5:defs "_law_row" = some CD) {A:Addr}{r:Row}{k:Int} (hA:H A=some (.list (lo r))) (hk:k=r.length) (hq:Q (.bool true) H) :
  Aj defs anc (n+2) "_law_row" [.ref A,.int k] Q X H:=by
 refine Ao h5 rfl ?_
 simp only[CD]
 (simp only[List.map_cons,List.map_nil,List.length_cons,List.length_nil,Nat.reduceAdd,Nat.reduceSub,List.replicate,List.cons_append,List.nil_append,Ad,A7,Aa,An,Ak,At,Ab,A5,A3,gS,gZ,A0,Ar,A6,A8,true_and,BO,Cq])
 refine⟨true,Dk hA,?_⟩
 rw[AO hA,CB]
 (simp only[EN])
 subst hk
 simp only[Bool.not_true,if_true,decide_true]
 rw[if_neg Bool.false_ne_true]
 dsimp only[A4]
 refine AC ⟨rfl,?_⟩
 (simp only[BB,A3,gZ,A0])
 refine B2 hA ?_
 have hit:(lo r).map It.v=r.map fun x=>It.v (ov x):=by simp [lo,Function.comp_def]
 rw[hit]
 refine Av (I:=fun as ρ H'=>H'=H∧∃x2,ρ=[some (.ref A),some (.int (r.length:Nat)),x2]) ?_ ?_ ?_ ⟨rfl,_,rfl⟩
 ·rintro as ρ H' ⟨rfl,_⟩;exact AR hA
 ·rintro ρ H' ⟨rfl,x2,rfl⟩
  dsimp only[A4]
  (simp only[Al,CV])
  exact hq
 ·rintro as b bs ρ H' K hl ⟨rfl,x2,rfl⟩ hK
  refine⟨_,rfl,?_⟩
  dsimp only[AN]
  (simp only[sS,sZ,Ad,A7,Aa,An,Ak,At,BO,A5,Ag,A6,A8,A3,gS,gZ,A0,true_and,Ab,BU])
  cases b with
  | none =>
   simp only[ov]
   (simp only[I9])
   rw[if_neg Bool.false_ne_true,if_neg Bool.false_ne_true]
   dsimp only[A4]
   (simp only[AL])
   exact hK _ _ ⟨rfl,_,rfl⟩
  | some i =>
   simp only[ov]
   (simp only[G9])
   simp only[if_true]
   refine CH h1 ?_
   (simp only[A5])
   rw[if_neg (by simp)]
   dsimp only[A4]
   (simp only[AL])
   exact hK _ _ ⟨rfl,_,rfl⟩
end
theorem IC {tr:List (Addr×Row)}{i:Nat}{x:Addr×Row} (h:tr[i]?=some x):(EE tr)[i]?=some (.ref x.1):=by rw[EE,List.getElem?_map,h];rfl
theorem DV (tr:List (Addr×Row)):(EE tr).length=tr.length:=List.length_map ..
section
variable {defs:String→Option Fn}{anc:String→List String}{n:Nat}{Q:V→Hp→Prop}{X:String→Hp→Prop}{H:Hp}
theorem Db {p:Addr}{tr:List (Addr×Row)}{i:Nat}{x:Addr×Row} (h:H p=some (.list (EE tr))) (hx:tr[i]?=some x) (hl:tr.length≤1001) (hq:Q (.ref x.1) H):Ce (.ref p) (.int (i:Int)) Q H:=by
 rw[BJ h]
 have hi:i<tr.length:=by
  rcases Nat.lt_or_ge i tr.length with q | q
  ·exact q
  ·rw[List.getElem?_eq_none q] at hx;cases hx
 exact⟨i,_,⟨by exact lb [] [_] (.c (-4611686018427387904)) (.t (.n 0)) [] [1] rfl,by exact lb [] [_,_] (.t (.n 0)) (.c 4611686018427387904) [.L (.n 1) (.c 1001),.B (.n 0) (.n 1)] [1,1,1] rfl hl hi⟩,Bz (by rw[DV];exact hi),IC hx,hq⟩
theorem Il (h1:defs "_law_whole" = some B7) (h2:defs "_law_row" = some CD) (h3:defs "_law_least" = some BQ) (h5:Same defs "_law_walked" DC) {R T:Addr}{tr:List (Addr×Row)}{ps:List (Int×Int)}{M:Nat}
  (hR:H R=some (.list (EE tr))) (I:InH H tr) (tab:Tab M ps tr) (hT:H T=some (.list (lv ps))) (hM:M≤1000) (hl:ps.length≤100) (hv:∀q∈ps,1≤q.1∧q.1≤1000) (hc:∀q∈ps,0≤q.2∧q.2≤1000000000)
  (hq:∀H',Ext H H'→Q (.bool true) H') :
  Aj defs anc (n+3) "_law_walked" [.ref R,.ref T,.int M] Q X H:=by
 obtain⟨a0,hz⟩:=tab.zero
 have ht:tr.length≤1001:=by rw[tab.len];exact lA [] [_] (.a (.n 0) (.c 1)) (.c 1001) [.L (.n 0) (.c 100)] [1,1] rfl hl
 have m0:=List.mem_of_getElem? hz
 have I0:=I _ m0
 refine G8 h5 rfl ?_
 simp only[DC]
 (simp only[List.map_cons,List.map_nil,List.length_cons,List.length_nil,Nat.reduceAdd,Nat.reduceSub,List.replicate,List.cons_append,List.nil_append,Ad,A7,Aa,An,Ak,At,BO,A5,Ag,A6,A8,Ah,A9,A3,gS,gZ,A0,AQ,Ac,true_and,Ab,Ar,Cq])
 refine⟨true,Dk hR,?_⟩
 rw[AO hR,AO hT,lv_length,DV,tab.len]
 (simp only[AQ,EN])
 have e1:((ps.length+1:Nat):Int)=(ps.length:Int)+1:=by exact lq [] [_] (.t (.a (.n 0) (.c 1))) (.a (.t (.n 0)) (.c 1)) [] [1] [1] rfl
 simp only[Bool.not_true,if_true,e1,decide_true]
 refine Db (i:=0) hR hz ht ?_
 refine IA h1 h2 I0 (by rw[tab.rows _ m0];exact lq [] [_] (.a (.t (.n 0)) (.c 1)) (.t (.a (.n 0) (.c 1))) [] [1] [1] rfl) ?_
 (simp only[A5])
 rw[if_neg (by simp)]
 dsimp only[A4]
 (simp only[Ad,A7,Aa,Ab,A5,Ah,A3,gS,gZ,A0,AE,A6,A8,BU,A9,Ac])
 refine Db (i:=0) hR hz ht ?_
 refine⟨Nat.le_of_ble_eq_true rfl,fun b0 hb0=>⟨Nat.le_of_ble_eq_true rfl,fun b1 hb1=>?_⟩⟩
 (simp only[P3])
 refine⟨_,Hp.set_self _ _ _,⟨⟨by exact lb [] [_] (.c (-4611686018427387904)) (.t (.n 0)) [] [1] rfl,by exact lb [] [_] (.t (.n 0)) (.c 4611686018427387904) [.L (.n 0) (.c 1000)] [1,1] rfl hM⟩,by exact la [] [_] (.t (.n 0)) (.c 16777216) [.L (.n 0) (.c 1000)] [1,1] rfl hM⟩,by rw[List.length_replicate,Int.toNat_natCast,Ai];exact lA [] [_] (.n 0) (.c 16777216) [.L (.n 0) (.c 1000)] [1,1] rfl hM,fun b2 hb2=>?_⟩
 (simp only[JX])
 have hE1:=(Ext.new (.list [V.int 0]) hb0).trans (.new (.list [V.none]) hb1)
 have hE2:=hE1.trans (.new (.list (List.replicate (M:Int).toNat V.none)) hb2)
 refine⟨_,_,Ext.new _ hb2 _ _ (Ext.new _ hb1 _ _ (Hp.set_self _ _ _)),Hp.set_self _ _ _,by rw[List.length_append,List.length_replicate,Int.toNat_natCast,Ai];simp;exact lA [] [_] (.a (.c 1) (.n 0)) (.c 16777216) [.L (.n 0) (.c 1000)] [1,1] rfl hM,fun b3 hb3=>?_⟩
 have e0:[V.int 0]++List.replicate (M:Int).toNat V.none=lo (some 0 :: List.replicate M none):=by
  rw[lo,List.map_cons,List.map_replicate,Int.toNat_natCast];rfl
 rw[e0]
 have hE3:=hE2.trans (.new (.list (lo (some 0 :: List.replicate M none))) hb3)
 dsimp only at I0 ⊢
 rw[OY (hE3 _ _ I0) (Hp.set_self _ _ _)]
 simp only[decide_true,Bool.not_true]
 rw[if_neg Bool.false_ne_true]
 generalize ((((H.set b0 (.list [V.int 0])).set b1 (.list [V.none])).set b2 (.list (List.replicate (M:Int).toNat V.none))).set b3 (.list (lo (some 0 :: List.replicate M none))))=H₁ at hE3 ⊢
 have hR:=hE3 _ _ hR
 have hT:=hE3 _ _ hT
 have I:InH H₁ tr:=fun x hx=>hE3 _ _ (I x hx)
 dsimp only[A4]
 refine AC ⟨rfl,?_⟩
 (simp only[F5,Ar,A6,A8,A3,gS,gZ,A0,true_and])
 rw[AO hT,lv_length]
 (simp only[HI])
 refine⟨⟨by exact lb [] [_] (.c (-4611686018427387904)) (.t (.n 0)) [] [1] rfl,by exact lb [] [_] (.t (.n 0)) (.c 4611686018427387904) [.L (.n 0) (.c 100)] [1,1] rfl hl⟩,?_⟩
 rw[Int.toNat_natCast,Bq]
 refine Av (I:=fun as ρ H'=>H'=H₁∧∃x3 x4,ρ=[some (.ref R),some (.ref T),some (.int M),x3,x4]) ?_ ?_ ?_ ⟨rfl,_,_,rfl⟩
 ·rintro as ρ H' _;exact BY
 ·rintro ρ H' ⟨rfl,x3,x4,rfl⟩
  dsimp only[A4]
  (simp only[Al,CV])
  exact hq _ hE3
 ·rintro as b bs ρ H' K hl' ⟨rfl,x3,x4,rfl⟩ hK
  obtain⟨rfl,hb⟩:=B5 hl'
  refine⟨_,rfl,?_⟩
  obtain⟨x,y,k1,k2,k3⟩:=tab.step as.length ps[as.length] (List.getElem?_eq_getElem hb)
  have mx:=List.mem_of_getElem? k1
  have my:=List.mem_of_getElem? k2
  have hp:=List.getElem_mem hb
  obtain⟨v1,v2⟩:=hv _ hp
  obtain⟨c1,c2⟩:=hc _ hp
  dsimp only[AN]
  (simp only[sS,sZ,Ad,A7,Aa,BO,A5,Ag,A6,A8,Ah,A9,A3,gS,gZ,A0,AQ,Ac,true_and])
  rw[show (as.length:Int)+1=((as.length+1:Nat):Int) by exact lq [] [_] (.a (.t (.n 0)) (.c 1)) (.t (.a (.n 0) (.c 1))) [] [1] [1] rfl]
  refine Db hR k2 ht ?_
  refine IA h1 h2 (I _ my) (by rw[tab.rows _ my];exact lq [] [_] (.a (.t (.n 0)) (.c 1)) (.t (.a (.n 0) (.c 1))) [] [1] [1] rfl) ?_
  (simp only[A5])
  rw[if_neg (by simp)]
  dsimp only[A4]
  refine AC ⟨rfl,?_⟩
  (simp only[F5,Ah,A9,A3,gS,gZ,A0,AQ,HI])
  refine⟨⟨by exact lb [] [_] (.c (-4611686018427387904)) (.a (.t (.n 0)) (.c 1)) [] [1] rfl,by exact lb [] [_] (.a (.t (.n 0)) (.c 1)) (.c 4611686018427387904) [.L (.n 0) (.c 1000)] [1,1] rfl hM⟩,?_⟩
  rw[show ((M:Int)+1).toNat=M+1 by exact lQ [] [_,_] (.n 0) (.a (.n 1) (.c 1)) [.l (.a (.t (.n 1)) (.c 1)) (.t (.n 0)),.e (.t (.n 0)) (.a (.t (.n 1)) (.c 1))] [1,0,-1] [1,0,1] rfl (tn0 (a:=(↑M:Int)+1)) (tnE (a:=(↑M:Int)+1) (la [] [_] (.c 0) (.a (.t (.n 0)) (.c 1)) [] [1] rfl)),Bq]
  refine Av (I:=fun cs ρ H''=>H''=H'∧∃x4,ρ=[some (.ref R),some (.ref T),some (.int M),some (.int as.length),x4]) ?_ ?_ ?_ ⟨rfl,_,rfl⟩
  ·rintro cs ρ H'' _;exact BY
  ·rintro ρ H'' ⟨rfl,x4,rfl⟩
   dsimp only[A4]
   (simp only[AL])
   exact hK _ _ ⟨rfl,_,_,rfl⟩
  ·rintro cs d ds ρ H'' K' hl'' ⟨rfl,x4,rfl⟩ hK'
   obtain⟨rfl,hd⟩:=B5 hl''
   refine⟨_,rfl,?_⟩
   dsimp only[AN]
   (simp only[sS,sZ,Ad,A7,Aa,Ab,A5,Ag,A6,A8,Ac,A9,A3,gS,gZ,A0,true_and,Ah,AQ])
   rw[show (as.length:Int)+1=((as.length+1:Nat):Int) by exact lq [] [_] (.a (.t (.n 0)) (.c 1)) (.t (.a (.n 0) (.c 1))) [] [1] [1] rfl]
   refine Db hR k2 ht ?_
   have hcs:cs.length<x.2.length:=by rw[tab.rows _ mx];exact hd
   obtain⟨z,hz1,hz2⟩:=k3.2 cs.length hcs
   refine HU (I _ my) hz1 (by rw[tab.rows _ my];exact lA [] [_] (.a (.n 0) (.c 1)) (.c 1001) [.L (.n 0) (.c 1000)] [1,1] rfl hM) ?_
   refine Db hR k1 ht ?_
   refine NH hT (by exact la [] [_] (.c 0) (.t (.n 0)) [] [1] rfl) (by exact lb [] [_,_] (.t (.n 0)) (.t (.n 1)) [.B (.n 0) (.n 1)] [1,1] rfl hb) (by rw[Ai];exact lA [] [_] (.n 0) (.c 16777216) [.L (.n 0) (.c 100)] [1,1] rfl hl) fun q hq'=>?_
   rw[show ((as.length:Int)).toNat=as.length by exact lQ [] [_,_] (.n 0) (.n 1) [.l (.t (.n 1)) (.t (.n 0)),.e (.t (.n 0)) (.t (.n 1))] [1,0,-1] [1,0,1] rfl (tn0 (a:=(↑as.length:Int))) (tnE (a:=(↑as.length:Int)) (la [] [_] (.c 0) (.t (.n 0)) [] [1] rfl)),List.getElem?_eq_getElem hb] at hq'
   cases hq'
   (simp only[CY])
   refine NH hT (by exact la [] [_] (.c 0) (.t (.n 0)) [] [1] rfl) (by exact lb [] [_,_] (.t (.n 0)) (.t (.n 1)) [.B (.n 0) (.n 1)] [1,1] rfl hb) (by rw[Ai];exact lA [] [_] (.n 0) (.c 16777216) [.L (.n 0) (.c 100)] [1,1] rfl hl) fun q hq'=>?_
   rw[show ((as.length:Int)).toNat=as.length by exact lQ [] [_,_] (.n 0) (.n 1) [.l (.t (.n 1)) (.t (.n 0)),.e (.t (.n 0)) (.t (.n 1))] [1,0,-1] [1,0,1] rfl (tn0 (a:=(↑as.length:Int))) (tnE (a:=(↑as.length:Int)) (la [] [_] (.c 0) (.t (.n 0)) [] [1] rfl)),List.getElem?_eq_getElem hb] at hq'
   cases hq'
   (simp only[CX])
   have ev:ps[as.length].1=((ps[as.length].1.toNat:Nat):Int):=by exact lq [_] [_] (.v 0) (.t (.n 0)) [.e (.t (.n 0)) (.v 0),.l (.v 0) (.t (.n 0))] [1,1,0] [1,-1,0] rfl (tnE (a:=ps[as.length].fst) (la [_] [] (.c 0) (.v 0) [.l (.c 1) (.v 0)] [1,1] rfl v1)) (tn0 (a:=ps[as.length].fst))
   have ec:ps[as.length].2=((ps[as.length].2.toNat:Nat):Int):=by exact lq [_] [_] (.v 0) (.t (.n 0)) [.e (.t (.n 0)) (.v 0),.l (.v 0) (.t (.n 0))] [1,1,0] [1,-1,0] rfl (tnE (a:=ps[as.length].snd) (c1)) (tn0 (a:=ps[as.length].snd))
   rw[ev,ec]
   refine Jz h3 (I _ mx) (by rw[tab.rows _ mx];exact lA [] [_] (.a (.n 0) (.c 1)) (.c 1001) [.L (.n 0) (.c 1000)] [1,1] rfl hM) hcs (by exact lA [_] [_] (.c 1) (.n 0) [.l (.c 1) (.v 0),.e (.v 0) (.t (.n 0))] [1,1,1] rfl v1 ev) (by exact lA [_] [_] (.n 0) (.c 1000) [.l (.v 0) (.c 1000),.e (.v 0) (.t (.n 0))] [1,1,-1] rfl v2 ev) (by exact lA [_] [_] (.n 0) (.c 1000000000) [.l (.v 0) (.c 1000000000),.e (.v 0) (.t (.n 0))] [1,1,-1] rfl c2 ec) fun z' hz'=>?_
   rw[←hz2.one hz',ML]
   simp only[decide_true,Bool.not_true]
   rw[if_neg Bool.false_ne_true]
   dsimp only[A4]
   (simp only[AL])
   exact hK' _ _ ⟨rfl,_,rfl⟩
end
structure Def4 (defs:String→Option Fn):Prop where
 h0:defs "need_sum" = some C9
 h1:defs "fill" = some DF
 h2:defs "row_with" = some BL
 h3:defs "table" = some Fi
theorem ER {α:Type} (g:α→Int):∀l:List α,Da (l.map fun q=>V.int (g q))=some (l.map g)
 | []=>rfl
 | a :: l=>by rw[List.map_cons,Da,ER g l];rfl
section
variable {defs:String→Option Fn}{n:Nat}{Q:V→Hp→Prop}{X:String→Hp→Prop}{H:Hp}
end
theorem Tab.one {M:Nat}{ps:List (Int×Int)}{tr tk:List (Addr×Row)} (a:Tab M ps tr) (b:Tab M ps tk):tr.map (·.2)=tk.map (·.2):=by
 have key:∀(i:Nat) (x y:Addr×Row),tr[i]?=some x→tk[i]?=some y→x.2=y.2:=by
  intro i
  induction i with
  | zero=>intro x y hx hy;obtain⟨z,hz⟩:=a.zero;obtain⟨z',hz'⟩:=b.zero;rw[hx] at hz;rw[hy] at hz';cases hz;cases hz';rfl
  | succ i ih =>
   intro x y hx hy
   have hi:i<ps.length:=by
    rcases Nat.lt_or_ge i ps.length with q | q
    ·exact q
    ·rw[List.getElem?_eq_none (by rw[a.len];exact lA [] [_,_] (.a (.n 0) (.c 1)) (.a (.n 1) (.c 1)) [.L (.n 0) (.n 1)] [1,1] rfl q)] at hx;cases hx
   obtain⟨p,p',k1,k2,k3⟩:=a.step i _ (List.getElem?_eq_getElem hi)
   obtain⟨q,q',l1,l2,l3⟩:=b.step i _ (List.getElem?_eq_getElem hi)
   rw[hx] at k2;cases k2
   rw[hy] at l2;cases l2
   have e:=ih p q k1 l1
   rw[e] at k3
   refine List.ext_getElem? fun j=>?_
   rcases Nat.lt_or_ge j q.2.length with hj | hj
   ·obtain⟨u,u1,u2⟩:=k3.2 j hj
    obtain⟨w,w1,w2⟩:=l3.2 j hj
    rw[u1,w1,u2.one w2]
   ·rw[List.getElem?_eq_none (by rw[k3.1];exact hj),List.getElem?_eq_none (by rw[l3.1];exact hj)]
 refine List.ext_getElem? fun i=>?_
 rw[List.getElem?_map,List.getElem?_map]
 rcases Nat.lt_or_ge i tr.length with hi | hi
 ·have hi':i<tk.length:=by rw[b.len,←a.len];exact hi
  rw[List.getElem?_eq_getElem hi,List.getElem?_eq_getElem hi',Option.map_some,Option.map_some,key i _ _ (List.getElem?_eq_getElem hi) (List.getElem?_eq_getElem hi')]
 ·rw[List.getElem?_eq_none hi,List.getElem?_eq_none (by rw[b.len,←a.len];exact hi)]
end Mine.Internal
end

section
namespace Mine.Internal
noncomputable def CC:Fn:=⟨5,6,["ahead", "least", "due", "value", "count", "many"],
 (.cons (.asg 5 (.bc .min2 (.cons (.var 4) (.cons (.bin .fdiv (.var 2) (.var 3)) .nil))))
 (.cons (.whl (.bop false (.cons (.cmp .is (.idx (.var 0) (.bin .sub (.var 2) (.bin .mul (.var 5) (.var 3)))) .none) (.cons (.cmp .ne (.bin .add (.idx (.var 0) (.bin .sub (.var 2) (.bin .mul (.var 5) (.var 3)))) (.var 5)) (.var 1)) .nil))) (.cons (.asg 5 (.bin .sub (.var 5) (.int 1)))
  .nil))
 (.cons (.ret (.var 5))
 .nil)))⟩
noncomputable def Ee:Fn:=⟨2,9,["till", "due", "rows", "found", "left", "k", "value", "count", "many"],
 (.cons (.asg 2 (.call "table" (.cons (.var 0) (.cons (.var 1) .nil))))
 (.cons (.ife (.cmp .is (.idx (.idx (.var 2) (.neg (.int 1))) (.var 1)) .none) (.cons (.raise "NoChange" "no pieces make the sum")
  .nil) .nil)
 (.cons (.asg 3 (.list .nil))
 (.cons (.asg 4 (.var 1))
 (.cons (.for (.one 5) (.range3 (.bin .sub (.bc .len (.cons (.var 0) .nil)) (.int 1)) (.neg (.int 1)) (.neg (.int 1))) (.cons (.asg2 6 7 (.idx (.var 0) (.var 5)))
  (.cons (.asg 8 (.call "most_of" (.cons (.idx (.var 2) (.var 5)) (.cons (.idx (.idx (.var 2) (.bin .add (.var 5) (.int 1))) (.var 4)) (.cons (.var 4) (.cons (.var 6) (.cons (.var 7) .nil)))))))
  (.cons (.ife (.cmp .gt (.var 8) (.int 0)) (.cons (.ex (.mt .append (.var 3) (.cons (.tup (.cons (.var 6) (.cons (.var 8) .nil))) .nil)))
   .nil) .nil)
  (.cons (.asg 4 (.bin .sub (.var 4) (.bin .mul (.var 8) (.var 6))))
  .nil)))))
 (.cons (.ret (.rev (.var 3)))
 .nil))))))⟩
noncomputable def Cw:Fn:=⟨3,9,["_law_found", "_law_till", "_law_due", "_law_left", "_law_many", "_law_last", "_law_pair", "_law_there", "_law_one"],
 (.cons (.ife (.nt (.isi (.var 0) [.list])) (.cons (.ret (.neg (.int 1)))
  .nil) .nil)
 (.cons (.asg 3 (.var 2))
 (.cons (.asg 4 (.int 0))
 (.cons (.asg 5 (.int 0))
 (.cons (.for (.one 6) (.ex (.var 0)) (.cons (.ife (.bop false (.cons (.nt (.isi (.var 6) [.tuple])) (.cons (.cmp .ne (.bc .len (.cons (.var 6) .nil)) (.int 2)) (.cons (.nt (.call "_law_whole" (.cons (.idx (.var 6) (.int 0)) .nil))) (.cons (.nt (.call "_law_whole" (.cons (.idx (.var 6) (.int 1)) .nil))) .nil))))) (.cons (.ret (.neg (.int 1)))
   .nil) .nil)
  (.cons (.ife (.bop false (.cons (.cmp .le (.idx (.var 6) (.int 0)) (.var 5)) (.cons (.cmp .lt (.idx (.var 6) (.int 1)) (.int 1)) .nil))) (.cons (.ret (.neg (.int 1)))
   .nil) .nil)
  (.cons (.asg 7 (.int 0))
  (.cons (.for (.one 8) (.ex (.var 1)) (.cons (.ife (.cmp .eq (.idx (.var 8) (.int 0)) (.idx (.var 6) (.int 0))) (.cons (.asg 7 (.idx (.var 8) (.int 1)))
    .nil) .nil)
   .nil))
  (.cons (.ife (.cmp .gt (.idx (.var 6) (.int 1)) (.var 7)) (.cons (.ret (.neg (.int 1)))
   .nil) .nil)
  (.cons (.asg 5 (.idx (.var 6) (.int 0)))
  (.cons (.asg 3 (.bin .sub (.var 3) (.bin .mul (.idx (.var 6) (.int 0)) (.idx (.var 6) (.int 1)))))
  (.cons (.asg 4 (.bin .add (.var 4) (.idx (.var 6) (.int 1))))
  .nil)))))))))
 (.cons (.ife (.cmp .ne (.var 3) (.int 0)) (.cons (.ret (.neg (.int 1)))
  .nil) .nil)
 (.cons (.ret (.var 4))
 .nil)))))))⟩
noncomputable def D3:Fn:=⟨3,9,["_law_rows", "_law_till", "_law_due", "_law_found", "_law_at", "_law_k", "_law_value_here", "_law_few", "_law_many"],
 (.cons (.asg 3 (.list .nil))
 (.cons (.asg 4 (.var 2))
 (.cons (.for (.one 5) (.range3 (.bc .len (.cons (.var 1) .nil)) (.int 0) (.neg (.int 1))) (.cons (.asg 6 (.idx (.idx (.var 1) (.bin .sub (.var 5) (.int 1))) (.int 0)))
  (.cons (.asg 7 (.idx (.idx (.var 0) (.var 5)) (.var 4)))
  (.cons (.asg 8 (.bc .min2 (.cons (.idx (.idx (.var 1) (.bin .sub (.var 5) (.int 1))) (.int 1)) (.cons (.bin .fdiv (.var 4) (.var 6)) .nil))))
  (.cons (.whl (.cmp .ne (.idx (.idx (.var 0) (.bin .sub (.var 5) (.int 1))) (.bin .sub (.var 4) (.bin .mul (.var 8) (.var 6)))) (.bin .sub (.var 7) (.var 8))) (.cons (.asg 8 (.bin .sub (.var 8) (.int 1)))
   .nil))
  (.cons (.ife (.cmp .gt (.var 8) (.int 0)) (.cons (.ex (.mt .append (.var 3) (.cons (.tup (.cons (.var 6) (.cons (.var 8) .nil))) .nil)))
   .nil) .nil)
  (.cons (.asg 4 (.bin .sub (.var 4) (.bin .mul (.var 8) (.var 6))))
  .nil)))))))
 (.cons (.ex (.mt .reverse (.var 3) .nil))
 (.cons (.ret (.var 3))
 .nil)))))⟩
end Mine.Internal
end

section
namespace Mine.Internal
open PySem (Str Addr)
structure IsMost (r:Row) (v c p:Nat) (x:Int) (m:Nat):Prop where
 hc:m≤c
 hp:m*v≤p
 at_:r[p-m*v]?=some (some (x-m))
 top:∀m',m<m'→m'≤c→m'*v≤p→r[p-m'*v]?≠some (some (x-m'))
theorem IsMost.one {r:Row}{v c p:Nat}{x:Int}{m k:Nat} (a:IsMost r v c p x m) (b:IsMost r v c p x k):m=k:=by
 rcases Nat.lt_trichotomy m k with h | h | h
 ·exact absurd b.at_ (a.top k h b.hc b.hp)
 ·exact h
 ·exact absurd a.at_ (b.top m h a.hc a.hp)
noncomputable def Bp (rs:List Row) (k:Nat):Row:=(rs[k]?).getD []
abbrev PL:=List (Int×Int)
noncomputable def addP (l:PL) (v:Int) (m:Nat):PL:=if 0<m then l++[(v,(m:Int))] else l
inductive PickS (rs:List Row) (ps:PL) (k:Nat) (R:Nat→Int→PL→Prop) (p:Nat) (x:Int) (l:PL):Prop
 | mk (m:Nat) (q:Int×Int) (l':PL) (hq:ps[k]?=some q) (hx:(Bp rs (k+1))[p]?=some (some x)) (hm:IsMost (Bp rs k) q.1.toNat q.2.toNat p x m) (r:R (p-m*q.1.toNat) (x-m) l') (e:l=addP l' q.1 m)
noncomputable def Ei (rs:List Row) (ps:PL) (k:Nat):Nat→Int→PL→Prop:=Nat.rec (motive:=fun ξ=>Nat→Int→PL→Prop) (fun p x l=>p=0∧x=0∧l=[]) (fun k R=>PickS rs ps k R) k
theorem Ei.one {rs:List Row}{ps:PL}{k:Nat}:∀ {p:Nat}{x:Int}{l l':PL},Ei rs ps k p x l→Ei rs ps k p x l'→l=l':=by
 induction k with
 | zero=>intro p x l l' a b;rw[a.2.2,b.2.2]
 | succ k ih =>
  intro p x l l' a b
  obtain⟨m,q,l1,hq,hx,hm,r,rfl⟩:=a
  obtain⟨m',q',l2,hq',hx',hm',r',rfl⟩:=b
  cases hq.symm.trans hq'
  cases hm.one hm'
  rw[ih r r']
noncomputable def Co (l:PL):Int:=(l.map fun e=>e.1*e.2).sum
noncomputable def DK (l:PL):Int:=(l.map (·.2)).sum
structure Chg (l ps:PL):Prop where
 mem:∀e∈l,1≤e.2∧∃q∈ps,q.1=e.1∧e.2≤q.2
 srt:l.Pairwise fun a b=>a.1<b.1
theorem LH {ps:PL} (hs:EY ps) (hn:(ps.map (·.1)).Nodup):ps.Pairwise fun a b=>a.1<b.1:=by
 have hs:(ps.map (·.1)).Pairwise (·≤·):=hs
 rw[List.nodup_iff_pairwise_ne] at hn
 rw[List.pairwise_map] at hs hn
 refine (hs.and hn).imp fun h=>?_
 exact Int.lt_iff_le_and_ne.mpr h
theorem Ei.chg {rs:List Row}{ps:PL} (hs:ps.Pairwise fun a b=>a.1<b.1) (hv:∀q∈ps,1≤q.1∧q.1≤1000) (hc:∀q∈ps,0≤q.2∧q.2≤1000000000) {k:Nat}:∀ {p:Nat}{x:Int}{l:PL},Ei rs ps k p x l→Chg l (ps.take k)∧Co l=p∧DK l=x:=by
 induction k with
 | zero=>intro p x l a;obtain⟨rfl,rfl,rfl⟩:=a;exact⟨⟨(by first | exact Gv | exact nofun),.nil⟩,rfl,rfl⟩
 | succ k ih =>
  intro p x l a
  obtain⟨m,q,l',hq,hx,hm,r,rfl⟩:=a
  obtain⟨⟨i1,i2⟩,i3,i4⟩:=ih r
  have et:ps.take (k+1)=ps.take k++[q]:=by rw[List.take_add_one,hq];rfl
  have hmc:=hm.hc
  have hmp:=hm.hp
  by_cases h0:0<m
  ·rw[addP,if_pos h0]
   have hqm:q∈ps:=List.mem_of_getElem? hq
   obtain⟨v1,v2⟩:=hv q hqm
   obtain⟨c1,c2⟩:=hc q hqm
   have ev:((q.1.toNat:Nat):Int)=q.1:=by exact lq [_] [_] (.t (.n 0)) (.v 0) [.l (.v 0) (.t (.n 0)),.e (.t (.n 0)) (.v 0)] [1,0,-1] [1,0,1] rfl (tn0 (a:=q.fst)) (tnE (a:=q.fst) (la [_] [] (.c 0) (.v 0) [.l (.c 1) (.v 0)] [1,1] rfl v1))
   have ec:((q.2.toNat:Nat):Int)=q.2:=by exact lq [_] [_] (.t (.n 0)) (.v 0) [.l (.v 0) (.t (.n 0)),.e (.t (.n 0)) (.v 0)] [1,0,-1] [1,0,1] rfl (tn0 (a:=q.snd)) (tnE (a:=q.snd) (c1))
   refine⟨⟨fun e he=>?_,?_⟩,?_,?_⟩
   ·rw[et]
    rcases List.mem_append.mp he with z | z
    ·obtain⟨h1,y,hy,h2⟩:=i1 e z
     exact⟨h1,y,List.mem_append.mpr (.inl hy),h2⟩
    ·rw[List.mem_singleton] at z;subst z
     exact⟨by show (1:Int)≤m;exact la [] [_] (.c 1) (.t (.n 0)) [.B (.c 0) (.n 0)] [1,1] rfl h0,q,List.mem_append.mpr (.inr (.head _)),rfl,by show (m:Int)≤q.2;exact la [_] [_,_] (.t (.n 0)) (.v 0) [.L (.n 0) (.n 1),.e (.t (.n 1)) (.v 0)] [1,1,1] rfl hmc ec⟩
   ·rw[List.pairwise_append]
    refine⟨i2,List.pairwise_singleton ..,fun e he e' he'=>?_⟩
    rw[List.mem_singleton] at he';subst he'
    obtain⟨_,y,hy,h2,_⟩:=i1 e he
    have:=List.pairwise_append.mp (et▸(hs.sublist (List.take_sublist (k+1) ps)))
    rw[←h2]
    exact this.2.2 y hy q (.head _)
   ·rw[Co,List.map_append,List.sum_append]
    show Co l'+([q.1*(m:Int)]).sum=p
    rw[i3,List.sum_cons,List.sum_nil,Int.add_zero,Int.natCast_sub hmp,Int.natCast_mul,ev,Int.mul_comm]
    exact Int.sub_add_cancel _ _
   ·rw[DK,List.map_append,List.sum_append]
    show DK l'+([(m:Int)]).sum=x
    rw[i4,List.sum_cons,List.sum_nil,Int.add_zero]
    exact Int.sub_add_cancel _ _
  ·have e:m=0:=by exact lQ [] [_] (.n 0) (.c 0) [.L (.n 0) (.c 0)] [1,0] [1,1] rfl (Nat.not_lt.mp h0)
   subst e
   rw[Nat.zero_mul,Nat.sub_zero] at i3
   refine⟨⟨fun e he=>?_,i2⟩,i3,i4.trans (Int.sub_zero x)⟩
   obtain⟨h1,z,hz,h2⟩:=i1 e he
   exact⟨h1,z,by rw[et];exact List.mem_append.mpr (.inl hz),h2⟩
theorem Tab.row {M:Nat}{ps:PL}{tr:List (Addr×Row)} (T:Tab M ps tr) {k:Nat} (hk:k<tr.length):Bp (tr.map (·.2)) k=tr[k].2:=by
 rw[Bp,List.getElem?_map,List.getElem?_eq_getElem hk];rfl
theorem Tab.start {M:Nat}{ps:PL}{tr:List (Addr×Row)} (T:Tab M ps tr) {p:Nat}{x:Int} (h:(Bp (tr.map (·.2)) 0)[p]?=some (some x)):p=0∧x=0:=by
 obtain⟨a,hz⟩:=T.zero
 have e:Bp (tr.map (·.2)) 0=some 0 :: List.replicate M none:=by rw[Bp,List.getElem?_map,hz];rfl
 rw[e] at h
 cases p with
 | zero=>exact⟨rfl,(Option.some.inj (Option.some.inj h)).symm⟩
 | succ p =>
  rw[gS,List.getElem?_replicate] at h
  split at h
  ·cases h
  ·cases h
theorem K9 {c p v:Nat}:(if (p:Int) / (v:Int)<(c:Int) then (p:Int) / (v:Int) else (c:Int))=((min c (p / v):Nat):Int):=by
 rw[←Int.natCast_ediv]
 by_cases h:p / v<c
 ·rw[if_pos (Int.ofNat_lt.mpr h),Nat.min_eq_right (Nat.le_of_lt h)]
 ·rw[if_neg (fun q=>h (Int.ofNat_lt.mp q)),Nat.min_eq_left (Nat.not_lt.mp h)]
theorem K0 {p m v:Nat} (h:m*v≤p):(p:Int)-(m:Int)*(v:Int)=((p-m*v:Nat):Int):=by rw[Int.natCast_sub h,Int.natCast_mul]
structure Above (r:Row) (v c p:Nat) (x:Int) (m:Nat):Prop where
 hc:m≤c
 hp:m*v≤p
 top:∀m',m<m'→m'≤c→m'*v≤p→r[p-m'*v]?≠some (some (x-m'))
theorem Above.first {r:Row}{v c p:Nat}{x:Int} (hv:0<v):Above r v c p x (min c (p / v)) where
 hc:=Nat.min_le_left ..
 hp:=(Nat.le_div_iff_mul_le hv).mp (Nat.min_le_right ..)
 top:=fun m' h1 h2 h3=>absurd (Nat.le_min.mpr ⟨h2,(Nat.le_div_iff_mul_le hv).mpr h3⟩) (Nat.not_le.mpr h1)
theorem Above.most {r:Row}{v c p:Nat}{x:Int}{m:Nat} (a:Above r v c p x m) (h:r[p-m*v]?=some (some (x-m))):IsMost r v c p x m:=⟨a.hc,a.hp,h,a.top⟩
theorem Above.next {r:Row}{v c p:Nat}{x:Int}{m:Nat} (a:Above r v c p x m) (l:BH r v c p (some x)) (h:r[p-m*v]?≠some (some (x-m))):∃k,m=k+1∧Above r v c p x k:=by
 obtain⟨⟨m0,h1,h2,h3⟩,_⟩:=l
 have hlt:m0<m:=by
  rcases Nat.lt_trichotomy m0 m with q | q | q
  ·exact q
  ·subst q;exact absurd h3 h
  ·exact absurd h3 (a.top m0 q h1 h2)
 cases m with
 | zero=>cases hlt
 | succ k =>
  refine⟨k,rfl,⟨Nat.le_of_succ_le a.hc,Nat.le_trans (Nat.mul_le_mul_right v (Nat.le_succ k)) a.hp,fun m' g1 g2 g3=>?_⟩⟩
  rcases Nat.lt_or_ge (k+1) m' with q | q
  ·exact a.top m' q g2 g3
  ·cases Nat.le_antisymm q g1;exact h
theorem Above.cell {r:Row}{v c p:Nat}{x:Int}{m:Nat} (a:Above r v c p x m) (hp:p<r.length):∃z,r[p-m*v]?=some z:=⟨_,List.getElem?_eq_getElem (Nat.lt_of_le_of_lt (Nat.sub_le ..) hp)⟩
section
variable {defs:String→Option Fn}{anc:String→List String}{n:Nat}{Q:V→Hp→Prop}{X:String→Hp→Prop}{H:Hp}
theorem HP (h5:defs "most_of" = some CC) {A:Addr}{r:Row}{p v c:Nat}{x:Int} (hA:H A=some (.list (lo r))) (hL:r.length≤1001) (hp:p<r.length) (hv0:1≤v) (hv:v≤1000) (l:BH r v c p (some x))
  (hq:∀m:Nat,IsMost r v c p x m→Q (.int m) H) :
  Aj defs anc (n+1) "most_of" [.ref A,.int x,.int p,.int v,.int c] Q X H:=by
 refine Ao h5 rfl ?_
 simp only[CC]
 (simp only[List.map_cons,List.map_nil,List.length_cons,List.length_nil,Nat.reduceAdd,Nat.reduceSub,List.replicate,List.cons_append,List.nil_append,Ae,sS,sZ,Ar,A6,A8,Ah,A3,gS,gZ,A0,Bi,Kf,true_and])
 refine⟨⟨by exact lb [] [_] (.c 0) (.t (.n 0)) [.L (.c 1) (.n 0)] [1,1] rfl hv0,by exact lb [] [_] (.t (.n 0)) (.c 1073741824) [.L (.n 0) (.c 1000)] [1,1] rfl hv⟩,?_⟩
 rw[K9]
 dsimp only[A4]
 refine DR (I:=fun k ρ H'=>H'=H∧ρ=[some (.ref A),some (.int x),some (.int p),some (.int v),some (.int c),some (.int (k:Int))]∧Above r v c p x k) ?_ (n:=min c (p / v)) ⟨rfl,rfl,.first hv0⟩
 rintro k ρ H' K ⟨rfl,rfl,a⟩ hK
 obtain⟨z,hz⟩:=a.cell hp
 have sm:Sm (k:Int)∨Sm (v:Int):=.inr ⟨by exact lb [] [_] (.c (-18446744073709551616)) (.t (.n 0)) [.L (.c 1) (.n 0)] [1,1] rfl hv0,by exact lb [] [_] (.t (.n 0)) (.c 18446744073709551616) [.L (.n 0) (.c 1000)] [1,1] rfl hv⟩
 have go:r[p-k*v]?≠some (some (x-k))→AN ⟨Aj defs anc n,anc⟩ false (.cons (.asg 5 (.bin .sub (.var 5) (.int 1))) .nil) Q (fun c ξ H₁=>X c H₁) [some (.ref A),some (.int x),some (.int p),some (.int v),some (.int c),some (.int (k:Int))] K H':=fun hne=>by
  obtain⟨j,rfl,a'⟩:=a.next l hne
  dsimp only[AN]
  (simp only[Ae,sS,sZ,Ah,A9,A3,gS,gZ,A0,Be])
  dsimp only[A4]
  (simp only[AL])
  refine hK j _ _ (Nat.lt_succ_self j) ⟨rfl,?_,a'⟩
  rw[Int.natCast_add,Int.natCast_one,Int.add_sub_cancel]
 (simp only[An,Ak,At,Ab,A5,A3,gS,gZ,A0,Ah,Ac,FS,Be,BU])
 refine⟨sm,?_⟩
 rw[K0 a.hp]
 refine HU hA hz hL ?_
 cases z with
 | none =>
  simp only[ov]
  (simp only[Ia])
  exact go (by rw[hz];exact nofun)
 | some b =>
  simp only[ov]
  (simp only[Ib])
  refine AY trivial ⟨sm,HU hA hz hL ?_⟩
  simp only[ov]
  (simp only[AQ,EN])
  by_cases e:b+k=x
  ·rw[e,decide_eq_true rfl]
   refine IS ?_
   dsimp only[A4]
   (simp only[Al,A3,gS,gZ,A0])
   exact hq k (a.most (by rw[hz,←e,Int.add_sub_cancel]))
  ·rw[decide_eq_false e]
   refine Mm ?_
   exact go (by rw[hz];intro q;cases q;exact e (Int.sub_add_cancel x k))
theorem Tab.step_at {M:Nat}{ps:PL}{tr:List (Addr×Row)} (T:Tab M ps tr) {k:Nat}{q:Int×Int} (hq:ps[k]?=some q):∃a b,tr[k]?=some a∧tr[k+1]?=some b∧Bp (tr.map (·.2)) k=a.2∧Bp (tr.map (·.2)) (k+1)=b.2∧Kn a.2 q.1.toNat q.2.toNat b.2∧a.2.length=M+1∧b.2.length=M+1:=by
 obtain⟨a,b,h1,h2,h3⟩:=T.step k q hq
 refine⟨a,b,h1,h2,?_,?_,h3,T.rows a (List.mem_of_getElem? h1),T.rows b (List.mem_of_getElem? h2)⟩
 ·rw[Bp,List.getElem?_map,h1];rfl
 ·rw[Bp,List.getElem?_map,h2];rfl
structure Back (rs:List Row) (ps:PL) (N:Nat) (due:Nat) (X:Int) (k p:Nat) (x:Int) (acc:PL):Prop where
 le:k≤N
 cell:(Bp rs k)[p]?=some (some x)
 all:∀l,Ei rs ps k p x l→Ei rs ps N due X (l++acc.reverse)
theorem Back.step {rs:List Row}{ps:PL}{N due:Nat}{X:Int}{k p m:Nat}{x:Int}{acc:PL}{q:Int×Int} (B:Back rs ps N due X (k+1) p x acc) (hq:ps[k]?=some q) (hm:IsMost (Bp rs k) q.1.toNat q.2.toNat p x m) :
  Back rs ps N due X k (p-m*q.1.toNat) (x-m) (addP acc q.1 m) where
 le:=Nat.le_of_succ_le B.le
 cell:=hm.at_
 all:=fun l r=>by
  have:=B.all _ ⟨m,q,l,hq,B.cell,hm,r,rfl⟩
  by_cases h:0<m
  ·rw[addP,if_pos h] at this ⊢
   rw[List.reverse_append,List.reverse_singleton,←List.append_assoc]
   exact this
  ·rw[addP,if_neg h] at this ⊢
   exact this
theorem Back.done {M:Nat}{ps:PL}{tr:List (Addr×Row)} (T:Tab M ps tr) {N due:Nat}{X:Int}{p:Nat}{x:Int}{acc:PL} (B:Back (tr.map (·.2)) ps N due X 0 p x acc):Ei (tr.map (·.2)) ps N due X acc.reverse:=by
 obtain⟨rfl,rfl⟩:=T.start B.cell
 exact B.all [] ⟨rfl,rfl,rfl⟩
end
theorem Ep {α:Type}{l:List α}{k:Nat}{x:α} (h:l[k]?=some x):k<l.length:=by
 rcases Nat.lt_or_ge k l.length with q | q
 ·exact q
 ·rw[List.getElem?_eq_none q] at h;cases h
theorem FA {α:Type}{l:List α}{k:Nat} (h:k<l.length):∃x,l[k]?=some x:=⟨_,List.getElem?_eq_getElem h⟩
theorem Gz (l:PL):(lv l).reverse=lv l.reverse:=(List.map_reverse ..).symm
theorem Jg (n:Nat):Bj ((n:Int)-1) (-1) (-1)=n:=by
 rw[Bj,if_neg (by decide)]
 show (((n:Int)-1 - -1 - -1-1) / 1).toNat=n
 rw[Int.ediv_one];exact lQ [] [_,_] (.n 0) (.n 1) [.l (.s (.s (.s (.s (.t (.n 1)) (.c 1)) (.c (-1))) (.c (-1))) (.c 1)) (.t (.n 0)),.e (.t (.n 0)) (.s (.s (.s (.s (.t (.n 1)) (.c 1)) (.c (-1))) (.c (-1))) (.c 1))] [1,0,-1] [1,0,1] rfl (tn0 (a:=(↑n:Int)-1 - -1 - -1-1)) (tnE (a:=(↑n:Int)-1 - -1 - -1-1) (la [] [_] (.c 0) (.s (.s (.s (.s (.t (.n 0)) (.c 1)) (.c (-1))) (.c (-1))) (.c 1)) [] [1] rfl))
theorem NO {n b:Nat} (h:b<n):(n:Int)-1+(b:Int) * -1=((n-1-b:Nat):Int):=by exact lq [] [_,_,_,_] (.a (.s (.t (.n 0)) (.c 1)) (.p (.t (.n 1)) (-1))) (.t (.n 2)) [.E (.a (.n 2) (.n 1)) (.n 3),.E (.a (.n 3) (.c 1)) (.n 0),.L (.n 3) (.a (.n 2) (.n 1)),.L (.n 0) (.a (.n 3) (.c 1))] [1,1,1,0,0] [1,-1,-1,0,0] rfl (nsE (a:=n-1) (b:=b) (lA [] [_,_,_] (.n 0) (.n 1) [.B (.n 0) (.n 2),.L (.n 2) (.a (.n 1) (.c 1))] [1,1,1] rfl h (ns1 (a:=n) (b:=1)))) (nsE (a:=n) (b:=1) (lA [] [_,_] (.c 1) (.n 0) [.B (.n 1) (.n 0)] [1,1] rfl h)) (ns1 (a:=n-1) (b:=b)) (ns1 (a:=n) (b:=1))
section
variable {defs:String→Option Fn}{anc:String→List String}{n:Nat}{Q:V→Hp→Prop}{X:String→Hp→Prop}{H:Hp}
theorem Mo {p:Addr}{ps:PL}{k:Nat}{q:Int×Int} (h:H p=some (.list (lv ps))) (hq:ps[k]?=some q) (hl:ps.length≤1001) (w:Q (pv q) H):Ce (.ref p) (.int (k:Int)) Q H:=by
 have hk:=Ep hq
 rw[BJ h]
 exact⟨k,pv q,⟨by exact lb [] [_] (.c (-4611686018427387904)) (.t (.n 0)) [] [1] rfl,by exact lb [] [_,_] (.t (.n 0)) (.c 4611686018427387904) [.L (.n 1) (.c 1001),.B (.n 0) (.n 1)] [1,1,1] rfl hl hk⟩,Bz (by rw[lv_length];exact hk),by rw[lv,List.getElem?_map,hq];rfl,w⟩
theorem OQ {p:Addr}{tr:List (Addr×Row)}{x:Addr×Row} (h:H p=some (.list (EE tr))) (hx:tr[tr.length-1]?=some x) (w:Q (.ref x.1) H):Ce (.ref p) (.int (-1)) Q H:=by
 have hk:=Ep hx
 rw[BJ h]
 exact⟨tr.length-1,.ref x.1,⟨by decide,by decide⟩,by rw[DV];exact EO (by exact lB [] [_,_] (.c 0) (.n 0) [.B (.n 1) (.n 0)] [1,1] rfl hk),IC hx,w⟩
theorem IX (D:Def4 defs) (h6:defs "most_of" = some CC) (h7:defs "fewest" = some Ee) {p:Addr}{ps:PL}{due:Int} (hp:H p=some (.list (lv ps))) (hl:ps.length≤100) (hv:∀q∈ps,1≤q.1∧q.1≤1000) (hc:∀q∈ps,0≤q.2∧q.2≤1000000000)
  (hS:¬(0≤due∧due≤1000)→X "NoSum" H)
  (hN:(0≤due∧due≤1000)→∀tr H',Tab due.toNat ps tr→Ext H H'→(Bp (tr.map (·.2)) ps.length)[due.toNat]?=some none→X "NoChange" H')
  (hq:(0≤due∧due≤1000)→∀tr x l a H',Tab due.toNat ps tr→Ext H H'→(Bp (tr.map (·.2)) ps.length)[due.toNat]?=some (some x)→Ei (tr.map (·.2)) ps ps.length due.toNat x l→l.length≤100→H a=none→H' a=some (.list (lv l))→Q (.ref a) H') :
  Aj defs anc (n+4) "fewest" [.ref p,.int due] Q X H:=by
 refine Ao h7 rfl ?_
 simp only[Ee]
 (simp only[List.map_cons,List.map_nil,List.length_cons,List.length_nil,Nat.reduceAdd,Nat.reduceSub,List.replicate,List.cons_append,List.nil_append,Ae,sS,sZ,Ag,A6,A8,A3,gS,gZ,A0,true_and])
 refine Gh D.h0 D.h1 D.h2 D.h3 hp hl hv hc hS fun hm tr R H₁ T hE1 hR0 hR I hf hn=>?_
 obtain⟨M,rfl⟩:∃M:Nat,due=M:=⟨due.toNat,by exact lq [_] [_] (.v 0) (.t (.n 0)) [.e (.t (.n 0)) (.v 0),.l (.v 0) (.t (.n 0))] [1,1,0] [1,-1,0] rfl (tnE (a:=due) (hm.1)) (tn0 (a:=due))⟩
 rw[Int.toNat_natCast] at *
 have hM:M≤1000:=by exact lA [] [_] (.n 0) (.c 1000) [.l (.t (.n 0)) (.c 1000)] [1,1] rfl hm.2
 have hlen:=T.len
 have hrl:tr.length≤1001:=by exact lA [] [_,_] (.n 0) (.c 1001) [.L (.n 1) (.c 100),.E (.n 0) (.a (.n 1) (.c 1))] [1,1,1] rfl hl hlen
 have hlast:ps.length<tr.length:=by exact lB [] [_,_] (.n 0) (.n 1) [.E (.n 1) (.a (.n 0) (.c 1))] [1,-1] rfl hlen
 have gl:=List.getElem?_eq_getElem hlast
 have ml:=List.getElem_mem hlast
 have er:Bp (tr.map (·.2)) ps.length=tr[ps.length].2:=T.row hlast
 have hw:=T.rows _ ml
 obtain⟨z,hz⟩:=FA (l:=tr[ps.length].2) (k:=M) (by exact lB [] [_,_] (.n 0) (.n 1) [.E (.n 1) (.a (.n 0) (.c 1))] [1,-1] rfl hw)
 dsimp only[A4]
 (simp only[Ad,A7,Aa,Ab,A5,BU,Ac,A3,gS,gZ,A0,Dv,A9,CW])
 refine OQ hR (by rw[hlen];exact gl) ?_
 refine HU (I _ ml) hz (by exact lA [] [_,_] (.n 0) (.c 1001) [.l (.t (.n 1)) (.c 1000),.E (.n 0) (.a (.n 1) (.c 1))] [1,1,1] rfl hm.2 hw) ?_
 cases z with
 | none =>
  simp only[ov]
  (simp only[Ia])
  refine AY trivial ?_
  dsimp only[A4]
  (simp only[By,true_and])
  exact hN hm tr H₁ T hE1 (by rw[er];exact hz)
 | some x =>
  simp only[ov]
  (simp only[Ib])
  refine IS ?_
  dsimp only[A4]
  (simp only[Ae,sS,sZ,AE,A8])
  refine⟨Nat.zero_le _,fun F hF=>?_⟩
  dsimp only[A4]
  (simp only[Ae,sS,sZ,A3,gS,gZ,A0])
  dsimp only[A4]
  have hp1:=hE1 _ _ hp
  have hpF:∀o,(H₁.set F o) p=some (.list (lv ps)):=fun o=>Ext.new o hF _ _ hp1
  refine AC ⟨rfl,?_⟩
  (simp only[LJ,Dv,A9,CW,Ah,Ar,A6,A8,A3,gZ,A0,true_and])
  rw[AO (hpF _),lv_length]
  (simp only[Be,OH])
  refine⟨⟨by exact lb [] [_] (.c (-4611686018427387904)) (.s (.t (.n 0)) (.c 1)) [] [1] rfl,by exact lb [] [_] (.s (.t (.n 0)) (.c 1)) (.c 4611686018427387904) [.L (.n 0) (.c 100)] [1,1] rfl hl⟩,⟨by decide,by decide⟩,⟨by decide,by decide⟩,by decide,?_⟩
  rw[Jg]
  refine Av (l:=List.range ps.length) (f:=fun (k:Nat)=>It.v (.int ((ps.length:Int)-1+(k:Int) * -1)))
   (I:=fun as ρ H'=>∃acc p' x' x5 x6 x7 x8,ρ=[some (.ref p),some (.int M),some (.ref R),some (.ref F),some (.int (p':Nat)),x5,x6,x7,x8]∧H'=H₁.set F (.list (lv acc))∧Back (tr.map (·.2)) ps ps.length M x (ps.length-as.length) p' x' acc∧p'≤M∧acc.length≤as.length) ?_ ?_ ?_
   ⟨[],M,x,_,_,_,_,rfl,rfl,⟨Nat.le_refl _,by show (Bp (tr.map (·.2)) ps.length)[M]?=_;rw[er];exact hz,fun l r=>by rw[List.reverse_nil,List.append_nil];exact r⟩,Nat.le_refl _,Nat.le_refl _⟩
  ·rintro as ρ H' _;exact BY
  ·rintro ρ H' ⟨acc,p',x',x5,x6,x7,x8,rfl,rfl,B,h1,h2⟩
   rw[List.length_range,Nat.sub_self] at B
   rw[List.length_range] at h2
   dsimp only[A4]
   (simp only[Al,LZ,A3,gS,gZ,A0,k_ref])
   refine⟨_,Hp.set_self _ _ _,?_⟩
   rw[Gz]
   refine⟨by rw[lv_length,List.length_reverse,Ai];exact lA [] [_,_] (.n 0) (.c 16777216) [.L (.n 1) (.c 100),.L (.n 0) (.n 1)] [1,1,1] rfl hl h2,fun a ha=>?_⟩
   have hEF:=hE1.trans (Ext.new (.list (lv acc)) hF)
   exact hq hm tr x acc.reverse a _ T (hEF.trans (.new _ ha)) (by rw[er];exact hz) (B.done T) (by rw[List.length_reverse];exact lA [] [_,_] (.n 0) (.c 100) [.L (.n 1) (.c 100),.L (.n 0) (.n 1)] [1,1,1] rfl hl h2) (hEF.no ha) (Hp.set_self _ _ _)
  ·rintro as b bs ρ H' K hl' ⟨acc,p',x',x5,x6,x7,x8,rfl,rfl,B,h1,h2⟩ hK
   obtain⟨rfl,hb⟩:=B5 hl'
   refine⟨_,rfl,?_⟩
   rw[NO hb]
   obtain⟨k,ek⟩:∃k,ps.length-1-as.length=k:=⟨_,rfl⟩
   rw[ek]
   have hk:k<ps.length:=by exact lB [] [_,_,_,_] (.n 0) (.n 1) [.E (.n 2) (.n 0),.E (.a (.n 3) (.c 1)) (.n 1),.L (.n 2) (.n 3)] [1,-1,1,1] rfl ek (nsE (a:=List.length ps) (b:=1) (lA [] [_,_] (.c 1) (.n 0) [.B (.n 1) (.n 0)] [1,1] rfl hb)) (ns0 (a:=List.length ps-1) (b:=as.length))
   have e1:ps.length-as.length=k+1:=by exact lQ [] [_,_,_,_,_,_] (.n 0) (.a (.n 1) (.c 1)) [.E (.n 2) (.n 1),.E (.a (.n 0) (.n 3)) (.n 4),.E (.a (.n 2) (.n 3)) (.n 5),.E (.a (.n 5) (.c 1)) (.n 4)] [1,-1,-1,1,1] [1,1,1,-1,-1] rfl ek (nsE (a:=List.length ps) (b:=as.length) (lA [] [_,_] (.n 0) (.n 1) [.B (.n 0) (.n 1)] [1,1] rfl hb)) (nsE (a:=List.length ps-1) (b:=as.length) (lA [] [_,_,_] (.n 0) (.n 1) [.B (.n 0) (.n 2),.L (.n 2) (.a (.n 1) (.c 1))] [1,1,1] rfl hb (ns1 (a:=List.length ps) (b:=1)))) (nsE (a:=List.length ps) (b:=1) (lA [] [_,_] (.c 1) (.n 0) [.B (.n 1) (.n 0)] [1,1] rfl hb))
   have e2:ps.length-(as++[as.length]).length=k:=by rw[List.length_append];show ps.length-(as.length+1)=k;exact lQ [] [_,_,_,_,_] (.n 0) (.n 1) [.E (.n 2) (.a (.n 1) (.c 1)),.E (.a (.n 0) (.a (.n 3) (.c 1))) (.n 4),.E (.a (.n 2) (.n 3)) (.n 4)] [1,-1,-1,1] [1,1,1,-1] rfl e1 (nsE (a:=List.length ps) (b:=as.length+1) (lA [] [_,_] (.a (.n 0) (.c 1)) (.n 1) [.B (.n 0) (.n 1)] [1,1] rfl hb)) (nsE (a:=List.length ps) (b:=as.length) (lA [] [_,_] (.n 0) (.n 1) [.B (.n 0) (.n 1)] [1,1] rfl hb))
   rw[e1] at B
   have gq:=List.getElem?_eq_getElem hk
   obtain⟨ra,rb,k1,k2,k3,k4,k5,k6,k7⟩:=T.step_at gq
   have mq:=List.getElem_mem hk
   obtain⟨v1,v2⟩:=hv _ mq
   obtain⟨c1,c2⟩:=hc _ mq
   have hcell:=B.cell
   rw[k4] at hcell
   have hR':∀o,(H₁.set F o) R=some (.list (EE tr)):=fun o=>Ext.new o hF _ _ hR
   have hI':∀(o:Ob) (y:Addr×Row),y∈tr→(H₁.set F o) y.1=some (.list (lo y.2)):=fun o y hy=>Ext.new o hF _ _ (I y hy)
   have ma:=List.mem_of_getElem? k1
   have mb:=List.mem_of_getElem? k2
   generalize ps[k]=q at gq k5 mq v1 v2 c1 c2
   have ev:q.1=((q.1.toNat:Nat):Int):=by exact lq [_] [_] (.v 0) (.t (.n 0)) [.e (.t (.n 0)) (.v 0),.l (.v 0) (.t (.n 0))] [1,1,0] [1,-1,0] rfl (tnE (a:=q.fst) (la [_] [] (.c 0) (.v 0) [.l (.c 1) (.v 0)] [1,1] rfl v1)) (tn0 (a:=q.fst))
   have ec:q.2=((q.2.toNat:Nat):Int):=by exact lq [_] [_] (.v 0) (.t (.n 0)) [.e (.t (.n 0)) (.v 0),.l (.v 0) (.t (.n 0))] [1,1,0] [1,-1,0] rfl (tnE (a:=q.snd) (c1)) (tn0 (a:=q.snd))
   obtain⟨y,hy1,hy2⟩:=k5.2 p' (by exact lB [] [_,_,_] (.n 0) (.n 1) [.L (.n 0) (.n 2),.E (.n 1) (.a (.n 2) (.c 1))] [1,1,-1] rfl h1 k6)
   cases hy1.symm.trans hcell
   dsimp only[AN]
   (simp only[sS,sZ,K2,Ac,A3,gS,gZ,A0,true_and])
   refine Mo (hpF _) gq (by exact lA [] [_] (.n 0) (.c 1001) [.L (.n 0) (.c 100)] [1,1] rfl hl) ?_
   (simp only[u_pv])
   dsimp only[A4]
   (simp only[Ae,sS,sZ,Ag,A6,A8,A3,gS,gZ,A0,Ac,Ah,A9,AQ,true_and])
   refine Db (hR' _) k1 hrl ?_
   rw[show (k:Int)+1=((k+1:Nat):Int) from rfl]
   refine Db (hR' _) k2 hrl ?_
   refine HU (hI' _ _ mb) hcell (by exact lA [] [_,_] (.n 0) (.c 1001) [.l (.t (.n 1)) (.c 1000),.E (.n 0) (.a (.n 1) (.c 1))] [1,1,1] rfl hm.2 k7) ?_
   simp only[ov]
   have hcall:=fun Q' hq'=>HP (defs:=defs) (anc:=anc) (n:=n+2) (Q:=Q') (X:=X) h6 (hI' (.list (lv acc)) _ ma) (by exact lA [] [_,_] (.n 0) (.c 1001) [.l (.t (.n 1)) (.c 1000),.E (.n 0) (.a (.n 1) (.c 1))] [1,1,1] rfl hm.2 k6) (show p'<ra.2.length by exact lB [] [_,_,_] (.n 0) (.n 1) [.L (.n 0) (.n 2),.E (.n 1) (.a (.n 2) (.c 1))] [1,1,-1] rfl h1 k6) (v:=q.1.toNat) (c:=q.2.toNat) (by exact lA [_] [_] (.c 1) (.n 0) [.l (.c 1) (.v 0),.e (.v 0) (.t (.n 0))] [1,1,1] rfl v1 ev) (by exact lA [_] [_] (.n 0) (.c 1000) [.l (.v 0) (.c 1000),.e (.v 0) (.t (.n 0))] [1,1,-1] rfl v2 ev) hy2 hq'
   rw[←ev,←ec] at hcall
   refine hcall _ fun m hm'=>?_
   have hmp:=hm'.hp
   have hB:=B.step gq (by rw[k3];exact hm')
   have epos:(p':Int)-(m:Int)*q.1=((p'-m*q.1.toNat:Nat):Int):=by rw[Int.natCast_sub hmp,Int.natCast_mul,←ev]
   have fin:∀o x5 x7,o=H₁.set F (.list (lv (addP acc q.1 m)))→A4 ⟨Aj defs anc (n+3),anc⟩ false (.cons (.asg 4 (.bin .sub (.var 4) (.bin .mul (.var 8) (.var 6)))) .nil) K Q (fun c ξ H₁=>X c H₁) [some (.ref p),some (.int M),some (.ref R),some (.ref F),some (.int p'),x5,some (.int q.1),x7,some (.int m)] o:=by
    intro o x5 x7 eo
    subst eo
    dsimp only[A4]
    (simp only[Ae,sS,sZ,Ah,A3,gS,gZ,A0,FS,Be])
    refine⟨.inr ⟨by exact lb [_] [] (.c (-18446744073709551616)) (.v 0) [.l (.c 1) (.v 0)] [1,1] rfl v1,by exact lb [_] [] (.v 0) (.c 18446744073709551616) [.l (.v 0) (.c 1000)] [1,1] rfl v2⟩,?_⟩
    rw[epos]
    refine hK _ _ ⟨addP acc q.1 m,p'-m*q.1.toNat,x'-m,_,_,_,_,rfl,rfl,by rw[e2];exact hB,Nat.le_trans (Nat.sub_le ..) h1,?_⟩
    rw[addP,List.length_append]
    by_cases h0:0<m
    ·rw[if_pos h0,List.length_append];exact Nat.add_le_add_right h2 1
    ·rw[if_neg h0];exact Nat.le_succ_of_le h2
   dsimp only[A4]
   (simp only[Ad,A7,Aa,Ab,A5,A9,A3,gS,gZ,A0,DN,decide_eq_true_eq])
   by_cases h0:0<m
   ·refine AY (by exact lb [] [_] (.c 0) (.t (.n 0)) [.B (.c 0) (.n 0)] [1,1] rfl h0) ?_
    dsimp only[A4]
    (simp only[BT,BV,A6,A8,AI,List.length_cons,List.length_nil,Nat.reduceAdd,A3,gS,gZ,A0])
    rw[r_L (Hp.set_self _ _ _)]
    refine⟨⟨nofun,nofun⟩,Nat.le_of_ble_eq_true rfl,?_⟩
    rw[Bk (Hp.set_self _ _ _)]
    refine⟨by rw[lv_length,Ai];exact lB [] [_,_,_] (.n 0) (.c 16777216) [.L (.n 1) (.c 100),.L (.n 0) (.n 2),.B (.n 2) (.n 1)] [1,1,1,1] rfl hl h2 hb,?_⟩
    rw[Hp.set_set]
    refine fin _ _ _ ?_
    rw[addP,if_pos h0,CA];rfl
   ·refine AK (by exact lf [] [_] [.L (.n 0) (.c 0),.b (.c 0) (.t (.n 0))] [1,1] rfl (Nat.not_lt.mp h0)) ?_
    refine fin _ _ _ ?_
    rw[addP,if_neg h0]
end
theorem NK {q:Int×Int}{Q:V→Hp→Prop}{H:Hp}:wbc .len [pv q] Q H=Q (.int 2) H:=rfl
theorem NA {ps:PL} (hn:(ps.map (·.1)).Nodup) {a b:Int×Int} (ha:a∈ps) (hb:b∈ps) (e:a.1=b.1):a=b:=by
 obtain⟨i,hi,rfl⟩:=List.getElem_of_mem ha
 obtain⟨j,hj,rfl⟩:=List.getElem_of_mem hb
 have h1:i<(ps.map (·.1)).length:=by rw[List.length_map];exact hi
 have h2:j<(ps.map (·.1)).length:=by rw[List.length_map];exact hj
 have:=(List.getElem_inj (h₀:=h1) (h₁:=h2) hn).mp (by rw[List.getElem_map,List.getElem_map];exact e)
 subst this;rfl
theorem Jd (as:PL) (b:Int×Int):Co (as++[b])=Co as+b.1*b.2:=by rw[Co,Co,List.map_append,List.sum_append];exact congrArg (_ + ·) (Int.add_zero _)
theorem KP (as:PL) (b:Int×Int):DK (as++[b])=DK as+b.2:=by rw[DK,DK,List.map_append,List.sum_append];exact congrArg (_ + ·) (Int.add_zero _)
section
variable {defs:String→Option Fn}{anc:String→List String}{n:Nat}{Q:V→Hp→Prop}{X:String→Hp→Prop}{H:Hp}
theorem Oq {G:Gl}{ρ0:Option V→Option V→Loc}{R:V→Hp→Prop}{Y:String→Loc→Hp→Prop}{N:Loc→Hp→Prop}{T:Addr}{ps:PL}{q:Int×Int}{w:List (Addr×Ob)}{b:Sts} (hw:okH w H) (hn:(ps.map (·.1)).Nodup) (hq:q∈ps)
  (bind:∀x y z,Bt (.one 8) (It.v (pv z)) (ρ0 x y)=some (ρ0 x (some (pv z))))
  (body:∀x z K,z∈ps→K (ρ0 (some (.int (if z.1=q.1 then z.2 else x))) (some (pv z))) H→AN G false b R Y (ρ0 (some (.int x)) (some (pv z))) K H)
  (fin:∀y,N (ρ0 (some (.int q.2)) y) H) {x0:Int}{y0:Option V}:Fh (.one 8) w (AN G false b R Y) (ps.map fun p=>It.v (pv p)) (ρ0 (some (.int x0)) y0) N H:=by
 refine Av (I:=fun as ρ H'=>H'=H∧∃x y,ρ=ρ0 (some (.int x)) y∧(q∈as→x=q.2)) ?_ ?_ ?_ ⟨rfl,x0,y0,rfl,(by first | exact Gv | exact nofun)⟩
 ·rintro as ρ H' ⟨rfl,_⟩;exact hw
 ·rintro ρ H' ⟨rfl,x,y,rfl,h⟩
  cases h hq
  exact fin y
 ·rintro as z bs ρ H' K e ⟨rfl,x,y,rfl,h⟩ hK
  have hz:z∈ps:=by rw[e];exact List.mem_append.mpr (.inr (.head _))
  refine⟨_,bind _ _ _,body x z K hz (hK _ _ ⟨rfl,_,_,rfl,fun hm=>?_⟩)⟩
  by_cases e1:z.1=q.1
  ·rw[if_pos e1,NA hn hz hq e1]
  ·rw[if_neg e1]
   rcases List.mem_append.mp hm with k | k
   ·exact h k
   ·rw[List.mem_singleton] at k;subst k;exact absurd rfl e1
theorem J4 (h1:defs "_law_whole" = some B7) (h5:Same defs "_law_change" Cw) {L T:Addr}{l ps:PL}{due:Int} (hL:H L=some (.list (lv l))) (hT:H T=some (.list (lv ps))) (C:Chg l ps) (hn:(ps.map (·.1)).Nodup) (hv:∀q∈ps,1≤q.1∧q.1≤1000) (hc:∀q∈ps,0≤q.2∧q.2≤1000000000) (hw:Co l=due) (hq:Q (.int (DK l)) H) :
  Aj defs anc (n+2) "_law_change" [.ref L,.ref T,.int due] Q X H:=by
 refine G8 h5 rfl ?_
 simp only[Cw]
 (simp only[List.map_cons,List.map_nil,List.length_cons,List.length_nil,Nat.reduceAdd,Nat.reduceSub,List.replicate,List.cons_append,List.nil_append,Ad,A7,Aa,BO,A5,Cq,A3,gZ,A0])
 refine⟨true,Dk hL,?_⟩
 refine IS ?_
 dsimp only[A4]
 (simp only[Ae,sS,sZ,A3,gS,gZ,A0])
 dsimp only[A4]
 (simp only[Ae,sS,sZ,A9])
 dsimp only[A4]
 (simp only[Ae,sS,sZ,A9])
 dsimp only[A4]
 refine AC ⟨rfl,?_⟩
 (simp only[BB,A3,gZ,A0])
 refine B2 hL ?_
 rw[GA]
 refine Av (I:=fun as ρ H'=>H'=H∧∃(last:Int) (x6 x7 x8:Option V),ρ=[some (.ref L),some (.ref T),some (.int due),some (.int (due-Co as)),some (.int (DK as)),some (.int last),x6,x7,x8]∧∀b bs,l=as++b :: bs→last<b.1) ?_ ?_ ?_ ⟨rfl,0,none,none,none,by rw[show due-Co []=due from Int.sub_zero due];rfl,fun b bs e=>?_⟩
 ·rintro as ρ H' ⟨rfl,_⟩;exact AR hL
 ·rintro ρ H' ⟨rfl,last,x6,x7,x8,rfl,_⟩
  dsimp only[A4]
  (simp only[Ad,A7,Aa,Ab,A5,A9,A3,gS,gZ,A0,EN])
  rw[hw,Int.sub_self,decide_eq_true rfl]
  refine IS ?_
  dsimp only[A4]
  (simp only[Al,A3,gS,gZ,A0])
  exact hq
 ·rintro as b bs ρ H' K e ⟨rfl,last,x6,x7,x8,rfl,hlast⟩ hK
  have hb:b∈l:=by rw[e];exact List.mem_append.mpr (.inr (.head _))
  obtain⟨b1,q,mq,q1,q2⟩:=C.mem b hb
  obtain⟨v1,v2⟩:=hv q mq
  obtain⟨c1,c2⟩:=hc q mq
  have hl':=hlast b bs e
  refine⟨_,rfl,?_⟩
  dsimp only[AN]
  (simp only[sS,sZ,Ad,A7,Aa,An,Ak,At,BO,A5,Ag,A6,A8,Ac,A9,A3,gS,gZ,A0,CX,true_and,CY,Ab,Ar,Cq])
  refine⟨true,G6,?_⟩
  refine FJ ?_
  rw[NK,EN]
  refine AY (by decide) ?_
  refine CH h1 (O9 ?_)
  refine FJ ?_
  refine CH h1 (O9 ?_)
  refine FK ?_
  dsimp only[A4]
  (simp only[Ad,A7,Aa,An,Ak,At,Ab,A5,A9,Ac,A3,gS,gZ,A0,CX,EG,decide_eq_true_eq,CY,NT])
  refine AY (decide_eq_false (by exact lf [_,_] [] [.b (.v 0) (.v 1),.l (.v 1) (.v 0)] [1,1] rfl hl')) ?_
  refine AK (by exact lf [_] [] [.l (.c 1) (.v 0),.b (.v 0) (.c 1)] [1,1] rfl b1) ?_
  dsimp only[A4]
  (simp only[Ae,sS,sZ,A9])
  dsimp only[A4]
  refine AC ⟨rfl,?_⟩
  (simp only[BB,A3,gS,gZ,A0])
  refine B2 hT ?_
  rw[GA]
  refine Oq (ρ0:=fun x y=>[some (.ref L),some (.ref T),some (.int due),some (.int (due-Co as)),some (.int (DK as)),some (.int last),some (pv b),x,y]) (T:=T) (AR hT) hn mq (fun ξ ξ ξ=>rfl) (fun x z K' hz hK'=>?_) fun y=>?_
  ·dsimp only[AN]
   (simp only[Ad,A7,Aa,Ab,A5,Ac,A9,A3,gS,gZ,A0,CY,C7,decide_eq_true_eq])
   rw[q1] at hK'
   by_cases e1:z.1=b.1
   ·rw[if_pos e1] at hK'
    refine AY e1 ?_
    dsimp only[A4]
    (simp only[Ae,sS,sZ,Ac,A9,A3,gS,gZ,A0,CX])
    exact hK'
   ·rw[if_neg e1] at hK'
    refine AK e1 ?_
    dsimp only[A4]
    (simp only[AL])
    exact hK'
  ·dsimp only[A4]
   (simp only[Ad,A7,Aa,Ab,A5,A3,gS,gZ,A0,Ac,A9,CX,DN,decide_eq_true_eq])
   refine AK (by exact lf [_,_] [] [.l (.v 0) (.v 1),.b (.v 1) (.v 0)] [1,1] rfl q2) ?_
   dsimp only[A4]
   (simp only[Ae,sS,sZ,Ac,A9,A3,gS,gZ,A0,CY])
   dsimp only[A4]
   (simp only[Ae,sS,sZ,Ah,Ac,A9,A3,gS,gZ,A0,CX,CY,FS,Be])
   refine⟨.inl ⟨by exact lb [_,_] [] (.c (-18446744073709551616)) (.v 0) [.e (.v 1) (.v 0),.l (.c 1) (.v 1)] [1,1,1] rfl q1 v1,by exact lb [_,_] [] (.v 0) (.c 18446744073709551616) [.e (.v 1) (.v 0),.l (.v 1) (.c 1000)] [1,-1,1] rfl q1 v2⟩,?_⟩
   dsimp only[A4]
   (simp only[Ae,sS,sZ,Ah,Ac,A9,A3,gS,gZ,A0,CX,AQ])
   refine hK _ _ ⟨rfl,b.1,_,_,_,by rw[Jd,KP,Int.sub_sub],fun c cs e'=>?_⟩
   have:=C.srt
   rw[e',List.append_assoc,List.pairwise_append] at this
   exact (List.pairwise_cons.mp this.2.1).1 c (.head _)
 ·obtain⟨_,q,mq,q1,_⟩:=C.mem b (by rw[e];exact .head _)
  have:=(hv q mq).1
  exact lb [_,_] [] (.c 0) (.v 0) [.e (.v 1) (.v 0),.l (.c 1) (.v 1)] [1,1,1] rfl q1 this
end
theorem Iv (n:Nat):Bj (n:Int) 0 (-1)=n:=by
 rw[Bj,if_neg (by decide)]
 show (((n:Int)-0 - -1-1) / 1).toNat=n
 rw[Int.ediv_one];exact lQ [] [_,_] (.n 0) (.n 1) [.l (.s (.s (.s (.t (.n 1)) (.c 0)) (.c (-1))) (.c 1)) (.t (.n 0)),.e (.t (.n 0)) (.s (.s (.s (.t (.n 1)) (.c 0)) (.c (-1))) (.c 1))] [1,0,-1] [1,0,1] rfl (tn0 (a:=(↑n:Int)-0 - -1-1)) (tnE (a:=(↑n:Int)-0 - -1-1) (la [] [_] (.c 0) (.s (.s (.s (.t (.n 0)) (.c 0)) (.c (-1))) (.c 1)) [] [1] rfl))
theorem ME {n b:Nat} (h:b<n):(n:Int)+(b:Int) * -1=(((n-1-b)+1:Nat):Int):=by exact lq [] [_,_,_,_] (.a (.t (.n 0)) (.p (.t (.n 1)) (-1))) (.t (.a (.n 2) (.c 1))) [.E (.a (.n 2) (.n 1)) (.n 3),.E (.a (.n 3) (.c 1)) (.n 0),.L (.n 3) (.a (.n 2) (.n 1)),.L (.n 0) (.a (.n 3) (.c 1))] [1,1,1,0,0] [1,-1,-1,0,0] rfl (nsE (a:=n-1) (b:=b) (lA [] [_,_,_] (.n 0) (.n 1) [.B (.n 0) (.n 2),.L (.n 2) (.a (.n 1) (.c 1))] [1,1,1] rfl h (ns1 (a:=n) (b:=1)))) (nsE (a:=n) (b:=1) (lA [] [_,_] (.c 1) (.n 0) [.B (.n 1) (.n 0)] [1,1] rfl h)) (ns1 (a:=n-1) (b:=b)) (ns1 (a:=n) (b:=1))
section
variable {defs:String→Option Fn}{anc:String→List String}{n:Nat}{Q:V→Hp→Prop}{X:String→Hp→Prop}{H:Hp}
theorem JJ (h5:Same defs "_law_exact" D3) {R T:Addr}{tr:List (Addr×Row)}{ps:PL}{M:Nat}{x:Int} (hR:H R=some (.list (EE tr))) (I:InH H tr) (tab:Tab M ps tr) (hT:H T=some (.list (lv ps))) (hM:M≤1000) (hl:ps.length≤100)
  (hv:∀q∈ps,1≤q.1∧q.1≤1000) (hc:∀q∈ps,0≤q.2∧q.2≤1000000000) (hx:(Bp (tr.map (·.2)) ps.length)[M]?=some (some x))
  (hq:∀l a H',Ei (tr.map (·.2)) ps ps.length M x l→Ext H H'→H a=none→H' a=some (.list (lv l))→Q (.ref a) H') :
  Aj defs anc (n+1) "_law_exact" [.ref R,.ref T,.int M] Q X H:=by
 have hlen:=tab.len
 have hrl:tr.length≤1001:=by exact lA [] [_,_] (.n 0) (.c 1001) [.L (.n 1) (.c 100),.E (.n 0) (.a (.n 1) (.c 1))] [1,1,1] rfl hl hlen
 refine G8 h5 rfl ?_
 simp only[D3]
 (simp only[List.map_cons,List.map_nil,List.length_cons,List.length_nil,Nat.reduceAdd,Nat.reduceSub,List.replicate,List.cons_append,List.nil_append,Ae,sS,sZ,AE,A8])
 refine⟨Nat.zero_le _,fun F hF=>?_⟩
 dsimp only[A4]
 (simp only[Ae,sS,sZ,A3,gS,gZ,A0])
 dsimp only[A4]
 have hpF:∀o,(H.set F o) T=some (.list (lv ps)):=fun o=>Ext.new o hF _ _ hT
 refine AC ⟨rfl,?_⟩
 (simp only[LJ,Dv,A9,CW,Ar,A6,A8,A3,gS,gZ,A0,true_and])
 rw[AO (hpF _),lv_length]
 (simp only[OH])
 refine⟨⟨by exact lb [] [_] (.c (-4611686018427387904)) (.t (.n 0)) [] [1] rfl,by exact lb [] [_] (.t (.n 0)) (.c 4611686018427387904) [.L (.n 0) (.c 100)] [1,1] rfl hl⟩,⟨by decide,by decide⟩,⟨by decide,by decide⟩,by decide,?_⟩
 rw[Iv]
 refine Av (l:=List.range ps.length) (f:=fun (k:Nat)=>It.v (.int ((ps.length:Int)+(k:Int) * -1)))
  (I:=fun as ρ H'=>∃acc p' x' x5 x6 x7 x8,ρ=[some (.ref R),some (.ref T),some (.int M),some (.ref F),some (.int (p':Nat)),x5,x6,x7,x8]∧H'=H.set F (.list (lv acc))∧Back (tr.map (·.2)) ps ps.length M x (ps.length-as.length) p' x' acc∧p'≤M∧acc.length≤as.length) ?_ ?_ ?_
  ⟨[],M,x,_,_,_,_,rfl,rfl,⟨Nat.le_refl _,hx,fun l r=>by rw[List.reverse_nil,List.append_nil];exact r⟩,Nat.le_refl _,Nat.le_refl _⟩
 ·rintro as ρ H' _;exact BY
 ·rintro ρ H' ⟨acc,p',x',x5,x6,x7,x8,rfl,rfl,B,h1,h2⟩
  rw[List.length_range,Nat.sub_self] at B
  dsimp only[A4]
  (simp only[BT,BV,A8,A3,gS,gZ,A0])
  rw[r_L (Hp.set_self _ _ _)]
  refine⟨⟨nofun,nofun⟩,?_⟩
  rw[KQ (Hp.set_self _ _ _),Hp.set_set,Gz]
  dsimp only[A4]
  (simp only[Al,A3,gS,gZ,A0])
  exact hq acc.reverse F _ (B.done tab) (Ext.new _ hF) hF (Hp.set_self _ _ _)
 ·rintro as b bs ρ H' K hl' ⟨acc,p',x',x5,x6,x7,x8,rfl,rfl,B,h1,h2⟩ hK
  obtain⟨rfl,hb⟩:=B5 hl'
  refine⟨_,rfl,?_⟩
  rw[ME hb]
  obtain⟨k,ek⟩:∃k,ps.length-1-as.length=k:=⟨_,rfl⟩
  rw[ek]
  have hk:k<ps.length:=by exact lB [] [_,_,_,_] (.n 0) (.n 1) [.E (.n 2) (.n 0),.E (.a (.n 3) (.c 1)) (.n 1),.L (.n 2) (.n 3)] [1,-1,1,1] rfl ek (nsE (a:=List.length ps) (b:=1) (lA [] [_,_] (.c 1) (.n 0) [.B (.n 1) (.n 0)] [1,1] rfl hb)) (ns0 (a:=List.length ps-1) (b:=as.length))
  have e1:ps.length-as.length=k+1:=by exact lQ [] [_,_,_,_,_,_] (.n 0) (.a (.n 1) (.c 1)) [.E (.n 2) (.n 1),.E (.a (.n 0) (.n 3)) (.n 4),.E (.a (.n 2) (.n 3)) (.n 5),.E (.a (.n 5) (.c 1)) (.n 4)] [1,-1,-1,1,1] [1,1,1,-1,-1] rfl ek (nsE (a:=List.length ps) (b:=as.length) (lA [] [_,_] (.n 0) (.n 1) [.B (.n 0) (.n 1)] [1,1] rfl hb)) (nsE (a:=List.length ps-1) (b:=as.length) (lA [] [_,_,_] (.n 0) (.n 1) [.B (.n 0) (.n 2),.L (.n 2) (.a (.n 1) (.c 1))] [1,1,1] rfl hb (ns1 (a:=List.length ps) (b:=1)))) (nsE (a:=List.length ps) (b:=1) (lA [] [_,_] (.c 1) (.n 0) [.B (.n 1) (.n 0)] [1,1] rfl hb))
  have e2:ps.length-(as++[as.length]).length=k:=by rw[List.length_append];show ps.length-(as.length+1)=k;exact lQ [] [_,_,_,_,_] (.n 0) (.n 1) [.E (.n 2) (.a (.n 1) (.c 1)),.E (.a (.n 0) (.a (.n 3) (.c 1))) (.n 4),.E (.a (.n 2) (.n 3)) (.n 4)] [1,-1,-1,1] [1,1,1,-1] rfl e1 (nsE (a:=List.length ps) (b:=as.length+1) (lA [] [_,_] (.a (.n 0) (.c 1)) (.n 1) [.B (.n 0) (.n 1)] [1,1] rfl hb)) (nsE (a:=List.length ps) (b:=as.length) (lA [] [_,_] (.n 0) (.n 1) [.B (.n 0) (.n 1)] [1,1] rfl hb))
  rw[e1] at B
  have gq:=List.getElem?_eq_getElem hk
  obtain⟨ra,rb,k1,k2,k3,k4,k5,k6,k7⟩:=tab.step_at gq
  have mq:=List.getElem_mem hk
  obtain⟨v1,v2⟩:=hv _ mq
  obtain⟨c1,c2⟩:=hc _ mq
  have hcell:=B.cell
  rw[k4] at hcell
  have hR':∀o,(H.set F o) R=some (.list (EE tr)):=fun o=>Ext.new o hF _ _ hR
  have hI':∀(o:Ob) (y:Addr×Row),y∈tr→(H.set F o) y.1=some (.list (lo y.2)):=fun o y hy=>Ext.new o hF _ _ (I y hy)
  have ma:=List.mem_of_getElem? k1
  have mb:=List.mem_of_getElem? k2
  generalize ps[k]=q at gq k5 mq v1 v2 c1 c2
  have ev:q.1=((q.1.toNat:Nat):Int):=by exact lq [_] [_] (.v 0) (.t (.n 0)) [.e (.t (.n 0)) (.v 0),.l (.v 0) (.t (.n 0))] [1,1,0] [1,-1,0] rfl (tnE (a:=q.fst) (la [_] [] (.c 0) (.v 0) [.l (.c 1) (.v 0)] [1,1] rfl v1)) (tn0 (a:=q.fst))
  have ec:q.2=((q.2.toNat:Nat):Int):=by exact lq [_] [_] (.v 0) (.t (.n 0)) [.e (.t (.n 0)) (.v 0),.l (.v 0) (.t (.n 0))] [1,1,0] [1,-1,0] rfl (tnE (a:=q.snd) (c1)) (tn0 (a:=q.snd))
  obtain⟨y,hy1,hy2⟩:=k5.2 p' (by exact lB [] [_,_,_] (.n 0) (.n 1) [.L (.n 0) (.n 2),.E (.n 1) (.a (.n 2) (.c 1))] [1,1,-1] rfl h1 k6)
  cases hy1.symm.trans hcell
  have ekk:((k+1:Nat):Int)-1=(k:Int):=by exact lq [] [_] (.s (.t (.a (.n 0) (.c 1))) (.c 1)) (.t (.n 0)) [] [1] [1] rfl
  dsimp only[AN]
  (simp only[sS,sZ,Ae,Ac,A9,Ah,A3,gS,gZ,A0,Be])
  rw[ekk]
  refine Mo (hpF _) gq (by exact lA [] [_] (.n 0) (.c 1001) [.L (.n 0) (.c 100)] [1,1] rfl hl) ?_
  (simp only[CY])
  dsimp only[A4]
  (simp only[Ae,sS,sZ,Ac,A3,gS,gZ,A0])
  refine Db (hR' _) k2 hrl ?_
  refine HU (hI' _ _ mb) hcell (by exact lA [] [_,_] (.n 0) (.c 1001) [.L (.n 1) (.c 1000),.E (.n 0) (.a (.n 1) (.c 1))] [1,1,1] rfl hM k7) ?_
  dsimp only[A4]
  (simp only[Ae,sS,sZ,Ar,A6,A8,Ah,A3,gS,gZ,A0,Bi,Ac,A9,Be,true_and])
  rw[ekk]
  refine Mo (hpF _) gq (by exact lA [] [_] (.n 0) (.c 1001) [.L (.n 0) (.c 100)] [1,1] rfl hl) ?_
  (simp only[CX,Kf])
  refine⟨⟨by exact lb [_] [] (.c 0) (.v 0) [.l (.c 1) (.v 0)] [1,1] rfl v1,by exact lb [_] [] (.v 0) (.c 1073741824) [.l (.v 0) (.c 1000)] [1,1] rfl v2⟩,?_⟩
  simp only[ov]
  rw[ev,ec,K9,←ev]
  dsimp only[A4]
  refine DR (I:=fun j ρ H'=>H'=H.set F (.list (lv acc))∧ρ=[some (.ref R),some (.ref T),some (.int M),some (.ref F),some (.int p'),some (.int ((k+1:Nat):Int)),some (.int q.1),some (.int x'),some (.int (j:Int))]∧Above ra.2 q.1.toNat q.2.toNat p' x' j) ?_ (n:=min q.2.toNat (p' / q.1.toNat)) ⟨rfl,rfl,.first (by exact lB [_] [_] (.c 0) (.n 0) [.l (.c 1) (.v 0),.e (.v 0) (.t (.n 0))] [1,1,1] rfl v1 ev)⟩
  rintro j ρ H' K' ⟨rfl,rfl,a⟩ hK'
  obtain⟨z,hz⟩:=a.cell (show p'<ra.2.length by exact lB [] [_,_,_] (.n 0) (.n 1) [.L (.n 0) (.n 2),.E (.n 1) (.a (.n 2) (.c 1))] [1,1,-1] rfl h1 k6)
  have hap:=a.hp
  (simp only[Ab,A5,Ah,A3,gS,gZ,A0,Be,Ac,FS,A9])
  rw[ekk]
  refine Db (hR' _) k1 hrl ?_
  refine⟨.inr ⟨by exact lb [_] [] (.c (-18446744073709551616)) (.v 0) [.l (.c 1) (.v 0)] [1,1] rfl v1,by exact lb [_] [] (.v 0) (.c 18446744073709551616) [.l (.v 0) (.c 1000)] [1,1] rfl v2⟩,?_⟩
  rw[ev,K0 hap,←ev]
  refine HU (hI' _ _ ma) hz (by exact lA [] [_,_] (.n 0) (.c 1001) [.L (.n 1) (.c 1000),.E (.n 0) (.a (.n 1) (.c 1))] [1,1,1] rfl hM k6) ?_
  rw[show V.int (x'-(j:Int))=ov (some (x'-(j:Int))) from rfl,ML]
  by_cases e:z=some (x'-(j:Int))
  ·rw[decide_eq_true e]
   refine IS ?_
   have hm':=a.most (by rw[hz,e])
   have hB:=B.step gq (by rw[k3];exact hm')
   have epos:(p':Int)-(j:Int)*q.1=((p'-j*q.1.toNat:Nat):Int):=by rw[Int.natCast_sub hap,Int.natCast_mul,←ev]
   have fin:∀o,o=H.set F (.list (lv (addP acc q.1 j)))→A4 ⟨Aj defs anc n,anc⟩ false (.cons (.asg 4 (.bin .sub (.var 4) (.bin .mul (.var 8) (.var 6)))) .nil) K Q (fun c ξ H₁=>X c H₁) [some (.ref R),some (.ref T),some (.int M),some (.ref F),some (.int p'),some (.int ((k+1:Nat):Int)),some (.int q.1),some (.int x'),some (.int j)] o:=by
    intro o eo
    subst eo
    dsimp only[A4]
    (simp only[Ae,sS,sZ,Ah,A3,gS,gZ,A0,FS,Be])
    refine⟨.inr ⟨by exact lb [_] [] (.c (-18446744073709551616)) (.v 0) [.l (.c 1) (.v 0)] [1,1] rfl v1,by exact lb [_] [] (.v 0) (.c 18446744073709551616) [.l (.v 0) (.c 1000)] [1,1] rfl v2⟩,?_⟩
    rw[epos]
    refine hK _ _ ⟨addP acc q.1 j,p'-j*q.1.toNat,x'-j,_,_,_,_,rfl,rfl,by rw[e2];exact hB,Nat.le_trans (Nat.sub_le ..) h1,?_⟩
    rw[addP,List.length_append]
    by_cases h0:0<j
    ·rw[if_pos h0,List.length_append];exact Nat.add_le_add_right h2 1
    ·rw[if_neg h0];exact Nat.le_succ_of_le h2
   dsimp only[A4]
   (simp only[Ad,A7,Aa,Ab,A5,A9,A3,gS,gZ,A0,DN,decide_eq_true_eq])
   by_cases h0:0<j
   ·refine AY (by exact lb [] [_] (.c 0) (.t (.n 0)) [.B (.c 0) (.n 0)] [1,1] rfl h0) ?_
    dsimp only[A4]
    (simp only[BT,BV,A6,A8,AI,List.length_cons,List.length_nil,Nat.reduceAdd,A3,gS,gZ,A0])
    rw[r_L (Hp.set_self _ _ _)]
    refine⟨⟨nofun,nofun⟩,Nat.le_of_ble_eq_true rfl,?_⟩
    rw[Bk (Hp.set_self _ _ _)]
    refine⟨by rw[lv_length,Ai];exact lB [] [_,_,_] (.n 0) (.c 16777216) [.L (.n 1) (.c 100),.L (.n 0) (.n 2),.B (.n 2) (.n 1)] [1,1,1,1] rfl hl h2 hb,?_⟩
    rw[Hp.set_set]
    refine fin _ ?_
    rw[addP,if_pos h0,CA];rfl
   ·refine AK (by exact lf [] [_] [.L (.n 0) (.c 0),.b (.c 0) (.t (.n 0))] [1,1] rfl (Nat.not_lt.mp h0)) ?_
    refine fin _ ?_
    rw[addP,if_neg h0]
  ·rw[decide_eq_false e]
   refine Mm ?_
   obtain⟨i,rfl,a'⟩:=a.next hy2 (by rw[hz];intro h;exact e (Option.some.inj h))
   dsimp only[AN]
   (simp only[Ae,sS,sZ,Ah,A9,A3,gS,gZ,A0,Be])
   dsimp only[A4]
   (simp only[AL])
   refine hK' i _ _ (Nat.lt_succ_self i) ⟨rfl,?_,a'⟩
   rw[Int.natCast_add i 1,Int.natCast_one,Int.add_sub_cancel]
end
structure Def6 (defs:String→Option Fn):Prop extends Def4 defs where
 h6:defs "most_of" = some CC
 h7:defs "fewest" = some Ee
structure TillAt (H:Hp) (p:Addr) (ps:PL):Prop where
 at_:H p=some (.list (lv ps))
 len:ps.length≤100
 val:∀q∈ps,1≤q.1∧q.1≤1000
 cnt:∀q∈ps,0≤q.2∧q.2≤1000000000
theorem TillAt.ext {H H':Hp}{p:Addr}{ps:PL} (t:TillAt H p ps) (e:Ext H H'):TillAt H' p ps:=⟨e _ _ t.at_,t.len,t.val,t.cnt⟩
noncomputable def InR (m:Int):Prop:=0≤m∧m≤1000
noncomputable def FT (M:Nat) (ps:PL) (z:Option Int):Prop:=∃tr:List (Addr×Row),Tab M ps tr∧(Bp (tr.map (·.2)) ps.length)[M]?=some z
noncomputable def Bv (M:Nat) (ps:PL) (x:Int) (l:PL):Prop:=∃tr:List (Addr×Row),Tab M ps tr∧(Bp (tr.map (·.2)) ps.length)[M]?=some (some x)∧Ei (tr.map (·.2)) ps ps.length M x l
theorem FT.one {M:Nat}{ps:PL}{z z':Option Int} (a:FT M ps z) (b:FT M ps z'):z=z':=by
 obtain⟨tr,T,h⟩:=a
 obtain⟨tr',T',h'⟩:=b
 rw[T.one T'] at h
 exact Option.some.inj (h.symm.trans h')
theorem Bv.few {M:Nat}{ps:PL}{x:Int}{l:PL} (a:Bv M ps x l):FT M ps (some x):=by
 obtain⟨tr,T,h,_⟩:=a
 exact⟨tr,T,h⟩
theorem Bv.one {M:Nat}{ps:PL}{x y:Int}{l l':PL} (a:Bv M ps x l) (b:Bv M ps y l'):x=y∧l=l':=by
 have e:=Option.some.inj (a.few.one b.few)
 subst e
 obtain⟨tr,T,h,p⟩:=a
 obtain⟨tr',T',h',p'⟩:=b
 rw[T.one T'] at p
 exact⟨rfl,p.one p'⟩
section
variable {defs:String→Option Fn}{n:Nat}{Q:V→Hp→Prop}{X:String→Hp→Prop}{H:Hp}
theorem L8 {anc:String→List String} (D:Def6 defs) {p:Addr}{ps:PL}{due:Int} (t:TillAt H p ps) (hS:¬InR due→X "NoSum" H) (hN:InR due→∀H',Ext H H'→FT due.toNat ps none→X "NoChange" H')
  (hq:InR due→∀x l a H',Ext H H'→Bv due.toNat ps x l→l.length≤100→H a=none→H' a=some (.list (lv l))→Q (.ref a) H'):Aj defs anc (n+4) "fewest" [.ref p,.int due] Q X H :=
 IX D.toDef4 D.h6 D.h7 t.at_ t.len t.val t.cnt hS (fun hm tr H' T e z=>hN hm H' e ⟨tr,T,z⟩) fun hm tr x l a H' T e z P hl ha hb=>hq hm x l a H' e ⟨tr,T,z,P⟩ hl ha hb
end
theorem HA {qs ps:List (Int×Int)} (G:Good ps) (hp:qs.Perm ps) (hs:EY qs):Till qs :=
 ⟨by rw[hp.length_eq];exact G.pos,by rw[hp.length_eq];exact G.len,((hp.map _).nodup_iff).mpr G.nodup,hs,fun q hq=>G.val q (hp.mem_iff.mp hq),fun q hq=>G.cnt q (hp.mem_iff.mp hq)⟩
theorem Till.at {H:Hp}{p:Addr}{ps:PL} (T:Till ps) (h:H p=some (.list (lv ps))):TillAt H p ps:=⟨h,by have:=T.len;exact lA [] [_] (.n 0) (.c 100) [.L (.n 0) (.c 10)] [1,1] rfl this,T.val,T.cnt⟩
section
variable {Q:V→Hp→Prop}{X:String→Hp→Prop}{H:Hp}
theorem NG {a:Addr}{x y:V} (h:H a=some (.list [x,y])) (w:Q x H):Ce (.ref a) (.int 0) Q H:=by rw[BJ h];exact⟨0,x,⟨by decide,by decide⟩,rfl,rfl,w⟩
theorem NF {a:Addr}{x y:V} (h:H a=some (.list [x,y])) (w:Q y H):Ce (.ref a) (.int 1) Q H:=by rw[BJ h];exact⟨1,y,⟨by decide,by decide⟩,rfl,rfl,w⟩
end
section
variable {Q:V→Hp→Prop}{X:String→Hp→Prop}{H:Hp}
end
end Mine.Internal
end

section
namespace Mine.Internal
noncomputable def Ec:Fn:=⟨2,3,["_law_found", "_law_due", "_law_pair"],
 (.cons (.ife (.bop false (.cons (.nt (.isi (.var 0) [.list])) (.cons (.cmp .ne (.var 0) (.var 1)) .nil))) (.cons (.ret (.bool false))
  .nil) .nil)
 (.cons (.for (.one 2) (.ex (.var 0)) (.cons (.ife (.bop false (.cons (.nt (.isi (.var 2) [.tuple])) (.cons (.nt (.call "_law_whole" (.cons (.idx (.var 2) (.int 0)) .nil))) (.cons (.nt (.call "_law_whole" (.cons (.idx (.var 2) (.int 1)) .nil))) .nil)))) (.cons (.ret (.bool false))
   .nil) .nil)
  .nil))
 (.cons (.ret (.bool true))
 .nil)))⟩
end Mine.Internal
end

section
namespace Mine.Internal
noncomputable def Eb:Fn:=⟨2,4,["till", "values", "counts", "value"],
 (.cons (.asg 2 (.call "counts_of" (.cons (.var 0) .nil)))
 (.cons (.for (.one 3) (.ex (.var 1)) (.cons (.ife (.cmp .notIn (.var 3) (.var 2)) (.cons (.raise "NoKind" "a piece of no kind of the till")
   .nil) .nil)
  (.cons (.ife (.cmp .eq (.idx (.var 2) (.var 3)) (.glob "MOST_COUNT" 1000000000)) (.cons (.raise "NoCount" "too many would lie there")
   .nil) .nil)
  (.cons (.setIt (.var 2) (.var 3) (.bin .add (.idx (.var 2) (.var 3)) (.int 1)))
  .nil))))
 (.cons (.ret (.call "pairs_of" (.cons (.var 2) .nil)))
 .nil)))⟩
noncomputable def CZ:Fn:=⟨2,5,["till", "change", "counts", "value", "count"],
 (.cons (.asg 2 (.call "counts_of" (.cons (.var 0) .nil)))
 (.cons (.for (.two 3 4) (.ex (.var 1)) (.cons (.setIt (.var 2) (.var 3) (.bin .sub (.idx (.var 2) (.var 3)) (.var 4)))
  .nil))
 (.cons (.ret (.call "pairs_of" (.cons (.var 2) .nil)))
 .nil)))⟩
noncomputable def HY:Fn:=⟨3,6,["till", "price", "values", "full", "over", "change"],
 (.cons (.ex (.call "need_sum" (.cons (.var 1) .nil)))
 (.cons (.ife (.cmp .gt (.bc .len (.cons (.var 2) .nil)) (.glob "MOST_PIECES" 60)) (.cons (.raise "NoCount" "too many pieces")
  .nil) .nil)
 (.cons (.asg 3 (.call "put_in" (.cons (.var 0) (.cons (.var 2) .nil))))
 (.cons (.asg 4 (.bin .sub (.bc .sum (.cons (.var 2) .nil)) (.var 1)))
 (.cons (.ife (.cmp .lt (.var 4) (.int 0)) (.cons (.raise "TooLittle" "less than the price")
  .nil) .nil)
 (.cons (.ex (.call "need_sum" (.cons (.var 4) .nil)))
 (.cons (.asg 5 (.call "fewest" (.cons (.var 3) (.cons (.var 4) .nil))))
 (.cons (.ret (.tup (.cons (.call "taken_out" (.cons (.var 3) (.cons (.var 5) .nil))) (.cons (.var 5) .nil))))
 .nil))))))))⟩
noncomputable def DM:Fn:=⟨3,5,["_law_rows", "_law_till", "_law_most", "_law_k", "_law_at"],
 (.cons (.ife (.bop false (.cons (.nt (.isi (.var 0) [.list])) (.cons (.cmp .ne (.bc .len (.cons (.var 0) .nil)) (.bin .add (.bc .len (.cons (.var 1) .nil)) (.int 1))) (.cons (.nt (.call "_law_row" (.cons (.idx (.var 0) (.int 0)) (.cons (.bin .add (.var 2) (.int 1)) .nil)))) .nil)))) (.cons (.ret (.bool false))
  .nil) .nil)
 (.cons (.ife (.cmp .ne (.idx (.var 0) (.int 0)) (.bin .add (.list (.cons (.int 0) .nil)) (.bin .mul (.list (.cons .none .nil)) (.var 2)))) (.cons (.ret (.bool false))
  .nil) .nil)
 (.cons (.for (.one 3) (.range1 (.bc .len (.cons (.var 1) .nil))) (.cons (.ife (.nt (.call "_law_row" (.cons (.idx (.var 0) (.bin .add (.var 3) (.int 1))) (.cons (.bin .add (.var 2) (.int 1)) .nil)))) (.cons (.ret (.bool false))
   .nil) .nil)
  (.cons (.for (.one 4) (.range1 (.bin .add (.var 2) (.int 1))) (.cons (.ife (.cmp .ne (.idx (.idx (.var 0) (.bin .add (.var 3) (.int 1))) (.var 4)) (.call "_law_least" (.cons (.idx (.var 0) (.var 3)) (.cons (.var 4) (.cons (.idx (.idx (.var 1) (.var 3)) (.int 0)) (.cons (.idx (.idx (.var 1) (.var 3)) (.int 1)) .nil)))))) (.cons (.ret (.bool false))
    .nil) .nil)
   .nil))
  .nil)))
 (.cons (.ret (.bool true))
 .nil))))⟩
noncomputable def FY:Fn:=⟨3,9,["_law_found", "_law_till", "_law_due_here", "_law_left", "_law_many", "_law_last", "_law_pair", "_law_there", "_law_one"],
 (.cons (.ife (.nt (.isi (.var 0) [.list])) (.cons (.ret (.neg (.int 1)))
  .nil) .nil)
 (.cons (.asg 3 (.var 2))
 (.cons (.asg 4 (.int 0))
 (.cons (.asg 5 (.int 0))
 (.cons (.for (.one 6) (.ex (.var 0)) (.cons (.ife (.bop false (.cons (.nt (.isi (.var 6) [.tuple])) (.cons (.cmp .ne (.bc .len (.cons (.var 6) .nil)) (.int 2)) (.cons (.nt (.call "_law_whole" (.cons (.idx (.var 6) (.int 0)) .nil))) (.cons (.nt (.call "_law_whole" (.cons (.idx (.var 6) (.int 1)) .nil))) .nil))))) (.cons (.ret (.neg (.int 1)))
   .nil) .nil)
  (.cons (.ife (.bop false (.cons (.cmp .le (.idx (.var 6) (.int 0)) (.var 5)) (.cons (.cmp .lt (.idx (.var 6) (.int 1)) (.int 1)) .nil))) (.cons (.ret (.neg (.int 1)))
   .nil) .nil)
  (.cons (.asg 7 (.int 0))
  (.cons (.for (.one 8) (.ex (.var 1)) (.cons (.ife (.cmp .eq (.idx (.var 8) (.int 0)) (.idx (.var 6) (.int 0))) (.cons (.asg 7 (.idx (.var 8) (.int 1)))
    .nil) .nil)
   .nil))
  (.cons (.ife (.cmp .gt (.idx (.var 6) (.int 1)) (.var 7)) (.cons (.ret (.neg (.int 1)))
   .nil) .nil)
  (.cons (.asg 5 (.idx (.var 6) (.int 0)))
  (.cons (.asg 3 (.bin .sub (.var 3) (.bin .mul (.idx (.var 6) (.int 0)) (.idx (.var 6) (.int 1)))))
  (.cons (.asg 4 (.bin .add (.var 4) (.idx (.var 6) (.int 1))))
  .nil)))))))))
 (.cons (.ife (.cmp .ne (.var 3) (.int 0)) (.cons (.ret (.neg (.int 1)))
  .nil) .nil)
 (.cons (.ret (.var 4))
 .nil)))))))⟩
noncomputable def HZ:Fn:=⟨3,8,["_law_till", "_law_cell", "_law_other", "_law_many", "_law_found", "_law_k", "_law_at", "_law_strange"],
 (.cons (.asg 3 (.bin .mod (.var 1) (.int 10)))
 (.cons (.ife (.cmp .eq (.bin .mod (.bin .fdiv (.var 1) (.int 10)) (.int 6)) (.int 1)) (.cons (.asg 3 (.bin .add (.int 10) (.bin .mod (.bin .fdiv (.var 1) (.int 60)) (.int 51))))
  .nil) .nil)
 (.cons (.ife (.cmp .eq (.bin .mod (.bin .fdiv (.var 1) (.int 10)) (.int 6)) (.int 2)) (.cons (.asg 3 (.bin .add (.int 60) (.bin .mod (.bin .fdiv (.var 1) (.int 60)) (.int 3))))
  .nil) .nil)
 (.cons (.asg 4 (.list .nil))
 (.cons (.for (.one 5) (.range1 (.var 3)) (.cons (.ex (.mt .append (.var 4) (.cons (.idx (.idx (.var 0) (.bin .mod (.call "_law_mixed" (.cons (.var 2) (.cons (.bin .add (.var 5) (.int 1)) .nil))) (.bc .len (.cons (.var 0) .nil)))) (.int 0)) .nil)))
  .nil))
 (.cons (.ife (.cmp .eq (.bin .mod (.bin .fdiv (.var 1) (.int 7)) (.int 8)) (.int 1)) (.cons (.asg 6 (.bin .mod (.bin .fdiv (.var 1) (.int 60)) (.bin .add (.var 3) (.int 1))))
  (.cons (.asg 7 (.idx (.list (.cons (.int 0) (.cons (.int 1001) (.cons (.bin .sub (.neg (.int 1)) (.bin .mod (.var 2) (.bin .pow (.int 10) (.int 6)))) (.cons (.bin .add (.int 7) (.bin .mod (.var 2) (.int 1000))) (.cons (.bin .pow (.int 10) (.int 9)) .nil)))))) (.bin .mod (.var 2) (.int 5))))
  (.cons (.asg 4 (.bin .add (.bin .add (.slTo (.var 4) (.var 6)) (.list (.cons (.var 7) .nil))) (.slFrom (.var 4) (.var 6))))
  .nil))) .nil)
 (.cons (.ret (.var 4))
 .nil)))))))⟩
noncomputable def JH:Fn:=⟨2,4,["_law_till", "_law_values_here", "_law_found", "_law_pair"],
 (.cons (.asg 2 (.list .nil))
 (.cons (.for (.one 3) (.ex (.var 0)) (.cons (.ex (.mt .append (.var 2) (.cons (.tup (.cons (.idx (.var 3) (.int 0)) (.cons (.bin .add (.idx (.var 3) (.int 1)) (.mt .count (.var 1) (.cons (.idx (.var 3) (.int 0)) .nil))) .nil))) .nil)))
  .nil))
 (.cons (.ret (.var 2))
 .nil)))⟩
noncomputable def I1:Fn:=⟨3,6,["_law_till", "_law_price", "_law_values_here", "_law_k", "_law_there", "_law_pair"],
 (.cons (.ife (.bop false (.cons (.cmp .lt (.var 1) (.int 0)) (.cons (.cmp .gt (.var 1) (.int 1000)) .nil))) (.cons (.ret (.str "sum"))
  .nil) .nil)
 (.cons (.ife (.cmp .gt (.bc .len (.cons (.var 2) .nil)) (.int 60)) (.cons (.ret (.str "count"))
  .nil) .nil)
 (.cons (.for (.one 3) (.range1 (.bc .len (.cons (.var 2) .nil))) (.cons (.asg 4 (.neg (.int 1)))
  (.cons (.for (.one 5) (.ex (.var 0)) (.cons (.ife (.cmp .eq (.idx (.var 5) (.int 0)) (.idx (.var 2) (.var 3))) (.cons (.asg 4 (.bin .add (.idx (.var 5) (.int 1)) (.mt .count (.slTo (.var 2) (.var 3)) (.cons (.idx (.var 5) (.int 0)) .nil))))
    .nil) .nil)
   .nil))
  (.cons (.ife (.cmp .lt (.var 4) (.int 0)) (.cons (.ret (.str "kind"))
   .nil) .nil)
  (.cons (.ife (.cmp .eq (.var 4) (.bin .pow (.int 10) (.int 9))) (.cons (.ret (.str "count"))
   .nil) .nil)
  .nil)))))
 (.cons (.ife (.cmp .lt (.bc .sum (.cons (.var 2) .nil)) (.var 1)) (.cons (.ret (.str "little"))
  .nil) .nil)
 (.cons (.ife (.cmp .gt (.bin .sub (.bc .sum (.cons (.var 2) .nil)) (.var 1)) (.int 1000)) (.cons (.ret (.str "sum"))
  .nil) .nil)
 (.cons (.ret (.str ""))
 .nil))))))⟩
noncomputable def GM:Fn:=⟨3,3,["_law_till", "_law_price", "_law_values_here"],
 (.cons (.tr (.cons (.ret (.list (.cons (.str "") (.cons (.call "paid" (.cons (.var 0) (.cons (.var 1) (.cons (.var 2) .nil)))) .nil))))
  .nil) (.cons "NoSum" none (.cons (.ret (.list (.cons (.str "sum") (.cons (.tup .nil) .nil))))
  .nil) (.cons "NoCount" none (.cons (.ret (.list (.cons (.str "count") (.cons (.tup .nil) .nil))))
  .nil) (.cons "NoKind" none (.cons (.ret (.list (.cons (.str "kind") (.cons (.tup .nil) .nil))))
  .nil) (.cons "TooLittle" none (.cons (.ret (.list (.cons (.str "little") (.cons (.tup .nil) .nil))))
  .nil) (.cons "NoChange" none (.cons (.ret (.list (.cons (.str "change") (.cons (.tup .nil) .nil))))
  .nil) .nil))))))
 .nil)⟩
noncomputable def I2:Fn:=⟨3,5,["_law_till", "_law_price", "_law_values_here", "e", "_law_kinds"],
 (.cons (.tr (.cons (.ex (.call "paid" (.cons (.var 0) (.cons (.var 1) (.cons (.var 2) .nil)))))
  .nil) (.cons "TillError" (some 3) (.cons (.asg 4 (.list (.cons (.isi (.var 3) [.own "NoSum"]) (.cons (.isi (.var 3) [.own "NoCount"]) (.cons (.isi (.var 3) [.own "NoKind"]) (.cons (.isi (.var 3) [.own "TooLittle"]) .nil))))))
  (.cons (.ex (.mt .append (.var 4) (.cons (.isi (.var 3) [.own "NoChange"]) .nil)))
  (.cons (.ife (.isi (.var 3) [.own "NoDeed",.own "NoTill",.own "StillHeld",.own "TooFew",.own "Twice"]) (.cons (.ret (.bool false))
   .nil) .nil)
  (.cons (.ret (.bop true (.cons (.isi (.var 3) [.valueError]) (.cons (.cmp .eq (.mt .count (.var 4) (.cons (.bool true) .nil)) (.int 1)) .nil))))
  .nil)))) .nil))
 (.cons (.ret (.bool false))
 .nil))⟩
noncomputable def GN:Fn:=⟨3,9,["_law_rows", "_law_till", "_law_due_here", "_law_found", "_law_at", "_law_k", "_law_value_here", "_law_few", "_law_many"],
 (.cons (.asg 3 (.list .nil))
 (.cons (.asg 4 (.var 2))
 (.cons (.for (.one 5) (.range3 (.bc .len (.cons (.var 1) .nil)) (.int 0) (.neg (.int 1))) (.cons (.asg 6 (.idx (.idx (.var 1) (.bin .sub (.var 5) (.int 1))) (.int 0)))
  (.cons (.asg 7 (.idx (.idx (.var 0) (.var 5)) (.var 4)))
  (.cons (.asg 8 (.bc .min2 (.cons (.idx (.idx (.var 1) (.bin .sub (.var 5) (.int 1))) (.int 1)) (.cons (.bin .fdiv (.var 4) (.var 6)) .nil))))
  (.cons (.whl (.cmp .ne (.idx (.idx (.var 0) (.bin .sub (.var 5) (.int 1))) (.bin .sub (.var 4) (.bin .mul (.var 8) (.var 6)))) (.bin .sub (.var 7) (.var 8))) (.cons (.asg 8 (.bin .sub (.var 8) (.int 1)))
   .nil))
  (.cons (.ife (.cmp .gt (.var 8) (.int 0)) (.cons (.ex (.mt .append (.var 3) (.cons (.tup (.cons (.var 6) (.cons (.var 8) .nil))) .nil)))
   .nil) .nil)
  (.cons (.asg 4 (.bin .sub (.var 4) (.bin .mul (.var 8) (.var 6))))
  .nil)))))))
 (.cons (.ex (.mt .reverse (.var 3) .nil))
 (.cons (.ret (.var 3))
 .nil)))))⟩
noncomputable def IY:Fn:=⟨4,9,["_law_found", "_law_till", "_law_values_here", "_law_due_here", "_law_full_here", "_law_rows", "_law_behind", "_law_pair", "_law_given_here", "_law_one"],
 (.cons (.ife (.bop false (.cons (.nt (.isi (.var 0) [.tuple])) (.cons (.cmp .ne (.bc .len (.cons (.var 0) .nil)) (.int 2)) .nil))) (.cons (.ret (.bool false))
  .nil) .nil)
 (.cons (.asg 4 (.call "_law_full" (.cons (.var 1) (.cons (.var 2) .nil))))
 (.cons (.asg 5 (.call "table" (.cons (.bc .list (.cons (.var 4) .nil)) (.cons (.var 3) .nil))))
 (.cons (.ife (.nt (.call "_law_walked" (.cons (.var 5) (.cons (.var 4) (.cons (.var 3) .nil))))) (.cons (.ret (.bool false))
  .nil) .nil)
 (.cons (.ife (.cmp .ne (.call "_law_change" (.cons (.idx (.var 0) (.int 1)) (.cons (.var 4) (.cons (.var 3) .nil)))) (.idx (.idx (.var 5) (.bc .len (.cons (.var 4) .nil))) (.var 3))) (.cons (.ret (.bool false))
  .nil) .nil)
 (.cons (.ife (.bop false (.cons (.cmp .is (.idx (.idx (.var 5) (.bc .len (.cons (.var 4) .nil))) (.var 3)) .none) (.cons (.cmp .ne (.idx (.var 0) (.int 1)) (.call "_law_exact" (.cons (.var 5) (.cons (.var 4) (.cons (.var 3) .nil))))) .nil))) (.cons (.ret (.bool false))
  .nil) .nil)
 (.cons (.asg 6 (.list .nil))
 (.cons (.for (.one 7) (.ex (.var 4)) (.cons (.asg 8 (.bc .sum (.cons (.compIf (.idx (.var 9) (.int 1)) (.one 9) (.ex (.idx (.var 0) (.int 1))) (.cmp .eq (.idx (.var 9) (.int 0)) (.idx (.var 7) (.int 0)))) .nil)))
  (.cons (.ex (.mt .append (.var 6) (.cons (.tup (.cons (.idx (.var 7) (.int 0)) (.cons (.bin .sub (.idx (.var 7) (.int 1)) (.var 8)) .nil))) .nil)))
  .nil)))
 (.cons (.ret (.call "_law_alike" (.cons (.idx (.var 0) (.int 0)) (.cons (.var 6) .nil))))
 .nil)))))))))⟩
noncomputable def FW:Fn:=⟨2,2,["_law_till", "_law_most", "_law_pair"],
 (.cons (.whl (.cmp .gt (.bc .sum (.cons (.comp (.bc .min2 (.cons (.bin .mul (.idx (.var 2) (.int 1)) (.var 1)) (.cons (.bin .fdiv (.bin .mul (.var 1) (.var 1)) (.bin .mul (.int 2) (.idx (.var 2) (.int 0)))) .nil))) (.one 2) (.ex (.var 0))) .nil)) (.int 40000)) (.cons (.asg 1 (.bin .fdiv (.var 1) (.int 2)))
  .nil))
 (.cons (.ret (.var 1))
 .nil))⟩
noncomputable def JG:Fn:=⟨3,4,["_law_till", "_law_values_here", "_law_price", "_law_left"],
 (.cons (.asg 3 (.bin .sub (.bc .sum (.cons (.var 1) .nil)) (.var 2)))
 (.cons (.ife (.bop false (.cons (.cmp .lt (.var 2) (.int 0)) (.cons (.cmp .gt (.var 2) (.int 1000)) (.cons (.cmp .lt (.var 3) (.int 0)) (.cons (.cmp .gt (.var 3) (.int 1000)) .nil))))) (.cons (.ret (.var 2))
  .nil) .nil)
 (.cons (.ret (.bin .sub (.bc .sum (.cons (.var 1) .nil)) (.call "_law_within" (.cons (.call "_law_full" (.cons (.var 0) (.cons (.var 1) .nil))) (.cons (.var 3) .nil)))))
 .nil)))⟩
noncomputable def Mx:Fn:=⟨1,14,["_law_script", "_law_till", "_law_values_here", "_law_cell", "_law_price", "_law_far", "_law_at", "_law_handed", "_law_due_here", "_law_found", "_law_full_here", "_law_rows", "_law_kept", "_law_again"],
 (.cons (.asg 1 (.bc .sorted (.cons (.call "_law_pairs" (.cons (.var 0) .nil)) .nil)))
 (.cons (.asg 2 (.call "_law_values" (.cons (.var 1) (.cons (.call "_law_cell_at" (.cons (.var 0) (.cons (.int 3) .nil))) (.cons (.call "_law_cell_at" (.cons (.var 0) (.cons (.int 4) .nil))) .nil)))))
 (.cons (.asg 3 (.call "_law_cell_at" (.cons (.var 0) (.cons (.int 5) .nil))))
 (.cons (.asg 4 (.bin .mod (.bin .fdiv (.var 3) (.int 8)) (.int 61)))
 (.cons (.ife (.cmp .gt (.bin .mod (.var 3) (.int 8)) (.int 4)) (.cons (.asg 4 (.bin .mod (.bc .max2 (.cons (.int 0) (.cons (.bin .sub (.bc .sum (.cons (.var 2) .nil)) (.bin .mod (.bin .fdiv (.var 3) (.int 8)) (.int 200))) .nil))) (.int 1001)))
  .nil) .nil)
 (.cons (.ife (.cmp .eq (.bin .mod (.var 3) (.int 8)) (.int 4)) (.cons (.asg 5 (.bin .mod (.bin .fdiv (.var 3) (.int 8)) (.bin .pow (.int 10) (.int 9))))
  (.cons (.asg 4 (.idx (.list (.cons (.neg (.int 1)) (.cons (.int 1001) (.cons (.bin .sub (.neg (.int 2)) (.var 5)) (.cons (.bin .add (.int 1002) (.var 5)) (.cons (.bin .mod (.bin .fdiv (.var 3) (.int 8)) (.int 1001)) .nil)))))) (.bin .mod (.bin .fdiv (.var 3) (.int 16)) (.int 5))))
  .nil)) .nil)
 (.cons (.ife (.cmp .eq (.bin .mod (.bin .fdiv (.var 3) (.int 3)) (.int 12)) (.int 1)) (.cons (.asg 6 (.bin .mod (.bin .fdiv (.var 3) (.int 36)) (.bc .len (.cons (.var 1) .nil))))
  (.cons (.asg 1 (.bin .add (.bin .add (.slTo (.var 1) (.var 6)) (.list (.cons (.tup (.cons (.idx (.idx (.var 1) (.var 6)) (.int 0)) (.cons (.bin .pow (.int 10) (.int 9)) .nil))) .nil))) (.slFrom (.var 1) (.bin .add (.var 6) (.int 1)))))
  .nil)) .nil)
 (.cons (.asg 4 (.call "_law_near" (.cons (.var 1) (.cons (.var 2) (.cons (.var 4) .nil)))))
 (.cons (.asg 7 (.list (.cons (.bc .list (.cons (.var 1) .nil)) (.cons (.bc .list (.cons (.var 2) .nil)) .nil))))
 (.cons (.asg 8 (.call "_law_due" (.cons (.var 1) (.cons (.var 4) (.cons (.var 2) .nil)))))
 (.cons (.asg 9 (.call "_law_tried" (.cons (.idx (.var 7) (.int 0)) (.cons (.var 4) (.cons (.idx (.var 7) (.int 1)) .nil)))))
 (.cons (.ife (.cmp .ne (.var 7) (.list (.cons (.var 1) (.cons (.var 2) .nil)))) (.cons (.ret (.bool false))
  .nil) .nil)
 (.cons (.ife (.bop true (.cons (.cmp .eq (.var 8) (.str "")) (.cons (.cmp .eq (.idx (.var 9) (.int 0)) (.str "change")) .nil))) (.cons (.asg 10 (.call "_law_full" (.cons (.var 1) (.cons (.var 2) .nil))))
  (.cons (.asg 11 (.call "table" (.cons (.bc .list (.cons (.var 10) .nil)) (.cons (.bin .sub (.bc .sum (.cons (.var 2) .nil)) (.var 4)) .nil))))
  (.cons (.ife (.bop false (.cons (.cmp .isNot (.idx (.idx (.var 11) (.bc .len (.cons (.var 10) .nil))) (.bin .sub (.bc .sum (.cons (.var 2) .nil)) (.var 4))) .none) (.cons (.nt (.call "_law_any" (.cons (.idx (.var 7) (.int 0)) (.cons (.var 4) (.cons (.idx (.var 7) (.int 1)) .nil))))) .nil))) (.cons (.ret (.bool false))
   .nil) .nil)
  (.cons (.ret (.call "_law_walked" (.cons (.var 11) (.cons (.var 10) (.cons (.bin .sub (.bc .sum (.cons (.var 2) .nil)) (.var 4)) .nil)))))
  .nil)))) .nil)
 (.cons (.ife (.bop false (.cons (.cmp .ne (.idx (.var 9) (.int 0)) (.var 8)) (.cons (.cmp .ne (.call "_law_any" (.cons (.idx (.var 7) (.int 0)) (.cons (.var 4) (.cons (.idx (.var 7) (.int 1)) .nil)))) (.cmp .ne (.var 8) (.str ""))) .nil))) (.cons (.ret (.bool false))
  .nil) .nil)
 (.cons (.ife (.cmp .ne (.var 8) (.str "")) (.cons (.ret (.bool true))
  .nil) .nil)
 (.cons (.ife (.nt (.call "_law_given" (.cons (.idx (.var 9) (.int 1)) (.cons (.var 1) (.cons (.var 2) (.cons (.bin .sub (.bc .sum (.cons (.var 2) .nil)) (.var 4)) .nil)))))) (.cons (.ret (.bool false))
  .nil) .nil)
 (.cons (.asg 12 (.list (.cons (.bc .list (.cons (.idx (.idx (.var 9) (.int 1)) (.int 0)) .nil)) (.cons (.bc .list (.cons (.idx (.idx (.var 9) (.int 1)) (.int 1)) .nil)) .nil))))
 (.cons (.ex (.call "_law_tried" (.cons (.idx (.var 7) (.int 0)) (.cons (.bin .add (.var 4) (.int 1)) (.cons (.idx (.var 7) (.int 1)) .nil)))))
 (.cons (.ife (.cmp .ne (.list (.cons (.idx (.idx (.var 9) (.int 1)) (.int 0)) (.cons (.idx (.idx (.var 9) (.int 1)) (.int 1)) .nil))) (.var 12)) (.cons (.ret (.bool false))
  .nil) .nil)
 (.cons (.ex (.mt .clear (.idx (.idx (.var 9) (.int 1)) (.int 0)) .nil))
 (.cons (.ex (.mt .append (.idx (.idx (.var 9) (.int 1)) (.int 1)) (.cons (.tup (.cons (.int 7) (.cons (.int 7) .nil))) .nil)))
 (.cons (.asg 13 (.call "paid" (.cons (.idx (.var 7) (.int 0)) (.cons (.var 4) (.cons (.idx (.var 7) (.int 1)) .nil)))))
 (.cons (.ret (.bop true (.cons (.cmp .eq (.list (.cons (.idx (.var 13) (.int 0)) (.cons (.idx (.var 13) (.int 1)) .nil))) (.var 12)) (.cons (.cmp .eq (.var 7) (.list (.cons (.var 1) (.cons (.var 2) .nil)))) .nil))))
 .nil)))))))))))))))))))))))⟩
noncomputable def tab08:List (String×Fn):=[("pairs_of",AZ),("counts_of",AW),("need_sum",C9),("fill",DF),("row_with",BL),("table",Fi),("most_of",CC),("fewest",Ee),("put_in",Eb),("taken_out",CZ),("paid",HY),("_law_cell_at",BD),("_law_whole",B7),("_law_mixed",B8),("_law_value",Ci),("_law_count",Cl),("_law_pairs",BP),("_law_alike",D4),("_law_least",BQ),("_law_row",CD),("_law_walked",DM),("_law_change",FY),("_law_values",HZ),("_law_full",JH),("_law_due",I1),("_law_tried",GM),("_law_any",I2),("_law_exact",GN),("_law_given",IY),("_law_within",FW),("_law_near",JG),("law",Mx)]
noncomputable def OU (f:String):Option Fn:=tab08.lookup f
end Mine.Internal
end

section
namespace Mine.Internal
open PySem (Str Addr)
noncomputable def MC:Int:=1000000000
noncomputable def AB (ps:PL) (vs:List Int):PL:=ps.map fun p=>(p.1,p.2+(vs.count p.1:Int))
theorem FC (ps:PL):AB ps []=ps:=by
 have:(fun p:Int×Int=>(p.1,p.2+(([]:List Int).count p.1:Int)))=id:=by funext p;exact Prod.ext rfl (Int.add_zero _)
 rw[AB,this,List.map_id]
theorem AS (ps:PL) (vs:List Int):(AB ps vs).map (·.1)=ps.map (·.1):=by rw[AB,List.map_map];rfl
theorem B6 (ps:PL) (vs:List Int):(AB ps vs).length=ps.length:=List.length_map ..
theorem Ez (v:Int) (ps:PL):C6 v (ps.map kvI)=(lk v ps).map V.int:=by
 induction ps with
 | nil=>rfl
 | cons p ps ih =>
  show (if p.1=v then some (V.int p.2) else C6 v (ps.map kvI))=(if p.1=v then some p.2 else lk v ps).map V.int
  by_cases e:p.1=v
  ·rw[if_pos e,if_pos e];rfl
  ·rw[if_neg e,if_neg e];exact ih
theorem Kb (v:Int) (ps:PL) (vs:List Int):lk v (AB ps vs)=(lk v ps).map (· + (vs.count v:Int)):=by
 induction ps with
 | nil=>rfl
 | cons p ps ih =>
  show (if p.1=v then some (p.2+(vs.count p.1:Int)) else lk v (AB ps vs))=(if p.1=v then some p.2 else lk v ps).map (· + (vs.count v:Int))
  by_cases e:p.1=v
  ·rw[if_pos e,if_pos e,e];rfl
  ·rw[if_neg e,if_neg e];exact ih
theorem GB {v c:Int}{ps:PL} (h:lk v ps=some c):v∈ps.map (·.1):=List.mem_map.mpr ⟨_,Er h,rfl⟩
theorem KC {v c:Int}{ps:PL}{vs:List Int} (hn:(ps.map (·.1)).Nodup) (h:lk v ps=some c):BI v (c+(vs.count v:Int)+1) (AB ps vs)=AB ps (vs++[v]):=by
 rw[CJ (by rw[AS];exact hn) (by rw[AS];exact GB h),AB,AB,List.map_map]
 refine List.map_congr_left fun p hp=>?_
 show (if p.1=v then (v,c+(vs.count v:Int)+1) else (p.1,p.2+(vs.count p.1:Int)))=(p.1,p.2+((vs++[v]).count p.1:Int))
 by_cases e:p.1=v
 ·have:p.2=c:=by
   have:=Cs hn (show (v,p.2)∈ps by rw[←e];exact hp)
   exact Option.some.inj (this.symm.trans h)
  rw[if_pos e,e,this,List.count_append,List.count_singleton_self,Int.natCast_add,Int.add_assoc];rfl
 ·rw[if_neg e,List.count_append,List.count_singleton,if_neg (by simpa using fun z=>e z.symm),Nat.add_zero]
noncomputable def Ax (ps:PL) (done:List Int) (v:Int):String:=Option.casesOn (motive:=fun ξ=>String) (lk v ps) "NoKind" fun c=>if c+(done.count v:Int)=MC then "NoCount" else ""
noncomputable def Az (ps:PL) (todo:List Int):List Int→String:=List.rec (motive:=fun ξ=>List Int→String) (fun ξ => "") (fun v ξ r done=>if Ax ps done v = "" then r (done++[v]) else Ax ps done v) todo
section
variable {defs:String→Option Fn}{anc:String→List String}{n:Nat}{Q:V→Hp→Prop}{X:String→Hp→Prop}{H:Hp}
theorem EB (h5:defs "counts_of" = some AW) {p:Addr}{ps:PL} (hp:H p=some (.list (lv ps))) (hl:ps.length≤1000) (hn:(ps.map (·.1)).Nodup)
  (hq:∀a,H a=none→Q (.ref a) (H.set a (.dict (ps.map kvI)))) :
  Aj defs anc (n+1) "counts_of" [.ref p] Q X H:=by
 refine Ao h5 rfl ?_
 simp only[AW]
 (simp only[List.map_cons,List.map_nil,List.length_cons,List.length_nil,Nat.reduceAdd,Nat.reduceSub,List.replicate,List.cons_append,List.nil_append,Ae,sS,sZ,F8])
 intro D hD
 dsimp only[A4]
 refine AC ⟨rfl,?_⟩
 (simp only[BB,A3,gZ,A0])
 refine B2 (Ext.new _ hD _ _ hp) ?_
 have hpD:p≠D:=AJ hp hD
 rw[GA]
 refine Av (I:=fun as ρ H'=>∃x2 x3,ρ=[some (.ref p),some (.ref D),x2,x3]∧H'=H.set D (.dict (as.map kvI))) ?_ ?_ ?_ ⟨_,_,rfl,rfl⟩
 ·rintro as ρ H' ⟨x2,x3,rfl,rfl⟩;exact AR (by rw[Hp.set_ne _ hpD];exact hp)
 ·rintro ρ H' ⟨x2,x3,rfl,rfl⟩
  dsimp only[A4]
  (simp only[Al,A3,gS,gZ,A0])
  exact hq D hD
 ·rintro as b bs ρ H' K e ⟨x2,x3,rfl,rfl⟩ hK
  refine⟨_,rfl,?_⟩
  dsimp only[AN]
  (simp only[sS,sZ,BS,A3,gS,gZ,A0])
  rw[EI (Hp.set_self _ _ _)]
  refine⟨by rw[List.length_map,Ai];rw[e,List.length_append] at hl;exact lB [] [_,_] (.n 0) (.c 16777216) [.L (.a (.n 0) (.n 1)) (.c 1000)] [1,1] rfl hl,?_⟩
  have hm:b.1∉as.map (·.1):=fun hm=>by
   rw[e,List.map_append,List.nodup_append] at hn
   exact hn.2.2 _ hm _ (.head _) rfl
  rw[Fj (by rw[E8];exact hm),Hp.set_set]
  exact hK _ _ ⟨_,_,rfl,by rw[List.map_append];rfl⟩
theorem IJ (h5:defs "pairs_of" = some AZ) {p:Addr}{ps:PL} (hp:H p=some (.dict (ps.map kvI))) (hl:ps.length≤63) (hn:(ps.map (·.1)).Nodup) (hs:EY ps)
  (hq:∀a H',Ext H H'→H a=none→H' a=some (.list (lv ps))→Q (.ref a) H'):Aj defs anc (n+1) "pairs_of" [.ref p] Q X H :=
 EK h5 hp hl hn fun qs a H' g1 g2 hE ha hb=>hq a H' hE ha (by rw[←Du g1 g2 hs hn];exact hb)
theorem OO (vs:List Int):(vs.map V.int).map It.v=vs.map fun v=>It.v (.int v):=by rw[List.map_map];rfl
theorem Gr {ps:PL}{as:List Int}:∀ {bs:List Int}{done:List Int},Az ps (as++bs) done=if Az ps as done = "" then Az ps bs (done++as) else Az ps as done:=by
 induction as with
 | nil=>intro bs done;rw[List.nil_append,List.append_nil];rfl
 | cons v as ih =>
  intro bs done
  show (if Ax ps done v = "" then Az ps (as++bs) (done++[v]) else Ax ps done v)=if (if Ax ps done v = "" then Az ps as (done++[v]) else Ax ps done v) = "" then _ else (if Ax ps done v = "" then Az ps as (done++[v]) else Ax ps done v)
  by_cases h:Ax ps done v = ""
  ·rw[if_pos h,if_pos h,ih,List.append_assoc];rfl
  ·rw[if_neg h,if_neg h,if_neg h]
theorem EJ {ps:PL}{as bs:List Int}{v:Int} (h:Az ps as [] = "") (hf:Ax ps as v ≠ ""):Az ps (as++v :: bs) []=Ax ps as v:=by
 rw[Gr,if_pos h]
 exact if_neg hf
theorem Fa {ps:PL}{as:List Int}{v:Int} (h:Az ps as [] = "") (hf:Ax ps as v = ""):Az ps (as++[v]) [] = "" := by
 rw[Gr,if_pos h]
 exact if_pos hf
theorem IH (h1:defs "counts_of" = some AW) (h2:defs "pairs_of" = some AZ) (h5:defs "put_in" = some Eb) {p q:Addr}{ps:PL}{vs:List Int} (hp:H p=some (.list (lv ps))) (hv:H q=some (.list (vs.map V.int))) (hl:ps.length≤60) (hn:(ps.map (·.1)).Nodup) (hs:EY ps)
  (hX:∀H',Az ps vs [] ≠ "" → Ext H H'→X (Az ps vs []) H') (hq:Az ps vs [] = "" → ∀a H',Ext H H'→H a=none→H' a=some (.list (lv (AB ps vs)))→Q (.ref a) H') :
  Aj defs anc (n+2) "put_in" [.ref p,.ref q] Q X H:=by
 refine Ao h5 rfl ?_
 simp only[Eb]
 (simp only[List.map_cons,List.map_nil,List.length_cons,List.length_nil,Nat.reduceAdd,Nat.reduceSub,List.replicate,List.cons_append,List.nil_append,Ae,sS,sZ,Ag,A6,A8,A3,gZ,A0,true_and])
 refine EB h1 hp (by exact lA [] [_] (.n 0) (.c 1000) [.L (.n 0) (.c 60)] [1,1] rfl hl) hn fun D hD=>?_
 dsimp only[A4]
 refine AC ⟨rfl,?_⟩
 (simp only[BB,A3,gS,gZ,A0])
 have hvD:∀o,(H.set D o) q=some (.list (vs.map V.int)):=fun o=>Ext.new o hD _ _ hv
 refine B2 (hvD _) ?_
 rw[OO]
 refine Av (I:=fun as ρ H'=>∃x3,ρ=[some (.ref p),some (.ref q),some (.ref D),x3]∧H'=H.set D (.dict ((AB ps as).map kvI))∧Az ps as [] = "") ?_ ?_ ?_ ⟨_,rfl,by rw[FC],rfl⟩
 ·rintro as ρ H' ⟨x3,rfl,rfl,_⟩;exact AR (hvD _)
 ·rintro ρ H' ⟨x3,rfl,rfl,hc⟩
  dsimp only[A4]
  (simp only[Al,Ag,A6,A8,A3,gS,gZ,A0,true_and])
  refine IJ h2 (Hp.set_self _ _ _) (by rw[B6];exact lA [] [_] (.n 0) (.c 63) [.L (.n 0) (.c 60)] [1,1] rfl hl) (by rw[AS];exact hn) (by show ((AB ps vs).map (·.1)).Pairwise _;rw[AS];exact hs) fun a H' hE ha hb=>?_
  exact hq hc a H' ((Ext.new _ hD).trans hE) ((Ext.new _ hD).no ha) hb
 ·rintro as v bs ρ H' K e ⟨x3,rfl,rfl,hc⟩ hK
  refine⟨_,rfl,?_⟩
  dsimp only[AN]
  (simp only[sS,sZ,Ad,A7,Aa,Ab,A5,A3,gS,gZ,A0])
  rw[CR (Hp.set_self _ _ _),Ez,Kb]
  have fault:Ax ps as v ≠ "" → X (Ax ps as v) (H.set D (.dict ((AB ps as).map kvI))):=fun hf=>by
   have:=hX (H.set D (.dict ((AB ps as).map kvI)))
   rw[e,EJ hc hf] at this
   exact this hf (Ext.new _ hD)
  cases hk:lk v ps with
  | none =>
   refine Mm ?_
   dsimp only[A4]
   (simp only[By,true_and])
   have ef:Ax ps as v = "NoKind" := by rw[Ax,hk]
   rw[ef] at fault
   exact fault (by decide)
  | some c =>
   refine IS ?_
   have hg:C6 v ((AB ps as).map kvI)=some (.int (c+(as.count v:Int))):=by rw[Ez,Kb,hk];rfl
   have ef:Ax ps as v=if c+(as.count v:Int)=MC then "NoCount" else "" := by rw[Ax,hk]
   dsimp only[A4]
   (simp only[Ad,A7,Aa,Ab,A5,El,Ac,A3,gS,gZ,A0])
   rw[Ct (Hp.set_self _ _ _)]
   refine⟨_,hg,?_⟩
   (simp only[C7,decide_eq_true_eq])
   by_cases h:c+(as.count v:Int)=MC
   ·rw[if_pos h] at ef
    refine AY h ?_
    dsimp only[A4]
    (simp only[By,true_and])
    rw[ef] at fault
    exact fault (by decide)
   ·rw[if_neg h] at ef
    refine AK h ?_
    dsimp only[A4]
    (simp only[BS,A3,gS,gZ,A0,Ah,A9,Ac])
    rw[Ct (Hp.set_self _ _ _)]
    refine⟨_,hg,?_⟩
    (simp only[AQ])
    rw[EI (Hp.set_self _ _ _)]
    refine⟨by rw[List.length_map,B6,Ai];exact lB [] [_] (.n 0) (.c 16777216) [.L (.n 0) (.c 60)] [1,1] rfl hl,?_⟩
    rw[BR,KC hn hk,Hp.set_set]
    dsimp only[A4]
    (simp only[AL])
    exact hK _ _ ⟨_,rfl,rfl,Fa hc ef⟩
end
noncomputable def Au (l:PL) (v:Int):Int:=((l.filter fun e=>decide (e.1=v)).map (·.2)).sum
theorem IU (l:PL) (b:Int×Int) (v:Int):Au (l++[b]) v=if b.1=v then Au l v+b.2 else Au l v:=by
 rw[Au,List.filter_append,List.map_append,List.sum_append]
 show Au l v+_=_
 by_cases e:b.1=v
 ·rw[if_pos e,List.filter_cons,if_pos (by simpa using e)]
  exact congrArg (_ + ·) (Int.add_zero b.2)
 ·rw[if_neg e,List.filter_cons,if_neg (by simpa using e)]
  exact Int.add_zero _
noncomputable def Bf (ps l:PL):PL:=ps.map fun p=>(p.1,p.2-Au l p.1)
theorem Ji (ps:PL):Bf ps []=ps:=by
 have:(fun p:Int×Int=>(p.1,p.2-Au [] p.1))=id:=by funext p;exact Prod.ext rfl (Int.sub_zero _)
 rw[Bf,this,List.map_id]
theorem BN (ps l:PL):(Bf ps l).map (·.1)=ps.map (·.1):=by rw[Bf,List.map_map];rfl
theorem Cc (ps l:PL):(Bf ps l).length=ps.length:=List.length_map ..
theorem M9 (v:Int) (ps l:PL):lk v (Bf ps l)=(lk v ps).map (· - Au l v):=by
 induction ps with
 | nil=>rfl
 | cons p ps ih =>
  show (if p.1=v then some (p.2-Au l p.1) else lk v (Bf ps l))=(if p.1=v then some p.2 else lk v ps).map (· - Au l v)
  by_cases e:p.1=v
  ·rw[if_pos e,if_pos e,e];rfl
  ·rw[if_neg e,if_neg e];exact ih
theorem Jl {c:Int}{ps l:PL}{b:Int×Int} (hn:(ps.map (·.1)).Nodup) (h:lk b.1 ps=some c):BI b.1 (c-Au l b.1-b.2) (Bf ps l)=Bf ps (l++[b]):=by
 rw[CJ (by rw[BN];exact hn) (by rw[BN];exact GB h),Bf,Bf,List.map_map]
 refine List.map_congr_left fun p hp=>?_
 show (if p.1=b.1 then (b.1,c-Au l b.1-b.2) else (p.1,p.2-Au l p.1))=(p.1,p.2-Au (l++[b]) p.1)
 rw[IU]
 by_cases e:p.1=b.1
 ·have:p.2=c:=by
   have:=Cs hn (show (b.1,p.2)∈ps by rw[←e];exact hp)
   exact Option.some.inj (this.symm.trans h)
  rw[if_pos e,if_pos e.symm,e,this,Int.sub_sub]
 ·rw[if_neg e,if_neg (fun z=>e z.symm)]
theorem Ba (vs:List Int):Da (vs.map V.int)=some vs:=by
 have:=ER (fun v:Int=>v) vs
 rwa [List.map_id'] at this
theorem IV {ps:PL}{bs:List Int}:∀ {as:List Int},(∀q∈AB ps as,0≤q.2∧q.2≤MC)→(ps.map (·.1)).Nodup→Az ps bs as = "" → ∀q∈AB ps (as++bs),0≤q.2∧q.2≤MC:=by
 induction bs with
 | nil=>intro as h _ _;rw[List.append_nil];exact h
 | cons v bs ih =>
  intro as h hn e
  have e:(if Ax ps as v = "" then Az ps bs (as++[v]) else Ax ps as v) = "" := e
  by_cases hf:Ax ps as v = ""
  ·rw[if_pos hf] at e
   rw[show as++v :: bs=as++[v]++bs by rw[List.append_assoc];rfl]
   refine ih (fun q hq=>?_) hn e
   obtain⟨p,hp,rfl⟩:=List.mem_map.mp hq
   have h1:=h _ (List.mem_map.mpr ⟨p,hp,rfl⟩)
   show 0≤p.2+((as++[v]).count p.1:Int)∧p.2+((as++[v]).count p.1:Int)≤MC
   have h2:0≤p.2+(as.count p.1:Int)∧p.2+(as.count p.1:Int)≤MC:=h1
   rw[List.count_append]
   by_cases ev:p.1=v
   ·have hl:=Cs hn (show (v,p.2)∈ps by rw[←ev];exact hp)
    rw[Ax,hl] at hf
    have hf:(if p.2+(as.count v:Int)=MC then "NoCount" else "") = "" := hf
    have hne:¬p.2+(as.count v:Int)=MC:=fun z=>by rw[if_pos z] at hf;exact absurd hf (by decide)
    rw[←ev] at hne
    rw[ev,List.count_singleton_self,←ev]
    omega
   ·rw[List.count_singleton,if_neg (by simpa using fun z=>ev z.symm),Nat.add_zero]
    exact h2
  ·rw[if_neg hf] at e;exact absurd e hf
noncomputable def Do (ps:PL) (price:Int) (vs:List Int):String :=
 if ¬(0≤price∧price≤1000) then "NoSum" else if 60<vs.length then "NoCount" else if Az ps vs [] ≠ "" then Az ps vs [] else if vs.sum<price then "TooLittle" else if ¬(0≤vs.sum-price∧vs.sum-price≤1000) then "NoSum" else ""
structure Def8 (defs:String→Option Fn):Prop extends Def6 defs where
 hco:defs "counts_of" = some AW
 hpa:defs "pairs_of" = some AZ
 hpu:defs "put_in" = some Eb
 hta:defs "taken_out" = some CZ
 hpd:defs "paid" = some HY
section
variable {defs:String→Option Fn}{anc:String→List String}{n:Nat}{Q:V→Hp→Prop}{X:String→Hp→Prop}{H:Hp}
theorem Gg (D:Def8 defs) {p q:Addr}{ps l:PL} (hp:H p=some (.list (lv ps))) (hv:H q=some (.list (lv l))) (hl:ps.length≤60) (hn:(ps.map (·.1)).Nodup) (hs:EY ps) (C:Chg l ps)
  (hq:∀a H',Ext H H'→H a=none→H' a=some (.list (lv (Bf ps l)))→Q (.ref a) H') :
  Aj defs anc (n+2) "taken_out" [.ref p,.ref q] Q X H:=by
 refine Ao D.hta rfl ?_
 simp only[CZ]
 (simp only[List.map_cons,List.map_nil,List.length_cons,List.length_nil,Nat.reduceAdd,Nat.reduceSub,List.replicate,List.cons_append,List.nil_append,Ae,sS,sZ,Ag,A6,A8,A3,gZ,A0,true_and])
 refine EB D.hco hp (by exact lA [] [_] (.n 0) (.c 1000) [.L (.n 0) (.c 60)] [1,1] rfl hl) hn fun D' hD=>?_
 dsimp only[A4]
 refine AC ⟨rfl,?_⟩
 (simp only[BB,A3,gS,gZ,A0])
 have hvD:∀o,(H.set D' o) q=some (.list (lv l)):=fun o=>Ext.new o hD _ _ hv
 refine B2 (hvD _) ?_
 rw[GA]
 refine Av (I:=fun as ρ H'=>∃x3 x4,ρ=[some (.ref p),some (.ref q),some (.ref D'),x3,x4]∧H'=H.set D' (.dict ((Bf ps as).map kvI))) ?_ ?_ ?_ ⟨_,_,rfl,by rw[Ji]⟩
 ·rintro as ρ H' ⟨x3,x4,rfl,rfl⟩;exact AR (hvD _)
 ·rintro ρ H' ⟨x3,x4,rfl,rfl⟩
  dsimp only[A4]
  (simp only[Al,Ag,A6,A8,A3,gS,gZ,A0,true_and])
  refine IJ D.hpa (Hp.set_self _ _ _) (by rw[Cc];exact lA [] [_] (.n 0) (.c 63) [.L (.n 0) (.c 60)] [1,1] rfl hl) (by rw[BN];exact hn) (by show ((Bf ps l).map (·.1)).Pairwise _;rw[BN];exact hs) fun a H' hE ha hb=>?_
  exact hq a H' ((Ext.new _ hD).trans hE) ((Ext.new _ hD).no ha) hb
 ·rintro as b bs ρ H' K e ⟨x3,x4,rfl,rfl⟩ hK
  refine⟨_,rfl,?_⟩
  obtain⟨_,z,hz,e1,_⟩:=C.mem b (by rw[e];exact List.mem_append.mpr (.inr (.head _)))
  have hk:lk b.1 ps=some z.2:=Cs hn (by rw[←e1];exact hz)
  have hg:C6 b.1 ((Bf ps as).map kvI)=some (.int (z.2-Au as b.1)):=by rw[Ez,M9,hk];rfl
  dsimp only[AN]
  (simp only[sS,sZ,BS,A3,gS,gZ,A0,Ah,Ac])
  rw[Ct (Hp.set_self _ _ _)]
  refine⟨_,hg,?_⟩
  (simp only[Be])
  rw[EI (Hp.set_self _ _ _)]
  refine⟨by rw[List.length_map,Cc,Ai];exact lB [] [_] (.n 0) (.c 16777216) [.L (.n 0) (.c 60)] [1,1] rfl hl,?_⟩
  rw[BR,Jl hn hk,Hp.set_set]
  dsimp only[A4]
  (simp only[AL])
  exact hK _ _ ⟨_,_,rfl,rfl⟩
theorem KN (D:Def8 defs) {p q:Addr}{ps:PL}{vs:List Int}{price:Int} (G:Till ps) (hp:H p=some (.list (lv ps))) (hv:H q=some (.list (vs.map V.int)))
  (hX:Do ps price vs ≠ "" → ∀H',Ext H H'→X (Do ps price vs) H')
  (hN:Do ps price vs = "" → ∀H',Ext H H'→FT (vs.sum-price).toNat (AB ps vs) none→X "NoChange" H')
  (hq:Do ps price vs = "" → ∀x l a b H',Ext H H'→Bv (vs.sum-price).toNat (AB ps vs) x l→l.length≤100→H a=none→H b=none→a≠b→H' a=some (.list (lv (Bf (AB ps vs) l)))→H' b=some (.list (lv l))→Q (.tup [.ref a,.ref b]) H') :
  Aj defs anc (n+5) "paid" [.ref p,.int price,.ref q] Q X H:=by
 have hl:=G.len
 refine Ao D.hpd rfl ?_
 simp only[HY]
 (simp only[List.map_cons,List.map_nil,List.length_cons,List.length_nil,Nat.reduceAdd,Nat.reduceSub,List.replicate,List.cons_append,List.nil_append,BT,Ag,A6,A8,A3,gS,gZ,A0,true_and])
 refine D8 D.h0 (fun h1=>?_) fun h1=>?_
 rotate_left
 ·have e:Do ps price vs = "NoSum" := if_pos h1
  rw[e] at hX
  exact hX (by decide) H (.refl _)
 dsimp only[A4]
 (simp only[Ad,A7,Aa,Ab,A5,El,Ar,A6,A8,A3,gS,gZ,A0,true_and])
 rw[AO hv,List.length_map]
 (simp only[DN,decide_eq_true_eq])
 have e1:Do ps price vs=if 60<vs.length then "NoCount" else if Az ps vs [] ≠ "" then Az ps vs [] else if vs.sum<price then "TooLittle" else if ¬(0≤vs.sum-price∧vs.sum-price≤1000) then "NoSum" else "" := if_neg (fun z=>z h1)
 by_cases h2:60<vs.length
 ·refine AY (by exact lb [] [_] (.c 60) (.t (.n 0)) [.B (.c 60) (.n 0)] [1,1] rfl h2) ?_
  dsimp only[A4]
  (simp only[By,true_and])
  rw[e1,if_pos h2] at hX
  exact hX (by decide) H (.refl _)
 refine AK (by exact lf [] [_] [.L (.n 0) (.c 60),.b (.c 60) (.t (.n 0))] [1,1] rfl (Nat.not_lt.mp h2)) ?_
 rw[if_neg h2] at e1
 dsimp only[A4]
 (simp only[Ae,sS,sZ,Ag,A6,A8,A3,gS,gZ,A0,true_and])
 refine IH D.hco D.hpa D.hpu hp hv (by exact lA [] [_] (.n 0) (.c 60) [.L (.n 0) (.c 10)] [1,1] rfl hl) G.nodup G.srt (fun H' h3 hE=>?_) fun h3 f H₁ hE1 hf0 hf=>?_
 ·rw[e1,if_pos h3] at hX
  exact hX h3 H' hE
 rw[if_neg (fun z=>z h3)] at e1
 have hv1:=hE1 _ _ hv
 dsimp only[A4]
 (simp only[Ae,sS,sZ,Ah,A3,gS,gZ,A0,Ar,A6,A8,true_and])
 rw[Ea hv1 (Ba vs)]
 (simp only[Be])
 dsimp only[A4]
 (simp only[Ad,A7,Aa,Ab,A5,A9,A3,gS,gZ,A0,EG,decide_eq_true_eq])
 by_cases h4:vs.sum<price
 ·refine AY (by exact lb [_,_] [] (.s (.v 0) (.v 1)) (.c 0) [.b (.v 0) (.v 1)] [1,1] rfl h4) ?_
  dsimp only[A4]
  (simp only[By,true_and])
  rw[e1,if_pos h4] at hX
  exact hX (by decide) H₁ hE1
 refine AK (by exact lf [_,_] [] [.l (.v 0) (.v 1),.b (.s (.v 1) (.v 0)) (.c 0)] [1,1] rfl (Int.not_lt.mp h4)) ?_
 rw[if_neg h4] at e1
 dsimp only[A4]
 (simp only[BT,Ag,A6,A8,A3,gS,gZ,A0,true_and])
 refine D8 D.h0 (fun h5=>?_) fun h5=>?_
 rotate_left
 ·rw[e1,if_pos h5] at hX
  exact hX (by decide) H₁ hE1
 rw[if_neg (fun z=>z h5)] at e1
 have hcnt:∀q∈AB ps vs,0≤q.2∧q.2≤1000000000:=IV (as:=[]) (by rw[FC];exact G.cnt) G.nodup h3
 have hval:∀q∈AB ps vs,1≤q.1∧q.1≤1000:=fun q hq=>by
  obtain⟨p,hp,rfl⟩:=List.mem_map.mp hq
  exact G.val p hp
 have hnod:((AB ps vs).map (·.1)).Nodup:=by rw[AS];exact G.nodup
 have hsrt:EY (AB ps vs):=by show ((AB ps vs).map (·.1)).Pairwise _;rw[AS];exact G.srt
 have hfl:(AB ps vs).length≤60:=by rw[B6];exact lA [] [_] (.n 0) (.c 60) [.L (.n 0) (.c 10)] [1,1] rfl hl
 dsimp only[A4]
 (simp only[Ae,sS,sZ,Ag,A6,A8,A3,gS,gZ,A0,true_and])
 refine L8 D.toDef6 ⟨hf,by exact lA [] [_] (.n 0) (.c 100) [.L (.n 0) (.c 60)] [1,1] rfl hfl,hval,hcnt⟩ (fun h=>absurd h5 h) (fun ξ H' hE z=>hN e1 H' (hE1.trans hE) z) fun ξ x l b H₂ hE2 c hll hb0 hb=>?_
 have hchg:Chg l (AB ps vs):=by
  obtain⟨tr',T',hx',P'⟩:=c
  have:=(P'.chg (LH hsrt hnod) hval hcnt).1
  rwa [List.take_length] at this
 dsimp only[A4]
 (simp only[Al,AI,A6,List.length_cons,A8,List.length_nil,Nat.reduceAdd,A3,gS,gZ,A0,Ag,true_and])
 refine Gg D (hE2 _ _ hf) hb hfl hnod hsrt hchg fun a H₃ hE3 ha0 ha=>?_
 skip
 have hE12:=hE1.trans hE2
 exact⟨Nat.le_of_ble_eq_true rfl,hq e1 x l a b H₃ (hE12.trans hE3) c hll (hE12.no ha0) (hE1.no hb0) (Ne.symm (AJ hb ha0)) ha (hE3 _ _ hb)⟩
end
theorem Kk (a:Int) (vs:List Int):H7 (.int a) (vs.map V.int)=some (vs.count a):=by
 induction vs with
 | nil=>rfl
 | cons b vs ih =>
  show Option.casesOn (motive:=fun ξ=>Option Nat) (some (b == a)) none (fun b=>Option.casesOn (motive:=fun ξ=>Option Nat) (H7 (.int a) (vs.map V.int)) none fun n=>some (if b then n+1 else n))=_
  rw[ih,List.count_cons]
  show some (if (b == a)=true then vs.count a+1 else vs.count a)=_
  by_cases h:(b == a)=true
  ·rw[if_pos h,if_pos h]
  ·rw[if_neg h,if_neg h];rfl
theorem Ek {α:Type}{l:List α}{k:Nat}{x:α} (h:l[k]?=some x):l.take (k+1)=l.take k++[x]:=by rw[List.take_add_one,h];rfl
section
variable {defs:String→Option Fn}{anc:String→List String}{n:Nat}{Q:V→Hp→Prop}{X:String→Hp→Prop}{H:Hp}
theorem OR {p:Addr}{vs:List Int}{k:Nat}{v:Int} (h:H p=some (.list (vs.map V.int))) (hq:vs[k]?=some v) (hl:vs.length≤1001) (w:Q (.int v) H):Ce (.ref p) (.int (k:Int)) Q H:=by
 have hk:=Ep hq
 rw[BJ h]
 exact⟨k,.int v,⟨by exact lb [] [_] (.c (-4611686018427387904)) (.t (.n 0)) [] [1] rfl,by exact lb [] [_,_] (.t (.n 0)) (.c 4611686018427387904) [.L (.n 1) (.c 1001),.B (.n 0) (.n 1)] [1,1,1] rfl hl hk⟩,Bz (by rw[List.length_map];exact hk),by rw[List.getElem?_map,hq];rfl,w⟩
end
section
variable {defs:String→Option Fn}{anc:String→List String}{n:Nat}{Q:V→Hp→Prop}{X:String→Hp→Prop}{H:Hp}
end
inductive Name4 (s:String):Prop
 | sum (e:s = "NoSum")
 | count (e:s = "NoCount")
 | kind (e:s = "NoKind")
 | little (e:s = "TooLittle")
theorem H2 {ps:PL}{bs:List Int}:∀ {as:List Int},Az ps bs as ≠ "" → Name4 (Az ps bs as):=by
 induction bs with
 | nil=>intro as h;exact absurd rfl h
 | cons v bs ih =>
  intro as
  show (if Ax ps as v = "" then Az ps bs (as++[v]) else Ax ps as v) ≠ "" → Name4 (if Ax ps as v = "" then Az ps bs (as++[v]) else Ax ps as v)
  by_cases h:Ax ps as v = ""
  ·rw[if_pos h];exact ih
  ·rw[if_neg h]
   intro _
   cases hk:lk v ps with
   | none=>exact .kind (by rw[Ax,hk])
   | some c =>
    have e:Ax ps as v=if c+(as.count v:Int)=MC then "NoCount" else "" := by rw[Ax,hk]
    rw[e] at h ⊢
    by_cases z:c+(as.count v:Int)=MC
    ·rw[if_pos z];exact .count rfl
    ·rw[if_neg z] at h;exact absurd rfl h
theorem GP {ps:PL}{price:Int}{vs:List Int} (h:Do ps price vs ≠ ""):Name4 (Do ps price vs):=by
 unfold Do at h ⊢
 by_cases h1:¬(0≤price∧price≤1000)
 ·rw[if_pos h1];exact .sum rfl
 rw[if_neg h1] at h ⊢
 by_cases h2:60<vs.length
 ·rw[if_pos h2];exact .count rfl
 rw[if_neg h2] at h ⊢
 by_cases h3:Az ps vs [] ≠ ""
 ·rw[if_pos h3];exact H2 h3
 rw[if_neg h3] at h ⊢
 by_cases h4:vs.sum<price
 ·rw[if_pos h4];exact .little rfl
 rw[if_neg h4] at h ⊢
 by_cases h5:¬(0≤vs.sum-price∧vs.sum-price≤1000)
 ·rw[if_pos h5];exact .sum rfl
 rw[if_neg h5] at h;exact absurd rfl h
section
variable {defs:String→Option Fn}{n:Nat}{Q:V→Hp→Prop}{X:String→Hp→Prop}{H:Hp}
end
structure TillL (ps:PL):Prop where
 len:ps.length≤60
 nodup:(ps.map (·.1)).Nodup
 srt:EY ps
 val:∀q∈ps,1≤q.1∧q.1≤1000
 cnt:∀q∈ps,0≤q.2∧q.2≤1000000000
theorem Till.full {ps:PL}{vs:List Int} (G:Till ps) (h:Az ps vs [] = ""):TillL (AB ps vs) where
 len:=by have:=G.len;rw[B6];exact lA [] [_] (.n 0) (.c 60) [.L (.n 0) (.c 10)] [1,1] rfl this
 nodup:=by rw[AS];exact G.nodup
 srt:=by show ((AB ps vs).map (·.1)).Pairwise _;rw[AS];exact G.srt
 val:=fun q hq=>by obtain⟨p,hp,rfl⟩:=List.mem_map.mp hq;exact G.val p hp
 cnt:=IV (as:=[]) (by rw[FC];exact G.cnt) G.nodup h
theorem Bv.chg {M:Nat}{ps:PL}{x:Int}{l:PL} (c:Bv M ps x l) (G:TillL ps):Chg l ps∧Co l=M∧DK l=x:=by
 obtain⟨tr',T',hx',P'⟩:=c
 have:=P'.chg (LH G.srt G.nodup) G.val G.cnt
 rwa [List.take_length] at this
section
variable {defs:String→Option Fn}{anc:String→List String}{n:Nat}{Q:V→Hp→Prop}{X:String→Hp→Prop}{H:Hp}
end
theorem DS {m:Nat}{H:Hp}{p q:Addr}{ps:PL} (h1:H p=some (.list (lv ps))) (h2:H q=some (.list (lv ps))):veq (m+3) H (.ref p) (.ref q)=some true:=by
 have:=(CI (m:=m+2) h1 h2).trans (J7 ps ps)
 rwa [decide_eq_true rfl] at this
theorem two_eq {H:Hp}{a b:Addr}{x1 x2 y1 y2:V} (ha:H a=some (.list [x1,y1])) (hb:H b=some (.list [x2,y2])) (h1:veq 7 H x1 x2=some true) (h2:veq 7 H y1 y2=some true):veq Bd H (.ref a) (.ref b)=some true:=by
 refine (CI (m:=7) ha hb).trans ?_
 show CM (veq 7 H x1 x2) (CM (veq 7 H y1 y2) (some true))=some true
 rw[h1,h2];rfl
theorem d8:Def8 OU:=⟨⟨⟨rfl,rfl,rfl,rfl⟩,rfl,rfl⟩,rfl,rfl,rfl,rfl,rfl⟩
section
variable {Q:V→Hp→Prop}{X:String→Hp→Prop}{H:Hp}
structure Asked (H:Hp) (t v hd h1 h2:Addr) (ps:PL) (vs:List Int):Prop where
 t:H t=some (.list (lv ps))
 v:H v=some (.list (vs.map V.int))
 hd:H hd=some (.list [.ref h1,.ref h2])
 h1:H h1=some (.list (lv ps))
 h2:H h2=some (.list (vs.map V.int))
theorem Asked.ext {H H':Hp}{t v hd h1 h2:Addr}{ps:PL}{vs:List Int} (a:Asked H t v hd h1 h2 ps vs) (e:Ext H H'):Asked H' t v hd h1 h2 ps vs:=⟨e _ _ a.t,e _ _ a.v,e _ _ a.hd,e _ _ a.h1,e _ _ a.h2⟩
theorem Asked.set {H:Hp}{t v hd h1 h2 b:Addr}{ps:PL}{vs:List Int} (a:Asked H t v hd h1 h2 ps vs) {H₀:Hp} (a0:Asked H₀ t v hd h1 h2 ps vs) (hb:H₀ b=none) (o:Ob):Asked (H.set b o) t v hd h1 h2 ps vs :=
 ⟨(Hp.set_ne o (AJ a0.t hb)).trans a.t,(Hp.set_ne o (AJ a0.v hb)).trans a.v,(Hp.set_ne o (AJ a0.hd hb)).trans a.hd,(Hp.set_ne o (AJ a0.h1 hb)).trans a.h1,(Hp.set_ne o (AJ a0.h2 hb)).trans a.h2⟩
end
theorem Ii {q:Int×Int}{m:Nat}:∀ {ps:PL}{w:List Nat}{k:Nat},ps[k]?=some q→w.length=k→ps.zip (w++[m])=ps.zip w++[(q,m)]
 | [],_,_,h,_=>by cases h
 | p :: ps,[],k,h,e=>by
  cases e
  cases h
  simp
 | p :: ps,x :: w,k,h,e=>by
  cases e
  exact congrArg ((p,x) :: ·) (Ii (ps:=ps) (w:=w) h rfl)
noncomputable def wo (ps:PL) (w:List Nat):Nat:=((ps.zip w).map fun e=>e.1.1.toNat*e.2).sum
theorem MV {ps:PL}{w:List Nat}{k m:Nat}{q:Int×Int} (h:ps[k]?=some q) (e:w.length=k):wo ps (w++[m])=wo ps w+m*q.1.toNat:=by
 rw[wo,Ii h e,List.map_append,List.sum_append,wo,Nat.mul_comm]
 rfl
inductive WayS (ps:PL) (k:Nat) (R:List Nat→Prop) (w:List Nat):Prop
 | mk (q:Int×Int) (w':List Nat) (m:Nat) (hq:ps[k]?=some q) (r:R w') (hm:m≤q.2.toNat) (e:w=w'++[m])
noncomputable def Ja (ps:PL) (k:Nat):List Nat→Prop:=Nat.rec (motive:=fun ξ=>List Nat→Prop) (fun w=>w=[]) (fun k R=>WayS ps k R) k
theorem Ja.len {ps:PL}{k:Nat}:∀ {w:List Nat},Ja ps k w→w.length=k:=by
 induction k with
 | zero=>intro w h;cases h;rfl
 | succ k ih =>
  intro w ⟨q,w',m,hq,r,hm,e⟩
  rw[e,List.length_append,ih r];rfl
noncomputable def betL:List Nat→List Nat→Bool
 | x :: xs,y :: ys=>if x=y then betL xs ys else decide (y<x)
 | _,_=>false
noncomputable def bet (a b:List Nat):Bool:=if a.sum=b.sum then betL a.reverse b.reverse else decide (a.sum<b.sum)
section
variable {M:Nat}{ps:PL}{tr:List (Addr×Row)}
theorem Tab.low (T:Tab M ps tr) {k:Nat}:∀ {w:List Nat},Ja ps k w→wo ps w≤M→∃x,(Bp (tr.map (·.2)) k)[wo ps w]?=some (some x)∧x≤(w.sum:Int):=by
 induction k with
 | zero =>
  intro w h _
  cases h
  obtain⟨a,e⟩:=T.zero
  refine⟨0,?_,Int.le_refl _⟩
  have ew:wo ps []=0:=by rw[wo,List.zip_nil_right];rfl
  rw[Bp,List.getElem?_map,e,ew];rfl
 | succ k ih =>
  intro w ⟨q,w',m,hq,r,hm,e⟩ hw
  replace r:Ja ps k w':=r
  subst e
  rw[MV hq r.len] at hw ⊢
  obtain⟨x,hx,hl⟩:=ih r (Nat.le_trans (Nat.le_add_right ..) hw)
  obtain⟨a,b,h1,h2,h3,h4,h5,h6,h7⟩:=T.step_at hq
  rw[h3] at hx
  rw[h4]
  obtain⟨z,hz,hL⟩:=h5.2 (wo ps w'+m*q.1.toNat) (by rw[h6];exact Nat.lt_succ_of_le hw)
  have hs:wo ps w'+m*q.1.toNat-m*q.1.toNat=wo ps w':=Nat.add_sub_cancel ..
  cases z with
  | none=>have:=hL m hm (Nat.le_add_left ..);rw[hs,hx] at this;cases this
  | some y =>
   have:=hL.2 m x hm (Nat.le_add_left ..) (by rw[hs];exact hx)
   refine⟨y,hz,?_⟩
   rw[List.sum_append,List.sum_cons,List.sum_nil]
   exact la [_,_] [_,_] (.v 0) (.t (.a (.n 0) (.a (.n 1) (.c 0)))) [.l (.v 1) (.t (.n 0)),.l (.v 0) (.a (.v 1) (.t (.n 1)))] [1,1,1] rfl hl this
end
section
variable {defs:String→Option Fn}{anc:String→List String}{n:Nat}{Q:V→Hp→Prop}{X:String→Hp→Prop}{H:Hp}
end
noncomputable def wv (w:List Nat):List V:=w.map fun (m:Nat)=>V.int (m:Int)
abbrev WL:=List (Addr×List Nat)
noncomputable def Ij (ws:WL):List V:=ws.map fun x=>V.ref x.1
noncomputable def InW (H:Hp) (ws:WL):Prop:=∀x∈ws,H x.1=some (.list (wv x.2))
section
variable {defs:String→Option Fn}{anc:String→List String}{n:Nat}{Q:V→Hp→Prop}{X:String→Hp→Prop}{H:Hp}
end
structure AccW (H H':Hp) (M:Addr) (acc:WL) (S:List Nat→Prop) (L:Nat):Prop where
 ext:Ext H H'
 at_:H' M=some (.list (Ij acc))
 inw:∀x∈acc,x.1≠M∧H' x.1=some (.list (wv x.2))
 mem:∀w,w∈acc.map (·.2) ↔ S w
 len:acc.length=L
noncomputable def P7 (as:WL) (c:Nat) (w:List Nat):Prop:=∃y∈as,∃m,m≤c∧w=y.2++[m]
noncomputable def Km (as:WL) (c:Nat) (y:List Nat) (j:Nat) (w:List Nat):Prop:=P7 as c w∨∃m,m<j∧w=y++[m]
theorem AccW.one {H H':Hp}{M:Addr}{acc:WL}{as:WL}{c j L:Nat}{y:List Nat} (A:AccW H H' M acc (Km as c y j) L) (hM:H M=none) {a b:Addr} (ha:H' a=none) {o:Ob} (hb:(H'.set a o) b=none) :
  AccW H (((H'.set a o).set b (.list (wv (y++[j])))).set M (.list (Ij acc++[.ref b]))) M (acc++[(b,y++[j])]) (Km as c y (j+1)) (L+1) where
 ext:=.setNew _ ((A.ext.trans (.new _ ha)).trans (.new _ hb)) hM
 at_:=by rw[Hp.set_self,Ij,Ij,List.map_append];rfl
 inw:=fun x hx=>by
  have e:=(Ext.new o ha).trans (Ext.new (.list (wv (y++[j]))) hb)
  have nb:b≠M:=fun q=>by subst q;rw[Ext.new o ha _ _ A.at_] at hb;cases hb
  rcases List.mem_append.mp hx with h | h
  ·obtain⟨h1,h2⟩:=A.inw x h
   exact⟨h1,by rw[Hp.set_ne _ h1];exact e _ _ h2⟩
  ·rw[List.mem_singleton] at h;subst h
   exact⟨nb,by rw[Hp.set_ne _ nb];exact Hp.set_self _ _ _⟩
 mem:=fun w=>by
  rw[List.map_append,List.mem_append,A.mem w]
  constructor
  ·rintro (h | h)
   ·rcases h with h | ⟨m,h1,h2⟩
    ·exact .inl h
    ·exact .inr ⟨m,Nat.lt_succ_of_lt h1,h2⟩
   ·rw[List.map_cons,List.map_nil,List.mem_singleton] at h
    exact .inr ⟨j,Nat.lt_succ_self j,h⟩
  ·rintro (h | ⟨m,h1,h2⟩)
   ·exact .inl (.inl h)
   ·rcases Nat.lt_or_ge m j with q | q
    ·exact .inl (.inr ⟨m,q,h2⟩)
    ·cases Nat.le_antisymm (Nat.le_of_lt_succ h1) q
     exact .inr (by rw[h2];exact .head _)
 len:=by rw[List.length_append,A.len];rfl
theorem AccW.next {H H':Hp}{M:Addr}{acc:WL}{as:WL}{c L:Nat}{y:Addr×List Nat} (A:AccW H H' M acc (Km as c y.2 (c+1)) L):AccW H H' M acc (P7 (as++[y]) c) L :=
 ⟨A.ext,A.at_,A.inw,fun w=>by
  rw[A.mem w]
  constructor
  ·rintro (⟨z,h1,h2⟩ | ⟨m,h1,h2⟩)
   ·exact⟨z,List.mem_append_left _ h1,h2⟩
   ·exact⟨y,List.mem_append_right _ (.head _),m,Nat.le_of_lt_succ h1,h2⟩
  ·rintro⟨z,h1,m,h2,h3⟩
   rcases List.mem_append.mp h1 with h | h
   ·exact .inl ⟨z,h,m,h2,h3⟩
   ·rw[List.mem_singleton] at h;subst h
    exact .inr ⟨m,Nat.lt_succ_of_le h2,h3⟩,A.len⟩
theorem AccW.start {H H':Hp}{M:Addr}{acc:WL}{as:WL}{c L:Nat}{y:List Nat} (A:AccW H H' M acc (P7 as c) L):AccW H H' M acc (Km as c y 0) L :=
 ⟨A.ext,A.at_,A.inw,fun w=>by rw[A.mem w];exact⟨.inl,fun h=>h.elim id fun⟨m,h,_⟩=>absurd h (Nat.not_lt_zero m)⟩,A.len⟩
structure WaysAt (H:Hp) (W:Addr) (ws:WL) (ps:PL) (k b:Nat):Prop where
 at_:H W=some (.list (Ij ws))
 inw:InW H ws
 mem:∀w,w∈ws.map (·.2) ↔ Ja ps k w
 len:ws.length≤b ^ k
theorem WaysAt.ext {H H':Hp}{W:Addr}{ws:WL}{ps:PL}{k b:Nat} (A:WaysAt H W ws ps k b) (e:Ext H H'):WaysAt H' W ws ps k b:=⟨e _ _ A.at_,fun x hx=>e _ _ (A.inw x hx),A.mem,A.len⟩
section
variable {defs:String→Option Fn}{anc:String→List String}{n:Nat}{Q:V→Hp→Prop}{X:String→Hp→Prop}{H:Hp}
end
section
variable {defs:String→Option Fn}{anc:String→List String}{n:Nat}{Q:V→Hp→Prop}{X:String→Hp→Prop}{H:Hp}
theorem J9 (h1:defs "_law_whole" = some B7) (h5:Same defs "_law_alike" D4) {p q:Addr}{ps:List (Int×Int)} (hp:H p=some (.list (lv ps))) (hq':H q=some (.list (lv ps))) (hq:Q (.bool true) H) :
  Aj defs anc (n+2) "_law_alike" [.ref p,.ref q] Q X H:=by
 refine G8 h5 rfl ?_
 simp only[D4]
 (simp only[List.map_cons,List.map_nil,List.length_cons,List.length_nil,Nat.reduceAdd,Nat.reduceSub,List.replicate,List.cons_append,List.nil_append,Dh,A7,Aa,Al,CV,An,Ak,At,Ab,A5,A3,gS,gZ,A0,BO,Cq])
 refine⟨true,Dk hp,?_⟩
 rw[I8 hp hq']
 simp only[decide_true,Bool.not_true,if_true]
 rw[if_neg (by simp)]
 refine AC ⟨rfl,?_⟩
 (simp only[BB,A3,gZ,A0])
 refine B2 hp ?_
 refine FD (I:=fun dn rs ρ H'=>H'=H∧∃bs x2,rs=(lv bs).map It.v∧ρ=[some (.ref p),some (.ref q),x2]) ?_ ?_ ?_ _ [] _ _ ⟨rfl,ps,_,rfl,rfl⟩
 ·rintro dn rs ρ H' ⟨rfl,_⟩ z hz
  simp only[List.mem_cons,List.not_mem_nil,or_false] at hz;subst hz;exact hp
 ·rintro dn ρ H' ⟨rfl,bs,x2,e2,rfl⟩
  rw[A4]
  (simp only[Al,CV])
  exact hq
 ·rintro dn it rs ρ H' K' ⟨rfl,bs,x2,e2,rfl⟩ hK'
  cases bs with
  | nil=>simp [lv] at e2
  | cons b bs =>
   simp only[lv,List.map_cons,List.cons.injEq] at e2
   obtain⟨rfl,rfl⟩:=e2
   refine⟨_,rfl,?_⟩
   rw[AN]
   (simp only[sS,sZ,Dh,A7,Aa,Al,CV,AL,An,Ak,At,BO,A5,Ag,A6,A8,Ac,A9,A3,gS,gZ,A0,CX,true_and,CY,Cq])
   refine⟨true,G6,?_⟩
   simp only[Bool.not_true,if_true]
   refine CH h1 ?_
   (simp only[A5])
   simp only[Bool.not_true,if_true]
   refine CH h1 ?_
   (simp only[A5])
   rw[if_neg (by simp)]
   exact hK' _ _ ⟨rfl,bs,_,rfl,rfl⟩
end
structure TopW (ps:PL) (M:Nat) (w:List Nat):Prop where
 way:Ja ps ps.length w
 wor:wo ps w=M
 top:∀v,Ja ps ps.length v→wo ps v=M→v=w∨(bet w v=true∧bet v w=false)
noncomputable def Cy (ps:PL) (M:Nat) (as:WL):Option (Addr×List Nat)→Prop
 | none=>∀x∈as,wo ps x.2≠M
 | some y=>y∈as∧wo ps y.2=M∧∀w,TopW ps M w→w∈as.map (·.2)→y.2=w
theorem IQ {α:Type}{as:List α}{b x:α} (h:x∈as++[b]):x∈as∨x=b:=(List.mem_append.mp h).imp id List.mem_singleton.mp
theorem Fv {as:WL}{b:Addr×List Nat}{w:List Nat} (h:w∈(as++[b]).map (·.2)):w∈as.map (·.2)∨w=b.2:=by
 rw[List.map_append] at h
 exact IQ h
theorem Cy.skip {ps:PL}{M:Nat}{as:WL}{o:Option (Addr×List Nat)}{b:Addr×List Nat} (B:Cy ps M as o) (h:wo ps b.2≠M):Cy ps M (as++[b]) o:=by
 cases o with
 | none=>intro x hx;rcases IQ hx with q | rfl;exact B x q;exact h
 | some y=>exact⟨List.mem_append_left _ B.1,B.2.1,fun w T hw=>(Fv hw).elim (B.2.2 w T) fun q=>absurd (q▸T.wor) h⟩
theorem Cy.first {ps:PL}{M:Nat}{as:WL}{b:Addr×List Nat} (B:Cy ps M as none) (h:wo ps b.2=M):Cy ps M (as++[b]) (some b) :=
 ⟨List.mem_append_right _ (.head _),h,fun w T hw=>(Fv hw).elim (fun q=>by obtain⟨x,hx,rfl⟩:=List.mem_map.mp q;exact absurd T.wor (B x hx)) fun q=>q.symm⟩
theorem Cy.take {ps:PL}{M:Nat}{as:WL}{b y:Addr×List Nat} (B:Cy ps M as (some y)) (hb:Ja ps ps.length b.2) (h:wo ps b.2=M) (e:bet b.2 y.2=true):Cy ps M (as++[b]) (some b) :=
 ⟨List.mem_append_right _ (.head _),h,fun w T hw=>(Fv hw).elim (fun q=>by
  rcases T.top b.2 hb h with z | z
  ·exact z
  ·rw[←B.2.2 w T q,e] at z;cases z.2) fun q=>q.symm⟩
section
variable {Q:V→Hp→Prop}{X:String→Hp→Prop}{H:Hp}
end
end Mine.Internal
end

section
namespace Mine.Internal
noncomputable def JI:Fn:=⟨2,3,["till", "deed", "word"],
 (.cons (.asg 2 (.idx (.var 1) (.int 0)))
 (.cons (.ife (.cmp .eq (.var 2) (.str "paid")) (.cons (.ret (.call "paid" (.cons (.var 0) (.cons (.idx (.var 1) (.int 1)) (.cons (.idx (.var 1) (.int 2)) .nil)))))
  .nil) .nil)
 (.cons (.ife (.cmp .eq (.var 2) (.str "brought")) (.cons (.ret (.tup (.cons (.call "brought" (.cons (.var 0) (.cons (.idx (.var 1) (.int 1)) (.cons (.idx (.var 1) (.int 2)) .nil)))) (.cons (.list .nil) .nil))))
  .nil) .nil)
 (.cons (.ife (.cmp .eq (.var 2) (.str "fetched")) (.cons (.ret (.tup (.cons (.call "fetched" (.cons (.var 0) (.cons (.idx (.var 1) (.int 1)) (.cons (.idx (.var 1) (.int 2)) .nil)))) (.cons (.list .nil) .nil))))
  .nil) .nil)
 (.cons (.ife (.cmp .eq (.var 2) (.str "in")) (.cons (.ret (.tup (.cons (.call "kind_in" (.cons (.var 0) (.cons (.idx (.var 1) (.int 1)) .nil))) (.cons (.list .nil) .nil))))
  .nil) .nil)
 (.cons (.ife (.cmp .eq (.var 2) (.str "out")) (.cons (.ret (.tup (.cons (.call "kind_out" (.cons (.var 0) (.cons (.idx (.var 1) (.int 1)) .nil))) (.cons (.list .nil) .nil))))
  .nil) .nil)
 (.cons (.raise "NoDeed" "no deed")
 .nil)))))))⟩
noncomputable def Ke:Fn:=⟨2,4,["till", "deed", "behind", "change"],
 (.cons (.tr (.cons (.asg2 2 3 (.call "done" (.cons (.var 0) (.cons (.var 1) .nil))))
  .nil) (.cons "NoKind" none (.cons (.ret (.tup (.cons (.var 0) (.cons (.str "no kind") (.cons (.list .nil) .nil)))))
  .nil) (.cons "Twice" none (.cons (.ret (.tup (.cons (.var 0) (.cons (.str "twice") (.cons (.list .nil) .nil)))))
  .nil) (.cons "NoCount" none (.cons (.ret (.tup (.cons (.var 0) (.cons (.str "no count") (.cons (.list .nil) .nil)))))
  .nil) (.cons "NoTill" none (.cons (.ret (.tup (.cons (.var 0) (.cons (.str "no till") (.cons (.list .nil) .nil)))))
  .nil) (.cons "NoSum" none (.cons (.ret (.tup (.cons (.var 0) (.cons (.str "no sum") (.cons (.list .nil) .nil)))))
  .nil) (.cons "TooLittle" none (.cons (.ret (.tup (.cons (.var 0) (.cons (.str "too little") (.cons (.list .nil) .nil)))))
  .nil) (.cons "NoChange" none (.cons (.ret (.tup (.cons (.var 0) (.cons (.str "no change") (.cons (.list .nil) .nil)))))
  .nil) (.cons "TooFew" none (.cons (.ret (.tup (.cons (.var 0) (.cons (.str "too few") (.cons (.list .nil) .nil)))))
  .nil) (.cons "StillHeld" none (.cons (.ret (.tup (.cons (.var 0) (.cons (.str "still held") (.cons (.list .nil) .nil)))))
  .nil) (.cons "NoDeed" none (.cons (.ret (.tup (.cons (.var 0) (.cons (.str "no deed") (.cons (.list .nil) .nil)))))
  .nil) .nil)))))))))))
 (.cons (.ret (.tup (.cons (.var 2) (.cons (.str "done") (.cons (.var 3) .nil)))))
 .nil))⟩
noncomputable def Mz:Fn:=⟨2,7,["till", "deeds", "now", "answers", "deed", "word", "change"],
 (.cons (.asg 2 (.bc .list (.cons (.var 0) .nil)))
 (.cons (.asg 3 (.list .nil))
 (.cons (.for (.one 4) (.ex (.var 1)) (.cons (.asg3 2 5 6 (.call "tried" (.cons (.var 2) (.cons (.var 4) .nil))))
  (.cons (.ex (.mt .append (.var 3) (.cons (.tup (.cons (.var 5) (.cons (.var 6) .nil))) .nil)))
  .nil)))
 (.cons (.ret (.tup (.cons (.var 2) (.cons (.var 3) .nil))))
 .nil))))⟩
noncomputable def D2:Fn:=⟨2,3,["_law_values", "_law_drawn", "_law_strange"],
 (.cons (.asg 2 (.list (.cons (.int 0) (.cons (.int 1001) (.cons (.bin .add (.int 7) (.bin .mod (.var 1) (.int 990))) (.cons (.neg (.int 3)) (.cons (.int 1000) (.cons (.bin .add (.int 1) (.bin .mod (.var 1) (.int 30))) .nil))))))))
 (.cons (.ife (.bop false (.cons (.cmp .eq (.bin .mod (.bin .fdiv (.var 1) (.int 11)) (.int 9)) (.int 1)) (.cons (.cmp .eq (.bc .len (.cons (.var 0) .nil)) (.int 0)) .nil))) (.cons (.ret (.idx (.var 2) (.bin .mod (.bin .fdiv (.var 1) (.int 99)) (.int 6))))
  .nil) .nil)
 (.cons (.ret (.idx (.var 0) (.bin .mod (.bin .fdiv (.var 1) (.int 99)) (.bc .len (.cons (.var 0) .nil)))))
 .nil)))⟩
noncomputable def Bh:Fn:=⟨3,14,["_law_cell", "_law_values", "_law_k", "_law_drawn", "_law_value_here", "_law_count_here", "_law_which", "_law_given", "_law_many", "_law_turn", "_law_near", "_law_far", "_law_beyond", "_law_price"],
 (.cons (.asg 3 (.call "_law_mixed" (.cons (.var 0) (.cons (.int 1) .nil))))
 (.cons (.asg 4 (.call "_law_known" (.cons (.var 1) (.cons (.call "_law_mixed" (.cons (.var 0) (.cons (.int 2) .nil))) .nil))))
 (.cons (.asg 5 (.idx (.list (.cons (.bin .mod (.bin .fdiv (.var 3) (.int 64)) (.int 9)) (.cons (.bin .mod (.bin .fdiv (.var 3) (.int 64)) (.int 60)) (.cons (.int 0) (.cons (.neg (.int 1)) (.cons (.bin .pow (.int 10) (.int 9)) (.cons (.bin .add (.bin .pow (.int 10) (.int 9)) (.int 1)) (.cons (.bin .mod (.bin .fdiv (.var 3) (.int 64)) (.int 4)) (.cons (.int 1) .nil))))))))) (.bin .mod (.bin .fdiv (.var 3) (.int 8)) (.int 8))))
 (.cons (.asg 6 (.bin .mod (.var 0) (.int 12)))
 (.cons (.ife (.cmp .lt (.var 6) (.int 6)) (.cons (.asg 7 (.list .nil))
  (.cons (.asg 8 (.bin .mod (.bin .fdiv (.var 3) (.int 8)) (.int 7)))
  (.cons (.ife (.cmp .eq (.bin .mod (.bin .fdiv (.var 3) (.int 56)) (.int 12)) (.int 1)) (.cons (.asg 8 (.bin .add (.int 7) (.bin .mod (.bin .fdiv (.var 3) (.int 672)) (.int 56))))
   .nil) .nil)
  (.cons (.for (.one 9) (.range1 (.var 8)) (.cons (.ex (.mt .append (.var 7) (.cons (.call "_law_known" (.cons (.var 1) (.cons (.call "_law_mixed" (.cons (.var 0) (.cons (.bin .add (.int 3) (.var 9)) .nil))) .nil))) .nil)))
   .nil))
  (.cons (.asg 10 (.bc .max2 (.cons (.int 0) (.cons (.bin .sub (.bc .sum (.cons (.var 7) .nil)) (.bin .mod (.bin .fdiv (.var 3) (.int 64)) (.int 40))) .nil))))
  (.cons (.asg 11 (.bc .max2 (.cons (.int 0) (.cons (.bin .sub (.bc .sum (.cons (.var 7) .nil)) (.bin .mod (.bin .fdiv (.var 3) (.int 64)) (.idx (.list (.cons (.int 40) (.cons (.int 120) .nil))) (.bc .int (.cons (.cmp .eq (.bin .mod (.var 2) (.int 12)) (.int 5)) .nil))))) .nil))))
  (.cons (.asg 12 (.bin .add (.bc .sum (.cons (.var 7) .nil)) (.int 1)))
  (.cons (.ife (.cmp .gt (.bc .sum (.cons (.var 7) .nil)) (.int 1000)) (.cons (.asg 12 (.bin .sub (.bc .sum (.cons (.var 7) .nil)) (.int 1001)))
   .nil) .nil)
  (.cons (.asg 13 (.idx (.list (.cons (.var 10) (.cons (.var 12) (.cons (.var 11) (.cons (.neg (.int 1)) (.cons (.int 1001) (.cons (.bc .sum (.cons (.var 7) .nil)) .nil))))))) (.bin .mod (.bin .fdiv (.var 3) (.int 512)) (.int 6))))
  (.cons (.ret (.tup (.cons (.str "paid") (.cons (.var 13) (.cons (.var 7) .nil)))))
  .nil)))))))))) .nil)
 (.cons (.ife (.cmp .lt (.var 6) (.int 8)) (.cons (.ret (.tup (.cons (.str "brought") (.cons (.var 4) (.cons (.var 5) .nil)))))
  .nil) .nil)
 (.cons (.ife (.cmp .lt (.var 6) (.int 10)) (.cons (.ret (.tup (.cons (.str "fetched") (.cons (.var 4) (.cons (.var 5) .nil)))))
  .nil) .nil)
 (.cons (.ife (.cmp .eq (.bin .mod (.var 3) (.int 16)) (.int 1)) (.cons (.ret (.bin .add (.tup (.cons (.idx (.list (.cons (.str "Paid") (.cons (.str "") (.cons (.str "take") (.cons (.str "ins") .nil))))) (.bin .mod (.bin .fdiv (.var 3) (.int 16)) (.int 4))) .nil)) (.slTo (.tup (.cons (.var 4) (.cons (.var 5) (.cons (.int 1) .nil)))) (.bin .mod (.bin .fdiv (.var 3) (.int 64)) (.int 4)))))
  .nil) .nil)
 (.cons (.ife (.cmp .eq (.var 6) (.int 10)) (.cons (.ret (.tup (.cons (.str "in") (.cons (.idx (.list (.cons (.var 4) (.cons (.bin .add (.int 1) (.bin .mod (.bin .fdiv (.var 3) (.int 16)) (.int 60))) .nil))) (.bin .mod (.var 3) (.int 2))) .nil))))
  .nil) .nil)
 (.cons (.ret (.tup (.cons (.str "out") (.cons (.var 4) .nil))))
 .nil))))))))))⟩
noncomputable def D1:Fn:=⟨2,4,["_law_held", "_law_deed_here", "_law_value_here", "_law_count_here"],
 (.cons (.asg 2 (.idx (.var 1) (.int 1)))
 (.cons (.ife (.cmp .notIn (.var 2) (.var 0)) (.cons (.ret (.str "no kind"))
  .nil) .nil)
 (.cons (.asg 3 (.idx (.var 1) (.int 2)))
 (.cons (.ife (.bop false (.cons (.cmp .lt (.var 3) (.int 0)) (.cons (.cmp .gt (.var 3) (.bin .pow (.int 10) (.int 9))) (.cons (.bop true (.cons (.cmp .eq (.idx (.var 1) (.int 0)) (.str "brought")) (.cons (.cmp .gt (.bin .add (.idx (.var 0) (.var 2)) (.var 3)) (.bin .pow (.int 10) (.int 9))) .nil))) .nil)))) (.cons (.ret (.str "no count"))
  .nil) .nil)
 (.cons (.ife (.bop true (.cons (.cmp .eq (.idx (.var 1) (.int 0)) (.str "fetched")) (.cons (.cmp .gt (.var 3) (.idx (.var 0) (.var 2))) .nil))) (.cons (.ret (.str "too few"))
  .nil) .nil)
 (.cons (.setIt (.var 0) (.var 2) (.bin .add (.idx (.var 0) (.var 2)) (.idx (.list (.cons (.var 3) (.cons (.bin .sub (.int 0) (.var 3)) .nil))) (.bc .int (.cons (.cmp .eq (.idx (.var 1) (.int 0)) (.str "fetched")) .nil)))))
 (.cons (.ret (.str "done"))
 .nil)))))))⟩
noncomputable def Ca:Fn:=⟨2,3,["_law_held", "_law_deed_here", "_law_value_here"],
 (.cons (.asg 2 (.idx (.var 1) (.int 1)))
 (.cons (.ife (.cmp .eq (.idx (.var 1) (.int 0)) (.str "in")) (.cons (.ife (.bop false (.cons (.cmp .lt (.var 2) (.int 1)) (.cons (.cmp .gt (.var 2) (.int 1000)) .nil))) (.cons (.ret (.str "no kind"))
   .nil) .nil)
  (.cons (.ife (.cmp .isIn (.var 2) (.var 0)) (.cons (.ret (.str "twice"))
   .nil) .nil)
  (.cons (.ife (.cmp .eq (.bc .len (.cons (.var 0) .nil)) (.int 10)) (.cons (.ret (.str "no till"))
   .nil) .nil)
  (.cons (.setIt (.var 0) (.var 2) (.int 0))
  (.cons (.ret (.str "done"))
  .nil))))) .nil)
 (.cons (.ife (.cmp .notIn (.var 2) (.var 0)) (.cons (.ret (.str "no kind"))
  .nil) .nil)
 (.cons (.ife (.cmp .gt (.idx (.var 0) (.var 2)) (.int 0)) (.cons (.ret (.str "still held"))
  .nil) .nil)
 (.cons (.ife (.cmp .eq (.bc .len (.cons (.var 0) .nil)) (.int 1)) (.cons (.ret (.str "no till"))
  .nil) .nil)
 (.cons (.ex (.mt .popD (.var 0) (.cons (.var 2) .nil)))
 (.cons (.ret (.str "done"))
 .nil)))))))⟩
noncomputable def Cv:Fn:=⟨2,4,["_law_held", "_law_deed_here", "_law_k", "_law_value_here"],
 (.cons (.ife (.bop false (.cons (.cmp .lt (.idx (.var 1) (.int 1)) (.int 0)) (.cons (.cmp .gt (.idx (.var 1) (.int 1)) (.int 1000)) .nil))) (.cons (.ret (.str "no sum"))
  .nil) .nil)
 (.cons (.ife (.cmp .gt (.bc .len (.cons (.idx (.var 1) (.int 2)) .nil)) (.int 60)) (.cons (.ret (.str "no count"))
  .nil) .nil)
 (.cons (.for (.one 2) (.range1 (.bc .len (.cons (.idx (.var 1) (.int 2)) .nil))) (.cons (.asg 3 (.idx (.idx (.var 1) (.int 2)) (.var 2)))
  (.cons (.ife (.cmp .notIn (.var 3) (.var 0)) (.cons (.ret (.str "no kind"))
   .nil) .nil)
  (.cons (.ife (.cmp .eq (.bin .add (.idx (.var 0) (.var 3)) (.mt .count (.slTo (.idx (.var 1) (.int 2)) (.var 2)) (.cons (.var 3) .nil))) (.bin .pow (.int 10) (.int 9))) (.cons (.ret (.str "no count"))
   .nil) .nil)
  .nil))))
 (.cons (.ife (.cmp .lt (.bc .sum (.cons (.idx (.var 1) (.int 2)) .nil)) (.idx (.var 1) (.int 1))) (.cons (.ret (.str "too little"))
  .nil) .nil)
 (.cons (.ife (.cmp .gt (.bin .sub (.bc .sum (.cons (.idx (.var 1) (.int 2)) .nil)) (.idx (.var 1) (.int 1))) (.int 1000)) (.cons (.ret (.str "no sum"))
  .nil) .nil)
 (.cons (.ret (.str ""))
 .nil))))))⟩
noncomputable def ES:Fn:=⟨3,8,["_law_held", "_law_deed_here", "_law_answer", "_law_word", "_law_due", "_law_full", "_law_rows", "_law_pair", "_law_one", "_law_value_here"],
 (.cons (.asg 3 (.call "_law_unpaid" (.cons (.var 0) (.cons (.var 1) .nil))))
 (.cons (.ife (.cmp .ne (.var 3) (.str "")) (.cons (.ret (.cmp .eq (.var 2) (.tup (.cons (.var 3) (.cons (.list .nil) .nil)))))
  .nil) .nil)
 (.cons (.asg 4 (.bin .sub (.bc .sum (.cons (.idx (.var 1) (.int 2)) .nil)) (.idx (.var 1) (.int 1))))
 (.cons (.asg 5 (.bc .sorted (.cons (.compD (.tup (.cons (.var 9) (.cons (.bin .add (.idx (.var 0) (.var 9)) (.mt .count (.idx (.var 1) (.int 2)) (.cons (.var 9) .nil))) .nil))) (.one 9) (.var 0)) .nil)))
 (.cons (.asg 6 (.call "table" (.cons (.bc .list (.cons (.var 5) .nil)) (.cons (.var 4) .nil))))
 (.cons (.ife (.nt (.call "_law_walked" (.cons (.var 6) (.cons (.var 5) (.cons (.var 4) .nil))))) (.cons (.ret (.bool false))
  .nil) .nil)
 (.cons (.ife (.cmp .is (.idx (.idx (.var 6) (.bc .len (.cons (.var 5) .nil))) (.var 4)) .none) (.cons (.ret (.cmp .eq (.var 2) (.tup (.cons (.str "no change") (.cons (.list .nil) .nil)))))
  .nil) .nil)
 (.cons (.ife (.bop false (.cons (.cmp .ne (.idx (.var 2) (.int 0)) (.str "done")) (.cons (.cmp .ne (.call "_law_change" (.cons (.idx (.var 2) (.int 1)) (.cons (.var 5) (.cons (.var 4) .nil)))) (.idx (.idx (.var 6) (.bc .len (.cons (.var 5) .nil))) (.var 4))) .nil))) (.cons (.ret (.bool false))
  .nil) .nil)
 (.cons (.ife (.cmp .ne (.idx (.var 2) (.int 1)) (.call "_law_exact" (.cons (.var 6) (.cons (.var 5) (.cons (.var 4) .nil))))) (.cons (.ret (.bool false))
  .nil) .nil)
 (.cons (.for (.one 7) (.ex (.var 5)) (.cons (.setIt (.var 0) (.idx (.var 7) (.int 0)) (.bin .sub (.idx (.var 7) (.int 1)) (.bc .sum (.cons (.compIf (.idx (.var 8) (.int 1)) (.one 8) (.ex (.idx (.var 2) (.int 1))) (.cmp .eq (.idx (.var 8) (.int 0)) (.idx (.var 7) (.int 0)))) .nil))))
  .nil))
 (.cons (.ret (.bool true))
 .nil)))))))))))⟩
noncomputable def Cj:Fn:=⟨3,4,["_law_held", "_law_deed_here", "_law_answer", "_law_word"],
 (.cons (.ife (.bop false (.cons (.nt (.isi (.var 2) [.tuple])) (.cons (.cmp .ne (.bc .len (.cons (.var 2) .nil)) (.int 2)) (.cons (.nt (.isi (.idx (.var 2) (.int 1)) [.list])) .nil)))) (.cons (.ret (.bool false))
  .nil) .nil)
 (.cons (.ife (.cmp .eq (.idx (.var 1) (.int 0)) (.str "paid")) (.cons (.ret (.call "_law_paid" (.cons (.var 0) (.cons (.var 1) (.cons (.var 2) .nil)))))
  .nil) .nil)
 (.cons (.asg 3 (.str "no deed"))
 (.cons (.ife (.bop false (.cons (.cmp .eq (.idx (.var 1) (.int 0)) (.str "brought")) (.cons (.cmp .eq (.idx (.var 1) (.int 0)) (.str "fetched")) .nil))) (.cons (.asg 3 (.call "_law_moved" (.cons (.var 0) (.cons (.var 1) .nil))))
  .nil) .nil)
 (.cons (.ife (.bop false (.cons (.cmp .eq (.idx (.var 1) (.int 0)) (.str "in")) (.cons (.cmp .eq (.idx (.var 1) (.int 0)) (.str "out")) .nil))) (.cons (.asg 3 (.call "_law_kind" (.cons (.var 0) (.cons (.var 1) .nil))))
  .nil) .nil)
 (.cons (.ret (.cmp .eq (.var 2) (.tup (.cons (.var 3) (.cons (.list .nil) .nil)))))
 .nil))))))⟩
noncomputable def DD:Fn:=⟨1,3,["_law_deeds", "_law_found", "_law_deed_here"],
 (.cons (.asg 1 (.list .nil))
 (.cons (.for (.one 2) (.ex (.var 0)) (.cons (.ife (.cmp .eq (.idx (.var 2) (.int 0)) (.str "paid")) (.cons (.ex (.mt .append (.var 1) (.cons (.tup (.cons (.idx (.var 2) (.int 0)) (.cons (.idx (.var 2) (.int 1)) (.cons (.bc .list (.cons (.idx (.var 2) (.int 2)) .nil)) .nil)))) .nil)))
   .nil) (.cons (.ex (.mt .append (.var 1) (.cons (.var 2) .nil)))
   .nil))
  .nil))
 (.cons (.ret (.var 1))
 .nil)))⟩
noncomputable def Ed:Fn:=⟨4,7,["_law_first", "_law_handed", "_law_found", "_law_due", "_law_kept", "_law_k", "_law_again_here", "_law_answer"],
 (.cons (.asg 4 (.comp (.tup (.cons (.idx (.var 7) (.int 0)) (.cons (.bc .list (.cons (.idx (.var 7) (.int 1)) .nil)) .nil))) (.one 7) (.ex (.idx (.var 2) (.int 1)))))
 (.cons (.for (.one 5) (.range1 (.bc .len (.cons (.var 4) .nil))) (.cons (.ex (.mt .append (.idx (.idx (.idx (.var 2) (.int 1)) (.var 5)) (.int 1)) (.cons (.tup (.cons (.int 7) (.cons (.int 7) .nil))) .nil)))
  (.cons (.ife (.cmp .ne (.comp (.tup (.cons (.idx (.var 7) (.int 0)) (.cons (.bc .list (.cons (.idx (.var 7) (.int 1)) .nil)) .nil))) (.one 7) (.ex (.slFrom (.idx (.var 2) (.int 1)) (.bin .add (.var 5) (.int 1))))) (.slFrom (.var 4) (.bin .add (.var 5) (.int 1)))) (.cons (.ret (.bool false))
   .nil) .nil)
  .nil)))
 (.cons (.ex (.mt .clear (.idx (.var 2) (.int 0)) .nil))
 (.cons (.asg 6 (.call "day" (.cons (.var 0) (.cons (.var 1) .nil))))
 (.cons (.ret (.bop true (.cons (.cmp .eq (.idx (.var 6) (.int 0)) (.var 3)) (.cons (.cmp .eq (.idx (.var 6) (.int 1)) (.var 4)) .nil))))
 .nil)))))⟩
noncomputable def Bs:Fn:=⟨1,18,["_law_script", "_law_till", "_law_held", "_law_pair", "_law_deeds", "_law_values", "_law_k", "_law_cell", "_law_handed", "_law_first", "_law_found", "_law_deed_here", "_law_answer", "_law_kept", "_law_half", "_law_begin", "_law_again_here", "_law_due", "_law_value_here"],
 (.cons (.asg 1 (.bc .sorted (.cons (.call "_law_pairs" (.cons (.var 0) .nil)) .nil)))
 (.cons (.asg 2 .dict0)
 (.cons (.for (.one 3) (.ex (.var 1)) (.cons (.setIt (.var 2) (.idx (.var 3) (.int 0)) (.idx (.var 3) (.int 1)))
  .nil))
 (.cons (.asg 4 (.list .nil))
 (.cons (.asg 5 (.comp (.idx (.var 3) (.int 0)) (.one 3) (.ex (.var 1))))
 (.cons (.for (.two 6 7) (.enum (.ex (.slFT (.var 0) (.int 3) (.int 27)))) (.cons (.ex (.mt .append (.var 4) (.cons (.call "_law_deed" (.cons (.var 7) (.cons (.var 5) (.cons (.var 6) .nil)))) .nil)))
  (.cons (.ife (.cmp .eq (.idx (.idx (.var 4) (.bin .sub (.bc .len (.cons (.var 4) .nil)) (.int 1))) (.int 0)) (.str "in")) (.cons (.ex (.mt .append (.var 5) (.cons (.idx (.idx (.var 4) (.bin .sub (.bc .len (.cons (.var 4) .nil)) (.int 1))) (.int 1)) .nil)))
   .nil) .nil)
  .nil)))
 (.cons (.asg 8 (.call "_law_copies" (.cons (.var 4) .nil)))
 (.cons (.asg 9 (.bc .list (.cons (.var 1) .nil)))
 (.cons (.asg 10 (.call "day" (.cons (.var 9) (.cons (.var 8) .nil))))
 (.cons (.ife (.bop false (.cons (.cmp .ne (.var 9) (.var 1)) (.cons (.cmp .ne (.var 8) (.var 4)) (.cons (.nt (.isi (.var 10) [.tuple])) (.cons (.cmp .ne (.bc .len (.cons (.var 10) .nil)) (.int 2)) .nil))))) (.cons (.ret (.bool false))
  .nil) .nil)
 (.cons (.ife (.bop false (.cons (.nt (.isi (.idx (.var 10) (.int 1)) [.list])) (.cons (.cmp .ne (.bc .len (.cons (.idx (.var 10) (.int 1)) .nil)) (.bc .len (.cons (.var 4) .nil))) .nil))) (.cons (.ret (.bool false))
  .nil) .nil)
 (.cons (.for (.two 11 12) (.zip (.var 4) (.idx (.var 10) (.int 1))) (.cons (.ife (.nt (.call "_law_right" (.cons (.var 2) (.cons (.var 11) (.cons (.var 12) .nil))))) (.cons (.ret (.bool false))
   .nil) .nil)
  .nil))
 (.cons (.asg 13 (.list (.cons (.bc .list (.cons (.idx (.var 10) (.int 0)) .nil)) (.cons (.comp (.tup (.cons (.idx (.var 12) (.int 0)) (.cons (.bc .list (.cons (.idx (.var 12) (.int 1)) .nil)) .nil))) (.one 12) (.ex (.idx (.var 10) (.int 1)))) .nil))))
 (.cons (.ife (.cmp .lt (.bc .len (.cons (.var 4) .nil)) (.int 16)) (.cons (.asg 14 (.bin .fdiv (.bc .len (.cons (.var 4) .nil)) (.int 2)))
  (.cons (.asg 15 (.call "day" (.cons (.bc .list (.cons (.var 1) .nil)) (.cons (.call "_law_copies" (.cons (.slTo (.var 4) (.var 14)) .nil)) .nil))))
  (.cons (.asg 16 (.call "day" (.cons (.idx (.var 15) (.int 0)) (.cons (.call "_law_copies" (.cons (.slFrom (.var 4) (.var 14)) .nil)) .nil))))
  (.cons (.ife (.bop false (.cons (.cmp .ne (.bin .add (.idx (.var 15) (.int 1)) (.idx (.var 16) (.int 1))) (.idx (.var 10) (.int 1))) (.cons (.cmp .ne (.idx (.var 16) (.int 0)) (.idx (.var 10) (.int 0))) .nil))) (.cons (.ret (.bool false))
   .nil) .nil)
  .nil)))) .nil)
 (.cons (.ife (.cmp .ne (.list (.cons (.idx (.var 10) (.int 0)) (.cons (.idx (.var 10) (.int 1)) .nil))) (.var 13)) (.cons (.ret (.bool false))
  .nil) .nil)
 (.cons (.asg 17 (.bc .sorted (.cons (.compD (.tup (.cons (.var 18) (.cons (.idx (.var 2) (.var 18)) .nil))) (.one 18) (.var 2)) .nil)))
 (.cons (.ife (.nt (.call "_law_alike" (.cons (.idx (.var 10) (.int 0)) (.cons (.var 17) .nil)))) (.cons (.ret (.bool false))
  .nil) .nil)
 (.cons (.ife (.cmp .gt (.bc .len (.cons (.var 4) .nil)) (.int 7)) (.cons (.ret (.bool true))
  .nil) .nil)
 (.cons (.ret (.bop true (.cons (.call "_law_again" (.cons (.var 9) (.cons (.var 8) (.cons (.var 10) (.cons (.var 17) .nil))))) (.cons (.cmp .eq (.var 9) (.var 1)) .nil))))
 .nil)))))))))))))))))))⟩
noncomputable def tab09:List (String×Fn):=[("need_kind",Ch),("need_count",BA),("pairs_of",AZ),("counts_of",AW),("count_of",BM),("need_sum",C9),("fill",DF),("row_with",BL),("table",Fi),("most_of",CC),("fewest",Ee),("with_count",Bg),("put_in",Eb),("taken_out",CZ),("paid",HY),("brought",Ew),("fetched",Ev),("kind_in",Eu),("kind_out",DE),("done",JI),("tried",Ke),("day",Mz),("_law_cell_at",BD),("_law_whole",B7),("_law_mixed",B8),("_law_value",Ci),("_law_count",Cl),("_law_pairs",BP),("_law_alike",Ec),("_law_least",BQ),("_law_row",CD),("_law_walked",DM),("_law_change",Cw),("_law_known",D2),("_law_deed",Bh),("_law_moved",D1),("_law_kind",Ca),("_law_unpaid",Cv),("_law_exact",D3),("_law_paid",ES),("_law_right",Cj),("_law_copies",DD),("_law_again",Ed),("law",Bs)]
noncomputable def Cb (f:String):Option Fn:=tab09.lookup f
noncomputable def gint09:List (String×Int):=[("MOST_KINDS",10),("MOST_VALUE",1000),("MOST_COUNT",1000000000),("MOST_SUM",1000),("MOST_PIECES",60)]
end Mine.Internal
end

section
namespace Mine.Internal
open PySem (Str Addr)
section
variable {defs:String→Option Fn}{anc:String→List String}{n:Nat}{Q:V→Hp→Prop}{X:String→Hp→Prop}{H:Hp}
theorem Df (h5:defs "count_of" = some BM) {p:Addr}{v:Int}{ps:List (Int×Int)} (hp:H p=some (.list (lv ps)))
  (hq:∀c,lk v ps=some c→Q (.int c) H) (hX:lk v ps=none→X "NoKind" H) :
  Aj defs anc (n+1) "count_of" [.ref p,.int v] Q X H:=by
 refine Ao h5 rfl ?_
 simp only[BM]
 (simp only[List.map_cons,List.map_nil,List.length_cons,List.length_nil,Nat.reduceAdd,Nat.reduceSub,List.replicate,List.cons_append,List.nil_append])
 refine AC ⟨rfl,?_⟩
 (simp only[BB,A3,gZ,A0])
 refine B2 hp ?_
 rw[GA]
 refine Av (I:=fun as ρ H'=>∃x2 x3,ρ=[some (.ref p),some (.int v),x2,x3]∧H'=H∧v∉as.map (·.1)) ?_ ?_ ?_ ⟨_,_,rfl,rfl,by simp⟩
 ·rintro as ρ H' ⟨x2,x3,rfl,rfl,_⟩;exact AR hp
 ·rintro ρ H' ⟨x2,x3,rfl,rfl,hm⟩
  dsimp only[A4]
  (simp only[By,true_and])
  exact hX (Es.mpr hm)
 ·rintro as b bs ρ H' K e ⟨x2,x3,rfl,rfl,hm⟩ hK
  refine⟨_,rfl,?_⟩
  rw[AN]
  (simp only[sS,sZ,Dh,A7,Aa,Al,A3,gS,gZ,A0,AL,Ab,A5,C7,decide_eq_true_eq])
  refine AA (fun h=>hq _ ?_) fun h=>hK _ _ ⟨_,_,rfl,rfl,?_⟩
  ·rw[e,Hl hm,lk,if_pos h]
  ·simp only[List.map_append,List.map_cons,List.map_nil,List.mem_append,List.mem_cons,List.not_mem_nil,or_false,not_or]
   exact⟨hm,fun q=>h q.symm⟩
noncomputable def Hw (Q:V→Hp→Prop) (H:Hp) (ts:List (Int×Int)):Prop:=∀qs a H',qs.Perm ts→EY qs→Ext H H'→H a=none→H' a=some (.list (lv qs))→Q (.ref a) H'
theorem Cp (h1:defs "pairs_of" = some AZ) (h2:defs "counts_of" = some AW) (h5:defs "with_count" = some Bg) {p:Addr}{v c:Int}{ps:List (Int×Int)} (hp:H p=some (.list (lv ps))) (hl:ps.length≤60) (hn:(ps.map (·.1)).Nodup)
  (hq:Hw Q H (BI v c ps)) :
  Aj defs anc (n+2) "with_count" [.ref p,.int v,.int c] Q X H:=by
 refine Ao h5 rfl ?_
 simp only[Bg]
 (simp only[List.map_cons,List.map_nil,List.length_cons,List.length_nil,Nat.reduceAdd,Nat.reduceSub,List.replicate,List.cons_append,List.nil_append,F6,sS,sZ,HG,Al,Ag,A6,A8,A3,gS,gZ,A0,true_and])
 refine EB h2 hp (by exact lA [] [_] (.n 0) (.c 1000) [.L (.n 0) (.c 60)] [1,1] rfl hl) hn fun D hD=>?_
 skip
 rw[EI (Hp.set_self _ _ _),Hp.set_set,BR]
 refine⟨by rw[List.length_map,Ai];exact lB [] [_] (.n 0) (.c 16777216) [.L (.n 0) (.c 60)] [1,1] rfl hl,?_⟩
 have:=Iz (v:=v) (c:=c) (ps:=ps)
 refine EK h1 (Hp.set_self _ _ _) (by exact lA [] [_,_] (.n 0) (.c 63) [.L (.n 1) (.c 60),.L (.n 0) (.a (.n 1) (.c 1))] [1,1,1] rfl hl this) (Gk hn) fun qs a H' g1 g2 g3 g4 g5=>?_
 exact hq qs a H' g1 g2 ((Ext.new _ hD).trans g3) ((Ext.new _ hD).no g4) g5
theorem Ic (h0:defs "need_count" = some BA) (h1:defs "pairs_of" = some AZ) (h2:defs "counts_of" = some AW) (h3:defs "count_of" = some BM) (h4:defs "with_count" = some Bg) (h5:defs "brought" = some Ew) {p:Addr}{v c:Int}{ps:List (Int×Int)} (hp:H p=some (.list (lv ps))) (hl:ps.length≤60) (hn:(ps.map (·.1)).Nodup)
  (hX:lk v ps=none→X "NoKind" H)
  (hX2:∀t,lk v ps=some t→¬((0≤c∧c≤1000000000)∧(0≤t+c∧t+c≤1000000000))→X "NoCount" H)
  (hq:∀t,lk v ps=some t→(0≤c∧c≤1000000000)→(0≤t+c∧t+c≤1000000000)→Hw Q H (BI v (t+c) ps)) :
  Aj defs anc (n+3) "brought" [.ref p,.int v,.int c] Q X H:=by
 refine Ao h5 rfl ?_
 simp only[Ew]
 (simp only[List.map_cons,List.map_nil,List.length_cons,List.length_nil,Nat.reduceAdd,Nat.reduceSub,List.replicate,List.cons_append,List.nil_append,F6,sS,sZ,LV,Al,Ag,A6,A8,Ah,A3,gS,gZ,A0,true_and])
 refine Df h3 hp (fun t ht=>?_) hX
 refine Cr h0 (fun w1=>?_) fun w1=>hX2 t ht (fun z=>w1 z.1)
 (simp only[AQ])
 refine Cr h0 (fun w2=>?_) fun w2=>hX2 t ht (fun z=>w2 z.2)
 exact Cp h1 h2 h4 hp hl hn (hq t ht w1 w2)
theorem HW (h0:defs "need_count" = some BA) (h1:defs "pairs_of" = some AZ) (h2:defs "counts_of" = some AW) (h3:defs "count_of" = some BM) (h4:defs "with_count" = some Bg) (h5:defs "fetched" = some Ev) {p:Addr}{v c:Int}{ps:List (Int×Int)} (hp:H p=some (.list (lv ps))) (hl:ps.length≤60) (hn:(ps.map (·.1)).Nodup)
  (hX:lk v ps=none→X "NoKind" H)
  (hX2:∀t,lk v ps=some t→¬(0≤c∧c≤1000000000)→X "NoCount" H)
  (hX3:∀t,lk v ps=some t→(0≤c∧c≤1000000000)→t<c→X "TooFew" H)
  (hq:∀t,lk v ps=some t→(0≤c∧c≤1000000000)→¬t<c→Hw Q H (BI v (t-c) ps)) :
  Aj defs anc (n+3) "fetched" [.ref p,.int v,.int c] Q X H:=by
 refine Ao h5 rfl ?_
 simp only[Ev]
 (simp only[List.map_cons,List.map_nil,List.length_cons,List.length_nil,Nat.reduceAdd,Nat.reduceSub,List.replicate,List.cons_append,List.nil_append,F6,sS,sZ,LV,Dh,A7,Aa,By,true_and,Al,Ag,A6,A8,Ah,A3,gS,gZ,A0,Ab,A5])
 refine Df h3 hp (fun t ht=>?_) hX
 refine Cr h0 (fun w1=>?_) fun w1=>hX2 t ht w1
 (simp only[Be,DN,decide_eq_true_eq])
 refine AA (fun w2=>hX3 t ht w1 w2) fun w2=>?_
 exact Cp h1 h2 h4 hp hl hn (hq t ht w1 w2)
theorem HQ (h0:defs "need_kind" = some Ch) (h1:defs "pairs_of" = some AZ) (h2:defs "counts_of" = some AW) (h4:defs "with_count" = some Bg) (h5:defs "kind_in" = some Eu) {p:Addr}{v:Int}{ps:List (Int×Int)} (hp:H p=some (.list (lv ps))) (hl:ps.length≤60) (hn:(ps.map (·.1)).Nodup)
  (hX:¬(1≤v∧v≤1000)→X "NoKind" H)
  (hX2:∀H',Ext H H'→(1≤v∧v≤1000)→v∈ps.map (·.1)→X "Twice" H')
  (hX3:∀H',Ext H H'→(1≤v∧v≤1000)→v∉ps.map (·.1)→ps.length=10→X "NoTill" H')
  (hq:(1≤v∧v≤1000)→v∉ps.map (·.1)→ps.length≠10→Hw Q H (ps++[(v,0)])) :
  Aj defs anc (n+3) "kind_in" [.ref p,.int v] Q X H:=by
 refine Ao h5 rfl ?_
 simp only[Eu]
 (simp only[List.map_cons,List.map_nil,List.length_cons,List.length_nil,Nat.reduceAdd,Nat.sub_self,List.replicate,List.cons_append,List.nil_append,LV,Dh,A7,Aa,By,true_and,Al,Ag,A6,A8,A9,A3,gS,gZ,A0,Ab,A5,El,Ar])
 refine Gx h0 (fun w1=>?_) hX
 refine EB h2 hp (by exact lA [] [_] (.n 0) (.c 1000) [.L (.n 0) (.c 60)] [1,1] rfl hl) hn fun D hD=>?_
 skip
 rw[MM (Hp.set_self _ _ _)]
 simp only[Dd,E8]
 have hE:=Ext.new (.dict (ps.map kvI)) hD
 refine AA (fun w2=>hX2 _ hE w1 w2) fun w2=>?_
 rw[AO (hE _ _ hp),lv_length]
 (simp only[C7,decide_eq_true_eq])
 refine AA (fun w3=>hX3 _ hE w1 w2 (by exact lQ [] [_] (.n 0) (.c 10) [.e (.t (.n 0)) (.c 10)] [1,-1] [1,1] rfl w3)) fun w3=>?_
 refine Cp h1 h2 h4 (hE _ _ hp) hl hn fun qs a H' g1 g2 g3 g4 g5=>?_
 rw[Gm w2] at g1
 exact hq w1 w2 (by omega) qs a H' g1 g2 (hE.trans g3) (hE.no g4) g5
theorem Jk {ps:List (Int×Int)}{c:Int×Int→Bool} (h:EY ps):EY (ps.filter c):=by
 have:((ps.filter c).map (·.1)).Sublist (ps.map (·.1)):=List.filter_sublist.map _
 exact h.sublist this
theorem H5 (h3:defs "count_of" = some BM) (h5:defs "kind_out" = some DE) {p:Addr}{v:Int}{ps:List (Int×Int)} (hp:H p=some (.list (lv ps))) (hl:ps.length≤60) (hs:EY ps)
  (hX:lk v ps=none→X "NoKind" H)
  (hX2:∀t,lk v ps=some t→0<t→X "StillHeld" H)
  (hX3:∀t,lk v ps=some t→¬0<t→ps.length=1→X "NoTill" H)
  (hq:∀t,lk v ps=some t→¬0<t→ps.length≠1→Hw Q H (ps.filter fun q=>!decide (q.1=v))) :
  Aj defs anc (n+2) "kind_out" [.ref p,.int v] Q X H:=by
 refine Ao h5 rfl ?_
 simp only[DE]
 (simp only[List.map_cons,List.map_nil,List.length_cons,List.length_nil,Nat.reduceAdd,Nat.reduceSub,List.replicate,List.cons_append,List.nil_append,Dh,A7,Aa,By,true_and,Al,Em,A3,Ab,A5,Ac,A9,BB,gZ,A0,Ar,A6,A8,Ag,gS])
 refine Df h3 hp (fun t ht=>?_) hX
 (simp only[DN,decide_eq_true_eq])
 refine AA (fun w1=>hX2 t ht w1) fun w1=>?_
 rw[AO hp,lv_length]
 (simp only[C7,decide_eq_true_eq])
 refine AA (fun w2=>hX3 t ht w1 (by exact lQ [] [_] (.n 0) (.c 1) [.e (.t (.n 0)) (.c 1)] [1,-1] [1,1] rfl w2)) fun w2=>?_
 refine B2 hp ?_
 rw[GA]
 have hlf:=List.length_filter_le (fun q:Int×Int=>!decide (q.1=v)) ps
 refine Dp _ (fun q=>!decide (q.1=v)) pv (AR hp) ps [] (by simp [Ai];exact lA [] [_] (.n 0) (.c 16777216) [.L (.n 0) (.c 60)] [1,1] rfl hl) ?_ ?_
 ·intro q hq'
  refine⟨_,rfl,fun K hK=>?_,fun ξ K hK=>?_⟩
  ·(simp only[sS,sZ,gS,gZ,A0,CY,EN]);exact hK
  ·(simp only[sS,sZ,gS,gZ,A0]);exact hK
 ·refine⟨by simp [Ai];exact lA [] [_,_] (.n 0) (.c 16777216) [.L (.n 1) (.c 60),.L (.n 0) (.n 1)] [1,1,1] rfl hl hlf,fun a ha=>?_⟩
  exact hq t ht w1 (by omega) _ a _ (.refl _) (Jk hs) (.new _ ha) ha (by rw[Hp.set_self];rfl)
end
inductive Dc where
 | pay (p:Int) (vs:List Int)
 | mov (fe:Bool) (v c:Int)
 | kin (v:Int)
 | kout (v:Int)
 | odd (w:String) (r:List Int)
noncomputable def exn (ps:PL) (d:Dc):String:=Dc.casesOn (motive:=fun ξ=>String) d (fun p vs=>Do ps p vs)
 (fun fe v c=>Option.casesOn (motive:=fun ξ=>String) (lk v ps) "NoKind" fun t=>if ¬(0≤c∧c≤1000000000) then "NoCount" else if fe=true∧t<c then "TooFew" else if fe=false∧1000000000<t+c then "NoCount" else "")
 (fun v=>if ¬(1≤v∧v≤1000) then "NoKind" else if v∈ps.map (·.1) then "Twice" else if ps.length=10 then "NoTill" else "")
 (fun v=>Option.casesOn (motive:=fun ξ=>String) (lk v ps) "NoKind" fun t=>if 0<t then "StillHeld" else if ps.length=1 then "NoTill" else "")
 fun ξ ξ => "NoDeed"
noncomputable def tgt (ps:PL) (d:Dc):PL:=Dc.casesOn (motive:=fun ξ=>PL) d (fun ξ ξ=>ps) (fun fe v c=>BI v (if fe=true then (lk v ps).getD 0-c else (lk v ps).getD 0+c) ps) (fun v=>ps++[(v,0)]) (fun v=>ps.filter fun q=>!decide (q.1=v)) fun ξ ξ=>ps
noncomputable def CP (d:Dc):Bool:=Dc.casesOn (motive:=fun ξ=>Bool) d (fun ξ ξ=>true) (fun ξ ξ ξ=>false) (fun ξ=>false) (fun ξ=>false) fun ξ ξ=>false
noncomputable def wl:List (String×String):=[("NoKind", "no kind"),("Twice", "twice"),("NoCount", "no count"),("NoTill", "no till"),("NoSum", "no sum"),("TooLittle", "too little"),("NoChange", "no change"),("TooFew", "too few"),("StillHeld", "still held"),("NoDeed", "no deed")]
noncomputable def CF (c:String):String:=(wl.lookup c).getD ""
theorem optC {o:Option Int}{a:String}{f:Int→String}{t:Int} (e:o=some t):Option.casesOn (motive:=fun ξ=>String) o a f=f t:=by rw[e]
theorem optN {o:Option Int}{a:String}{f:Int→String} (e:o=none):Option.casesOn (motive:=fun ξ=>String) o a f=a:=by rw[e]
theorem Dm {ps:PL}{fe:Bool}{v c:Int} (e:lk v ps=none):exn ps (.mov fe v c) = "NoKind" := optN e
theorem D5 {ps:PL}{fe:Bool}{v c t:Int} (e:lk v ps=some t):exn ps (.mov fe v c)=if ¬(0≤c∧c≤1000000000) then "NoCount" else if fe=true∧t<c then "TooFew" else if fe=false∧1000000000<t+c then "NoCount" else "" := optC e
theorem C5 {ps:PL}{v:Int}:exn ps (.kin v)=if ¬(1≤v∧v≤1000) then "NoKind" else if v∈ps.map (·.1) then "Twice" else if ps.length=10 then "NoTill" else "" := rfl
theorem Ey {ps:PL}{v:Int} (e:lk v ps=none):exn ps (.kout v) = "NoKind" := optN e
theorem Dn {ps:PL}{v t:Int} (e:lk v ps=some t):exn ps (.kout v)=if 0<t then "StillHeld" else if ps.length=1 then "NoTill" else "" := optC e
inductive Step (ps:PL) (d:Dc) (qs:PL) (w:String) (l:PL):Prop
 | no (h:exn ps d ≠ "") (e1:qs=ps) (e2:w=CF (exn ps d)) (e3:l=[])
 | ch (h:exn ps d = "") (p:Int) (vs:List Int) (e:d=.pay p vs) (f:FT (vs.sum-p).toNat (AB ps vs) none) (e1:qs=ps) (e2:w = "no change") (e3:l=[])
 | pay (h:exn ps d = "") (p:Int) (vs:List Int) (e:d=.pay p vs) (x:Int) (C:Bv (vs.sum-p).toNat (AB ps vs) x l) (e1:qs=Bf (AB ps vs) l) (e2:w = "done") (hl:l.length≤100)
 | ok (h:exn ps d = "") (np:CP d=false) (hp:qs.Perm (tgt ps d)) (hs:EY qs) (e2:w = "done") (e3:l=[])
theorem Hc {ps:PL}{d:Dc} (G:Till ps) (h:exn ps d = "") (np:CP d=false):((tgt ps d).map (·.1)).Nodup:=by
 cases d with
 | pay p vs=>cases np
 | mov fe v c=>exact Gk G.nodup
 | kin v =>
  rw[show tgt ps (.kin v)=ps++[(v,0)] from rfl,List.map_append]
  refine CN G.nodup fun z=>?_
  rw[C5] at h
  by_cases c:1≤v∧v≤1000
  ·rw[if_neg (fun z=>z c),if_pos z] at h;exact absurd h (by decide)
  ·rw[if_pos c] at h;exact absurd h (by decide)
 | kout v=>exact G.nodup.sublist (List.filter_sublist.map _)
 | odd w r=>exact G.nodup
theorem Step.one {ps qs qs' l l':PL}{d:Dc}{w w':String} (G:Till ps) (a:Step ps d qs w l) (b:Step ps d qs' w' l'):qs=qs'∧w=w'∧l=l':=by
 cases a with
 | no h e1 e2 e3 =>
  cases b with
  | no h' e1' e2' e3'=>exact⟨e1.trans e1'.symm,e2.trans e2'.symm,e3.trans e3'.symm⟩
  | ch h'=>exact absurd h' h
  | pay h'=>exact absurd h' h
  | ok h'=>exact absurd h' h
 | ch h p vs e f e1 e2 e3 =>
  subst e
  cases b with
  | no h'=>exact absurd h h'
  | ch h' p vs e f' e1' e2' e3'=>exact⟨e1.trans e1'.symm,e2.trans e2'.symm,e3.trans e3'.symm⟩
  | pay h' p vs e x C e1' e2'=>cases e;cases f.one C.few
  | ok h' np=>cases np
 | pay h p vs e x C e1 e2 =>
  subst e
  cases b with
  | no h'=>exact absurd h h'
  | ch h' p vs e f' e1' e2' e3'=>cases e;cases f'.one C.few
  | pay h' p vs e x' C' e1' e2' =>
   cases e
   obtain⟨_,rfl⟩:=C.one C'
   exact⟨e1.trans e1'.symm,e2.trans e2'.symm,rfl⟩
  | ok h' np=>cases np
 | ok h np hp hs e2 e3 =>
  cases b with
  | no h'=>exact absurd h h'
  | ch h' p vs e=>subst e;cases np
  | pay h' p vs e=>subst e;cases np
  | ok h' np' hp' hs' e2' e3' =>
   have hn:=Hc G h np
   have hn':(qs'.map (·.1)).Nodup:=((hp'.map _).nodup_iff).mpr hn
   exact⟨Du (hp.trans hp'.symm) hs hs' hn',e2.trans e2'.symm,e3.trans e3'.symm⟩
theorem DL {c:Prop} [Decidable c] {a b:String} (h:(if c then a else b) = "") (ha:a ≠ ""):¬c∧b = "" := by
 by_cases k:c
 ·rw[if_pos k] at h;exact absurd h ha
 ·rw[if_neg k] at h;exact⟨k,h⟩
structure DueOk (ps:PL) (p:Int) (vs:List Int):Prop where
 inr:0≤p∧p≤1000
 len:vs.length≤60
 put:Az ps vs [] = ""
 low:p≤vs.sum
 top:vs.sum-p≤1000
theorem MD {ps:PL}{p:Int}{vs:List Int} (h:Do ps p vs = ""):DueOk ps p vs:=by
 unfold Do at h
 obtain⟨h1,h⟩:=DL h (by decide)
 obtain⟨h2,h⟩:=DL h (by decide)
 by_cases h3:Az ps vs [] = ""
 ·rw[if_neg (fun z=>z h3)] at h
  obtain⟨h4,h⟩:=DL h (by decide)
  obtain⟨h5,_⟩:=DL h (by decide)
  have h5:=Decidable.not_not.mp h5
  exact⟨Decidable.not_not.mp h1,by exact (Nat.not_lt.mp h2),h3,by exact (Int.not_lt.mp h4),h5.2⟩
 ·rw[if_pos h3] at h;exact absurd h h3
theorem HV (b:Int×Int) (l:PL) (v:Int):Au (b :: l) v=if b.1=v then b.2+Au l v else Au l v:=by
 rw[Au,List.filter_cons]
 by_cases e:b.1=v
 ·rw[if_pos e,if_pos (by simpa using e)];rfl
 ·rw[if_neg e,if_neg (by simpa using e)];rfl
theorem JE {v:Int}{l:PL} (hn:(l.map (·.1)).Nodup):Au l v=(lk v l).getD 0:=by
 induction l with
 | nil=>rfl
 | cons b l ih =>
  rw[List.map_cons,List.nodup_cons] at hn
  rw[HV,lk]
  by_cases e:b.1=v
  ·rw[if_pos e,if_pos e,ih hn.2,Es.mpr (e▸hn.1)];exact Int.add_zero _
  ·rw[if_neg e,if_neg e];exact ih hn.2
theorem M8 {l:PL} (h:l.Pairwise fun a b=>a.1<b.1):(l.map (·.1)).Nodup:=by
 rw[List.nodup_iff_pairwise_ne,List.pairwise_map]
 exact h.imp fun h=>by exact lf [_,_] [] [.b (.v 0) (.v 1),.e (.v 0) (.v 1)] [1,-1] rfl h
theorem Chg.given {l fs:PL} (C:Chg l fs) (hn:(fs.map (·.1)).Nodup) {q:Int×Int} (hq:q∈fs) (h0:0≤q.2):0≤Au l q.1∧Au l q.1≤q.2:=by
 rw[JE (M8 C.srt)]
 cases e:lk q.1 l with
 | none=>exact⟨by decide,h0⟩
 | some c =>
  obtain⟨h1,z,hz,e1,h2⟩:=C.mem _ (Er e)
  have:=Cs hn (show (q.1,z.2)∈fs by rw[←show z.1=q.1 from e1];exact hz)
  have h3:=Cs hn (show (q.1,q.2)∈fs from hq)
  have e2:z.2=q.2:=Option.some.inj (this.symm.trans h3)
  have h1:1≤c:=h1
  have h2:c≤z.2:=h2
  exact⟨by show 0≤c;exact la [_] [] (.c 0) (.v 0) [.l (.c 1) (.v 0)] [1,1] rfl h1,by show c≤q.2;exact la [_,_,_] [] (.v 0) (.v 1) [.e (.v 2) (.v 1),.l (.v 0) (.v 2)] [1,1,1] rfl e2 h2⟩
theorem Fp {qs ts:PL} (hp:qs.Perm ts) (hs:EY qs) (h1:1≤ts.length) (h2:ts.length≤10) (hn:(ts.map (·.1)).Nodup) (hv:∀q∈ts,1≤q.1∧q.1≤1000) (hc:∀q∈ts,0≤q.2∧q.2≤1000000000):Till qs :=
 ⟨by rw[hp.length_eq];exact h1,by rw[hp.length_eq];exact h2,((hp.map _).nodup_iff).mpr hn,hs,fun q h=>hv q (hp.mem_iff.mp h),fun q h=>hc q (hp.mem_iff.mp h)⟩
theorem Step.till {ps qs l:PL}{d:Dc}{w:String} (G:Till ps) (S:Step ps d qs w l):Till qs:=by
 cases S with
 | no h e1 e2 e3=>subst e1;exact G
 | ch h p vs e f e1 e2 e3=>subst e1;exact G
 | pay h p vs e x C e1 e2 =>
  subst e
  subst e1
  have GF:=G.full (MD h).put
  have CG:=(C.chg GF).1
  refine⟨by rw[Cc,B6];exact G.pos,by rw[Cc,B6];exact G.len,by rw[BN,AS];exact G.nodup,by rw[EY,BN,AS];exact G.srt,fun q hq=>?_,fun q hq=>?_⟩
  ·obtain⟨z,hz,rfl⟩:=List.mem_map.mp hq;exact GF.val z hz
  ·obtain⟨z,hz,rfl⟩:=List.mem_map.mp hq
   have c:=GF.cnt z hz
   have g:=CG.given GF.nodup hz c.1
   show 0≤z.2-Au l z.1∧z.2-Au l z.1≤1000000000
   exact⟨la [_,_] [] (.c 0) (.s (.v 0) (.v 1)) [.l (.v 1) (.v 0)] [1,1] rfl g.2,la [_,_] [] (.s (.v 0) (.v 1)) (.c 1000000000) [.l (.v 0) (.c 1000000000),.l (.c 0) (.v 1)] [1,1,1] rfl c.2 g.1⟩
 | ok h np hp hs e2 e3 =>
  have hn:=Hc G h np
  have l1:=G.pos
  have l2:=G.len
  cases d with
  | pay p vs=>cases np
  | mov fe v c =>
   cases e:lk v ps with
   | none=>rw[Dm e] at h;exact absurd h (by decide)
   | some t =>
    rw[D5 e] at h
    obtain⟨h1,h⟩:=DL (c:=¬(0≤c∧c≤1000000000)) h (by decide)
    obtain⟨h2,h⟩:=DL h (by decide)
    obtain⟨h3,_⟩:=DL h (by decide)
    have et:tgt ps (.mov fe v c)=ps.map fun p=>if p.1=v then (v,if fe=true then t-c else t+c) else p:=by
     show BI v (if fe=true then (lk v ps).getD 0-c else (lk v ps).getD 0+c) ps=_
     rw[e,CJ G.nodup (GB e)];rfl
    have ct:=G.cnt _ (Er e)
    have ct:0≤t∧t≤1000000000:=ct
    rw[et] at hp hn
    refine Fp hp hs (by rw[List.length_map];exact l1) (by rw[List.length_map];exact l2) hn (fun q hq=>?_) fun q hq=>?_
    ·obtain⟨z,hz,rfl⟩:=List.mem_map.mp hq
     by_cases k:z.1=v
     ·rw[if_pos k,←k];exact G.val z hz
     ·rw[if_neg k];exact G.val z hz
    ·obtain⟨z,hz,rfl⟩:=List.mem_map.mp hq
     by_cases k:z.1=v
     ·rw[if_pos k]
      cases fe
      ·show 0≤t+c∧t+c≤1000000000
       have:=h3
       simp only[true_and] at this
       omega
      ·show 0≤t-c∧t-c≤1000000000
       have:=h2
       simp only[true_and] at this
       omega
     ·rw[if_neg k];exact G.cnt z hz
  | kin v =>
   rw[C5] at h
   obtain⟨h1,h⟩:=DL (c:=¬(1≤v∧v≤1000)) h (by decide)
   obtain⟨h2,h⟩:=DL h (by decide)
   obtain⟨h3,_⟩:=DL h (by decide)
   have h1:=Decidable.not_not.mp h1
   have ll:(ps++[(v,(0:Int))]).length=ps.length+1:=by rw[List.length_append];rfl
   refine Fp (ts:=ps++[(v,0)]) hp hs (by exact lA [] [_,_] (.c 1) (.n 0) [.L (.c 1) (.n 1),.E (.n 0) (.a (.n 1) (.c 1))] [1,1,-1] rfl l1 ll) (by omega) hn (fun q hq=>?_) fun q hq=>?_
   ·rcases List.mem_append.mp hq with k | k
    ·exact G.val q k
    ·rw[List.mem_singleton] at k;subst k;exact h1
   ·rcases List.mem_append.mp hq with k | k
    ·exact G.cnt q k
    ·rw[List.mem_singleton] at k;subst k;exact⟨Int.le_refl 0,(by decide:(0:Int)≤1000000000)⟩
  | kout v =>
   cases e:lk v ps with
   | none=>rw[Ey e] at h;exact absurd h (by decide)
   | some t =>
    rw[Dn e] at h
    obtain⟨h1,h⟩:=DL (c:=0<t) h (by decide)
    obtain⟨h2,_⟩:=DL h (by decide)
    have hp':qs.Perm (ps.filter fun q=>!decide (q.1=v)):=hp
    have hlt:1≤(ps.filter fun q=>!decide (q.1=v)).length:=by
     refine Nat.pos_of_ne_zero fun z=>?_
     have all:∀q∈ps,q.1=v:=fun q hq=>by
      rw[List.length_eq_zero_iff,List.filter_eq_nil_iff] at z
      have:=z q hq
      simpa using this
     match ps,l1,h2,G.nodup,all with
     | [a],_,h2,_,_=>exact h2 rfl
     | a :: b :: r,_,_,hn,all =>
      rw[List.map_cons,List.nodup_cons] at hn
      exact hn.1 (List.mem_map.mpr ⟨b,by simp,by rw[all b (by simp),all a (by simp)]⟩)
    refine Fp hp' hs hlt (Nat.le_trans (List.length_filter_le ..) l2) hn (fun q hq=>G.val q (List.mem_filter.mp hq).1) fun q hq=>G.cnt q (List.mem_filter.mp hq).1
  | odd w r=>exact absurd h (by show "NoDeed" ≠ "";decide)
inductive Days:PL→List Dc→PL→List (String×PL)→Prop
 | nil (ps:PL):Days ps [] ps []
 | snoc {ps qs rs l:PL}{ds:List Dc}{as:List (String×PL)}{d:Dc}{w:String} (a:Days ps ds qs as) (S:Step qs d rs w l):Days ps (ds++[d]) rs (as++[(w,l)])
theorem Days.till {ps qs:PL}{ds:List Dc}{as:List (String×PL)} (G:Till ps) (D:Days ps ds qs as):Till qs:=by
 induction D with
 | nil=>exact G
 | snoc a S ih=>exact S.till ih
theorem Days.len {ps qs:PL}{ds:List Dc}{as:List (String×PL)} (D:Days ps ds qs as):as.length=ds.length:=by
 induction D with
 | nil=>rfl
 | snoc a S ih=>rw[List.length_append,List.length_append,ih];rfl
theorem LM {α:Type}{P:List α→Prop} (h0:P []) (h1:∀l a,P l→P (l++[a])) (l:List α):P l:=by
 have:∀n (l:List α),l.length=n→P l:=fun n=>by
  induction n with
  | zero=>intro l h;rw[List.length_eq_zero_iff] at h;subst h;exact h0
  | succ n ih =>
   intro l h
   have hne:l≠[]:=fun e=>by subst e;cases h
   rw[←List.dropLast_concat_getLast hne]
   exact h1 _ _ (ih _ (by rw[List.length_dropLast,h];rfl))
 exact this _ l rfl
theorem Days.inv0 {ps qs:PL}{ds:List Dc}{as:List (String×PL)} (a:Days ps ds qs as) (e:ds=[]):qs=ps∧as=[]:=by
 cases a with
 | nil=>exact⟨rfl,rfl⟩
 | snoc a S=>exact absurd e (List.append_ne_nil_of_right_ne_nil _ (by simp))
inductive DaysS (ps:PL) (ds:List Dc) (d:Dc) (rs:PL) (bs:List (String×PL)):Prop
 | mk (qs l:PL) (as:List (String×PL)) (w:String) (a:Days ps ds qs as) (S:Step qs d rs w l) (e:bs=as++[(w,l)])
theorem Days.invS {ps rs:PL}{es ds:List Dc}{d:Dc}{bs:List (String×PL)} (a:Days ps es rs bs) (e:es=ds++[d]):DaysS ps ds d rs bs:=by
 cases a with
 | nil=>exact absurd e.symm (List.append_ne_nil_of_right_ne_nil _ (by simp))
 | snoc a S =>
  obtain⟨e1,e'⟩:=List.append_inj' e rfl
  injection e' with e' _
  subst e1 e'
  exact⟨_,_,_,_,a,S,rfl⟩
theorem Days.one {ps:PL} (G:Till ps) (ds:List Dc):∀qs qs' as as',Days ps ds qs as→Days ps ds qs' as'→qs=qs'∧as=as':=by
 refine LM (P:=fun ds=>∀qs qs' as as',Days ps ds qs as→Days ps ds qs' as'→qs=qs'∧as=as') ?_ ?_ ds
 ·intro qs qs' as as' a b
  obtain⟨e1,e2⟩:=a.inv0 rfl
  obtain⟨e3,e4⟩:=b.inv0 rfl
  exact⟨e1.trans e3.symm,e2.trans e4.symm⟩
 ·intro ds d ih qs qs' as as' a b
  obtain⟨q1,l1,a1,w1,a',S,e1⟩:=a.invS rfl
  obtain⟨q2,l2,a2,w2,b',S',e2⟩:=b.invS rfl
  obtain⟨rfl,rfl⟩:=ih _ _ _ _ a' b'
  obtain⟨rfl,rfl,rfl⟩:=S.one (a'.till G) S'
  exact⟨rfl,e1.trans e2.symm⟩
theorem Days.app {ps qs rs:PL}{ds es:List Dc}{as bs:List (String×PL)} (a:Days ps ds qs as) (b:Days qs es rs bs):Days ps (ds++es) rs (as++bs):=by
 induction b with
 | nil=>rw[List.append_nil,List.append_nil];exact a
 | snoc b S ih=>rw[←List.append_assoc,←List.append_assoc];exact .snoc ih S
noncomputable def H4:List String:=["Paid", "", "take", "ins"]
noncomputable def dv (d:Dc) (a:Addr):V:=Dc.casesOn (motive:=fun ξ=>V) d (fun p ξ=>.tup [.str (Str.ofString "paid"),.int p,.ref a]) (fun fe v c=>.tup [.str (Str.ofString (if fe=true then "fetched" else "brought")),.int v,.int c])
 (fun v=>.tup [.str (Str.ofString "in"),.int v]) (fun v=>.tup [.str (Str.ofString "out"),.int v]) fun w r=>.tup (.str (Str.ofString w) :: r.map V.int)
noncomputable def DOk (H:Hp) (d:Dc) (a:Addr):Prop:=Dc.casesOn (motive:=fun ξ=>Prop) d (fun ξ vs=>H a=some (.list (vs.map V.int))) (fun ξ ξ ξ=>True) (fun ξ=>True) (fun ξ=>True) fun w ξ=>w∈H4
theorem JO {p:Int}{vs:List Int}{a:Addr}:dv (.pay p vs) a=.tup [.str (Str.ofString "paid"),.int p,.ref a]:=rfl
theorem J0 {v c:Int}{a:Addr}:dv (.mov false v c) a=.tup [.str (Str.ofString "brought"),.int v,.int c]:=rfl
theorem IZ {v c:Int}{a:Addr}:dv (.mov true v c) a=.tup [.str (Str.ofString "fetched"),.int v,.int c]:=rfl
theorem Ki {v:Int}{a:Addr}:dv (.kin v) a=.tup [.str (Str.ofString "in"),.int v]:=rfl
theorem I4 {v:Int}{a:Addr}:dv (.kout v) a=.tup [.str (Str.ofString "out"),.int v]:=rfl
theorem I5 {w:String}{r:List Int}{a:Addr}:dv (.odd w r) a=.tup (.str (Str.ofString w) :: r.map V.int):=rfl
theorem DOk.ext {H H':Hp}{d:Dc}{a:Addr} (h:DOk H d a) (E:Ext H H'):DOk H' d a:=by
 cases d with
 | pay p vs=>exact E _ _ h
 | _=>exact h
structure Def9 (defs:String→Option Fn):Prop where
 d8:Def8 defs
 nk:defs "need_kind" = some Ch
 nc:defs "need_count" = some BA
 co:defs "count_of" = some BM
 wc:defs "with_count" = some Bg
 br:defs "brought" = some Ew
 fe:defs "fetched" = some Ev
 ki:defs "kind_in" = some Eu
 ko:defs "kind_out" = some DE
 don:defs "done" = some JI
 tri:defs "tried" = some Ke
 day:defs "day" = some Mz
section
variable {defs:String→Option Fn}{anc:String→List String}{n:Nat}{Q:V→Hp→Prop}{X:String→Hp→Prop}{H:Hp}
theorem Et {qs0 ps:PL}{d:Dc} (h:exn ps d = "") (np:CP d=false) (e:qs0=tgt ps d)
  (hq:∀qs l a b H',Ext H H'→Step ps d qs "done" l→H a=none→H b=none→a≠b→H' a=some (.list (lv qs))→H' b=some (.list (lv l))→Q (.tup [.ref a,.ref b]) H') :
  Hw (fun v H₁=>Bb [] (fun w H₂=>2≤Lim∧Q (.tup [v,w]) H₂) H₁) H qs0:=fun qs a H' g1 g2 hE ha hb=>by
 refine⟨by decide,fun b hb'=>⟨by decide,?_⟩⟩
 exact hq qs [] a b _ (hE.trans (.new _ hb')) (.ok h np (e▸g1) g2 rfl rfl) ha (hE.no hb') (AJ hb hb') (Ext.new _ hb' _ _ hb) (Hp.set_self _ _ _)
theorem Lb (D:Def9 defs) {t a:Addr}{ps:PL}{d:Dc} (G:Till ps) (ht:H t=some (.list (lv ps))) (hd:DOk H d a)
  (hX:exn ps d ≠ "" → ∀H',Ext H H'→X (exn ps d) H') (hN:∀H',Ext H H'→Step ps d ps "no change" []→X "NoChange" H')
  (hq:∀qs l a b H',Ext H H'→Step ps d qs "done" l→H a=none→H b=none→a≠b→H' a=some (.list (lv qs))→H' b=some (.list (lv l))→Q (.tup [.ref a,.ref b]) H') :
  Aj defs anc (n+6) "done" [.ref t,dv d a] Q X H:=by
 have hl:=G.len
 refine Ao D.don rfl ?_
 simp only[JI]
 cases d with
 | pay p vs =>
  rw[JO]
  (simp only[List.map_cons,List.map_nil,List.length_cons,List.length_nil,Nat.reduceAdd,Nat.reduceSub,List.replicate,List.cons_append,List.nil_append,Ae,sS,sZ,Ac,A9,A3,gS,gZ,A0,Am])
  dsimp only[A4]
  (simp only[Ad,A7,Aa,Ab,A5,Af,A3,gS,gZ,A0,Ay,decide_eq_true_eq])
  refine AY trivial ?_
  dsimp only[A4]
  (simp only[Al,Ag,A6,A8,Ac,A9,A3,gS,gZ,A0,C4,AF,true_and])
  exact KN D.d8 G ht hd hX (fun e H' hE f=>hN H' hE (.ch e p vs rfl f rfl rfl rfl)) fun e x l a b H' hE C hl ha hb hab ea eb=>hq _ l a b H' hE (.pay e p vs rfl x C rfl rfl hl) ha hb hab ea eb
 | mov fe v c =>
  cases fe with
  | false =>
   rw[J0]
   (simp only[List.map_cons,List.map_nil,List.length_cons,List.length_nil,Nat.reduceAdd,Nat.reduceSub,List.replicate,List.cons_append,List.nil_append,Ae,sS,sZ,Ac,A9,A3,gS,gZ,A0,Am])
   dsimp only[A4]
   (simp only[Ad,A7,Aa,Ab,A5,Af,A3,gS,gZ,A0,Ay,decide_eq_true_eq])
   refine AK (by decide) ?_
   dsimp only[A4]
   (simp only[Ad,A7,Aa,Ab,A5,Af,A3,gS,gZ,A0,Ay,decide_eq_true_eq])
   refine AY trivial ?_
   dsimp only[A4]
   (simp only[Al,AI,A6,List.length_cons,A8,List.length_nil,Nat.reduceAdd,AE,Ag,Ac,A9,A3,gS,gZ,A0,C4,AF,true_and])
   refine Ic D.nc D.d8.hpa D.d8.hco D.co D.wc D.br ht (by exact lA [] [_] (.n 0) (.c 60) [.L (.n 0) (.c 10)] [1,1] rfl hl) G.nodup (fun e=>?_) (fun t0 e k=>?_) fun t0 e k1 k2=>?_
   ·rw[Dm e] at hX;exact hX (by decide) H (.refl _)
   ·have ct:0≤t0∧t0≤1000000000:=G.cnt _ (Er e)
    have:exn ps (.mov false v c) = "NoCount" := by
     rw[D5 e]
     by_cases q:0≤c∧c≤1000000000
     ·rw[if_neg (fun z=>z q),if_neg (fun z=>by cases z.1),if_pos ⟨rfl,by omega⟩]
     ·rw[if_pos q]
    rw[this] at hX;exact hX (by decide) H (.refl _)
   ·have ex:exn ps (.mov false v c) = "" := by rw[D5 e,if_neg (fun z=>z k1),if_neg (fun z=>by cases z.1),if_neg (fun z=>by have:=z.2;exact lf [_,_] [] [.l (.a (.v 0) (.v 1)) (.c 1000000000),.b (.c 1000000000) (.a (.v 0) (.v 1))] [1,1] rfl k2.2 z.2)]
    exact Et ex rfl (by show BI v (t0+c) ps=BI v ((lk v ps).getD 0+c) ps;rw[e];rfl) hq
  | true =>
   rw[IZ]
   (simp only[List.map_cons,List.map_nil,List.length_cons,List.length_nil,Nat.reduceAdd,Nat.reduceSub,List.replicate,List.cons_append,List.nil_append,Ae,sS,sZ,Ac,A9,A3,gS,gZ,A0,Am])
   dsimp only[A4]
   (simp only[Ad,A7,Aa,Ab,A5,Af,A3,gS,gZ,A0,Ay,decide_eq_true_eq])
   refine AK (by decide) ?_
   dsimp only[A4]
   (simp only[Ad,A7,Aa,Ab,A5,Af,A3,gS,gZ,A0,Ay,decide_eq_true_eq])
   refine AK (by decide) ?_
   dsimp only[A4]
   (simp only[Ad,A7,Aa,Ab,A5,Af,A3,gS,gZ,A0,Ay,decide_eq_true_eq])
   refine AY trivial ?_
   dsimp only[A4]
   (simp only[Al,AI,A6,List.length_cons,A8,List.length_nil,Nat.reduceAdd,AE,Ag,Ac,A9,A3,gS,gZ,A0,C4,AF,true_and])
   refine HW D.nc D.d8.hpa D.d8.hco D.co D.wc D.fe ht (by exact lA [] [_] (.n 0) (.c 60) [.L (.n 0) (.c 10)] [1,1] rfl hl) G.nodup (fun e=>?_) (fun t0 e k=>?_) (fun t0 e k1 k2=>?_) fun t0 e k1 k2=>?_
   ·rw[Dm e] at hX;exact hX (by decide) H (.refl _)
   ·rw[D5 e,if_pos k] at hX;exact hX (by decide) H (.refl _)
   ·rw[D5 e,if_neg (fun z=>z k1),if_pos ⟨rfl,k2⟩] at hX;exact hX (by decide) H (.refl _)
   ·have ex:exn ps (.mov true v c) = "" := by rw[D5 e,if_neg (fun z=>z k1),if_neg (fun z=>k2 z.2),if_neg (fun z=>by cases z.1)]
    exact Et ex rfl (by show BI v (t0-c) ps=BI v ((lk v ps).getD 0-c) ps;rw[e];rfl) hq
 | kin v =>
  rw[Ki]
  (simp only[List.map_cons,List.map_nil,List.length_cons,List.length_nil,Nat.reduceAdd,Nat.reduceSub,List.replicate,List.cons_append,List.nil_append,Ae,sS,sZ,Ac,A9,A3,gS,gZ,A0,Am])
  dsimp only[A4]
  (simp only[Ad,A7,Aa,Ab,A5,Af,A3,gS,gZ,A0,Ay,decide_eq_true_eq])
  refine AK (by decide) ?_
  dsimp only[A4]
  (simp only[Ad,A7,Aa,Ab,A5,Af,A3,gS,gZ,A0,Ay,decide_eq_true_eq])
  refine AK (by decide) ?_
  dsimp only[A4]
  (simp only[Ad,A7,Aa,Ab,A5,Af,A3,gS,gZ,A0,Ay,decide_eq_true_eq])
  refine AK (by decide) ?_
  dsimp only[A4]
  (simp only[Ad,A7,Aa,Ab,A5,Af,A3,gS,gZ,A0,Ay,decide_eq_true_eq])
  refine AY trivial ?_
  dsimp only[A4]
  (simp only[Al,AI,A6,List.length_cons,A8,List.length_nil,Nat.reduceAdd,AE,Ag,Ac,A9,A3,gS,gZ,A0,AF,true_and])
  refine HQ D.nk D.d8.hpa D.d8.hco D.wc D.ki ht (by exact lA [] [_] (.n 0) (.c 60) [.L (.n 0) (.c 10)] [1,1] rfl hl) G.nodup (fun e=>?_) (fun H' hE k1 k2=>?_) (fun H' hE k1 k2 k3=>?_) fun k1 k2 k3=>?_
  ·rw[C5,if_pos e] at hX;exact hX (by decide) H (.refl _)
  ·rw[C5,if_neg (fun z=>z k1),if_pos k2] at hX;exact hX (by decide) H' hE
  ·rw[C5,if_neg (fun z=>z k1),if_neg k2,if_pos k3] at hX;exact hX (by decide) H' hE
  ·exact Et (by rw[C5,if_neg (fun z=>z k1),if_neg k2,if_neg k3]) rfl rfl hq
 | kout v =>
  rw[I4]
  (simp only[List.map_cons,List.map_nil,List.length_cons,List.length_nil,Nat.reduceAdd,Nat.reduceSub,List.replicate,List.cons_append,List.nil_append,Ae,sS,sZ,Ac,A9,A3,gS,gZ,A0,Am])
  dsimp only[A4]
  (simp only[Ad,A7,Aa,Ab,A5,Af,A3,gS,gZ,A0,Ay,decide_eq_true_eq])
  refine AK (by decide) ?_
  dsimp only[A4]
  (simp only[Ad,A7,Aa,Ab,A5,Af,A3,gS,gZ,A0,Ay,decide_eq_true_eq])
  refine AK (by decide) ?_
  dsimp only[A4]
  (simp only[Ad,A7,Aa,Ab,A5,Af,A3,gS,gZ,A0,Ay,decide_eq_true_eq])
  refine AK (by decide) ?_
  dsimp only[A4]
  (simp only[Ad,A7,Aa,Ab,A5,Af,A3,gS,gZ,A0,Ay,decide_eq_true_eq])
  refine AK (by decide) ?_
  dsimp only[A4]
  (simp only[Ad,A7,Aa,Ab,A5,Af,A3,gS,gZ,A0,Ay,decide_eq_true_eq])
  refine AY trivial ?_
  dsimp only[A4]
  (simp only[Al,AI,A6,List.length_cons,A8,List.length_nil,Nat.reduceAdd,AE,Ag,Ac,A9,A3,gS,gZ,A0,AF,true_and])
  refine H5 D.co D.ko ht (by exact lA [] [_] (.n 0) (.c 60) [.L (.n 0) (.c 10)] [1,1] rfl hl) G.srt (fun e=>?_) (fun t0 e k1=>?_) (fun t0 e k1 k2=>?_) fun t0 e k1 k2=>?_
  ·rw[Ey e] at hX;exact hX (by decide) H (.refl _)
  ·rw[Dn e,if_pos k1] at hX;exact hX (by decide) H (.refl _)
  ·rw[Dn e,if_neg k1,if_pos k2] at hX;exact hX (by decide) H (.refl _)
  ·exact Et (by rw[Dn e,if_neg k1,if_neg k2]) rfl rfl hq
 | odd w r =>
  rw[I5]
  have hw:w∈H4:=hd
  have nw:∀x∈["paid", "brought", "fetched", "in", "out"],Str.ofString w≠Str.ofString x:=by
   simp only[H4,List.mem_cons,List.not_mem_nil,or_false] at hw
   rcases hw with rfl | rfl | rfl | rfl <;> decide
  (simp only[List.map_cons,List.map_nil,List.length_cons,List.length_nil,Nat.reduceAdd,Nat.reduceSub,List.replicate,List.cons_append,List.nil_append,Ae,sS,sZ,Ac,A9,A3,gS,gZ,A0,Am])
  dsimp only[A4]
  (simp only[Ad,A7,Aa,Ab,A5,Af,A3,gS,gZ,A0,Ay,decide_eq_true_eq])
  refine AK (nw _ (by simp)) ?_
  dsimp only[A4]
  (simp only[Ad,A7,Aa,Ab,A5,Af,A3,gS,gZ,A0,Ay,decide_eq_true_eq])
  refine AK (nw _ (by simp)) ?_
  dsimp only[A4]
  (simp only[Ad,A7,Aa,Ab,A5,Af,A3,gS,gZ,A0,Ay,decide_eq_true_eq])
  refine AK (nw _ (by simp)) ?_
  dsimp only[A4]
  (simp only[Ad,A7,Aa,Ab,A5,Af,A3,gS,gZ,A0,Ay,decide_eq_true_eq])
  refine AK (nw _ (by simp)) ?_
  dsimp only[A4]
  (simp only[Ad,A7,Aa,Ab,A5,Af,A3,gS,gZ,A0,Ay,decide_eq_true_eq])
  refine AK (nw _ (by simp)) ?_
  dsimp only[A4]
  (simp only[By,true_and])
  exact hX (by show "NoDeed" ≠ "";decide) H (.refl _)
noncomputable def hsL (l:List (String×String)):Hs:=List.rec (motive:=fun ξ=>Hs) .nil (fun x ξ r=>.cons x.1 none (.cons (.ret (.tup (.cons (.var 0) (.cons (.str x.2) (.cons (.list .nil) .nil))))) .nil) r) l
theorem hs_go {G:Gl}{c w:String}{t:Addr}{ρ:Loc}{N:Loc→Hp→Prop}{R:V→Hp→Prop}{no:Prop}:∀ {l:List (String×String)},(∀x∈l,(G.anc c).contains x.1=(c == x.1))→l.lookup c=some w→(∀b,H b=none→R (.tup [.ref t,.str (Str.ofString w),.ref b]) (H.set b (.list [])))→Gb G c (hsL l) (some (.ref t) :: ρ) N R no H:=by
 intro l
 induction l with
 | nil=>intro _ e;cases e
 | cons x l ih =>
  intro h e hR
  show Gb G c (.cons x.1 none (.cons (.ret (.tup (.cons (.var 0) (.cons (.str x.2) (.cons (.list .nil) .nil))))) .nil) (hsL l)) _ _ _ _ _
  rw[F7,h x (.head _)]
  obtain⟨k,v⟩:=x
  rw[List.lookup_cons] at e
  cases q:c == k with
  | true =>
   rw[q] at e
   injection e with e
   subst e
   refine Mm ?_
   (simp only[Al,AI,A6,List.length_cons,A8,List.length_nil,Nat.reduceAdd,AE,Af,A3,gZ,A0,OS])
   exact⟨by decide,fun b hb=>⟨by decide,hR b hb⟩⟩
  | false =>
   rw[q] at e
   exact IS (ih (fun y hy=>h y (.tail _ hy)) e hR)
theorem MS:∀c∈wl.map (·.1),(∀x∈wl,(ancT c).contains x.1=(c == x.1))∧wl.lookup c=some (CF c):=by decide
theorem NL {ps:PL}{d:Dc} (h:exn ps d ≠ ""):exn ps d∈wl.map (·.1):=by
 have two:∀ {p:Prop} [Decidable p] {a b:String},a∈wl.map (·.1)→(b ≠ "" → b∈wl.map (·.1))→(if p then a else b) ≠ "" → (if p then a else b)∈wl.map (·.1):=fun {p} _ {a b} ha hb hn=>by
  by_cases q:p
  ·rw[if_pos q];exact ha
  ·rw[if_neg q] at hn ⊢;exact hb hn
 cases d with
 | pay p vs =>
  have:Do ps p vs ≠ "" := h
  show Do ps p vs∈_
  cases GP this with
  | sum e=>rw[e];decide
  | count e=>rw[e];decide
  | kind e=>rw[e];decide
  | little e=>rw[e];decide
 | mov fe v c =>
  cases e:lk v ps with
  | none=>rw[Dm e];decide
  | some t=>rw[D5 e] at h ⊢;exact two (by decide) (two (by decide) (two (by decide) fun z=>absurd rfl z)) h
 | kin v=>rw[C5] at h ⊢;exact two (by decide) (two (by decide) (two (by decide) fun z=>absurd rfl z)) h
 | kout v =>
  cases e:lk v ps with
  | none=>rw[Ey e];decide
  | some t=>rw[Dn e] at h ⊢;exact two (by decide) (two (by decide) fun z=>absurd rfl z) h
 | odd w r=>show "NoDeed" ∈ _;decide
theorem Jh (D:Def9 defs) {t a:Addr}{ps:PL}{d:Dc} (G:Till ps) (ht:H t=some (.list (lv ps))) (hd:DOk H d a)
  (hq:∀qs w l t' b H',Ext H H'→Step ps d qs w l→(t'=t∨H t'=none)→H b=none→b≠t'→H' t'=some (.list (lv qs))→H' b=some (.list (lv l))→Q (.tup [.ref t',.str (Str.ofString w),.ref b]) H') :
  Aj defs ancT (n+7) "tried" [.ref t,dv d a] Q X H:=by
 refine Ao D.tri rfl ?_
 have no:∀c∈wl.map (·.1),∀H',Ext H H'→Step ps d ps (CF c) []→∀(ρ:Loc) (N:Loc→Hp→Prop) (R:Prop),Gb ⟨Aj defs ancT (n+6),ancT⟩ c (hsL wl) (some (.ref t) :: ρ) N Q R H':=fun c hc H' hE S ρ N R =>
  hs_go (MS c hc).1 (MS c hc).2 fun b hb=>hq ps _ [] t b _ (hE.trans (.new _ hb)) S (.inl rfl) (hE.no hb) (Ne.symm (AJ (hE _ _ ht) hb)) (Ext.new _ hb _ _ (hE _ _ ht)) (Hp.set_self _ _ _)
 show AH _ _ (.cons (.tr (.cons (.asg2 2 3 (.call "done" (.cons (.var 0) (.cons (.var 1) .nil)))) .nil) (hsL wl)) (.cons (.ret (.tup (.cons (.var 2) (.cons (.str "done") (.cons (.var 3) .nil))))) .nil)) [some (.ref t),some (dv d a),none,none] _ _ _ _
 (simp only[s_tr,Al,AI,A6,List.length_cons,A8,List.length_nil,Nat.reduceAdd,A3,Af,K2,sS,sZ,Ag,gS,gZ,A0,true_and])
 refine Lb D G ht hd (fun e H' hE=>?_) (fun H' hE S=>?_) fun qs l a b H' hE S ha hb hab ea eb=>?_
 ·exact no _ (NL e) H' hE (.no e rfl rfl rfl) _ _ _
 ·exact no "NoChange" (by decide) H' hE S _ _ _
 ·(simp only[u_2])
  dsimp only[A4]
  (simp only[AL,gS,gZ,A0])
  exact⟨Nat.le_of_ble_eq_true rfl,hq qs _ l a b H' hE S (.inr ha) hb (Ne.symm hab) ea eb⟩
end
abbrev Aw:=String×PL×Addr
noncomputable def av (y:Aw):V:=.tup [.str (Str.ofString y.1),.ref y.2.2]
noncomputable def awc (y:Aw):String×PL:=(y.1,y.2.1)
structure DayA (H H':Hp) (N A:Addr) (qs:PL) (as:List Aw):Prop where
 ext:Ext H H'
 nN:H N=none
 nA:H A=none
 eN:H' N=some (.list (lv qs))
 eA:H' A=some (.list (as.map av))
 nAN:A≠N
 new:∀y∈as,H y.2.2=none∧y.2.2≠N∧y.2.2≠A
 at_:∀y∈as,H' y.2.2=some (.list (lv y.2.1))
 nod:(as.map (·.2.2)).Nodup
theorem DayA.more {H H' H'':Hp}{N A:Addr}{qs:PL}{as:List Aw} (D:DayA H H' N A qs as) (E:Ext H' H''):DayA H H'' N A qs as:=⟨D.ext.trans E,D.nN,D.nA,E _ _ D.eN,E _ _ D.eA,D.nAN,D.new,fun y hy=>E _ _ (D.at_ y hy),D.nod⟩
noncomputable abbrev dvp (x:Dc×Addr):V:=dv x.1 x.2
section
variable {defs:String→Option Fn}{n:Nat}{Q:V→Hp→Prop}{X:String→Hp→Prop}{H:Hp}
inductive DayI (H:Hp) (t D:Addr) (ps:PL) (xs:List (Dc×Addr)) (ρ:Loc) (H':Hp):Prop
 | mk (N A:Addr) (qs:PL) (as:List Aw) (x4 x5 x6:Option V) (e:ρ=[some (.ref t),some (.ref D),some (.ref N),some (.ref A),x4,x5,x6]) (d:Days ps (xs.map (·.1)) qs (as.map awc)) (h:DayA H H' N A qs as)
theorem Fk (F:Def9 defs) {t D:Addr}{ps:PL}{xs:List (Dc×Addr)} (G:Till ps) (ht:H t=some (.list (lv ps))) (hD:H D=some (.list (xs.map dvp))) (ok:∀x∈xs,DOk H x.1 x.2) (hl:xs.length≤1000)
  (hq:∀N A qs as H',Days ps (xs.map (·.1)) qs (as.map awc)→DayA H H' N A qs as→Q (.tup [.ref N,.ref A]) H') :
  Aj defs ancT (n+8) "day" [.ref t,.ref D] Q X H:=by
 have hl1:=G.len
 refine Ao F.day rfl ?_
 simp only[Mz]
 (simp only[List.map_cons,List.map_nil,List.length_cons,List.length_nil,Nat.reduceAdd,Nat.reduceSub,List.replicate,List.cons_append,List.nil_append,Ae,sS,sZ,Ar,A6,A8,A3,gZ,A0,true_and])
 rw[DB ht]
 refine⟨by rw[lv_length,Ai];exact lA [] [_] (.n 0) (.c 16777216) [.L (.n 0) (.c 10)] [1,1] rfl hl1,fun N hN=>?_⟩
 dsimp only[A4]
 (simp only[Ae,sS,sZ,AE,A8])
 refine⟨by decide,fun A hA=>?_⟩
 have E1:=Ext.new (.list (lv ps)) hN
 have E2:=Ext.new (.list []) hA
 dsimp only[A4]
 refine AC ⟨rfl,?_⟩
 (simp only[BB,A3,gS,gZ,A0])
 refine B2 ((E1.trans E2) _ _ hD) ?_
 rw[show (xs.map dvp).map It.v=xs.map fun x=>It.v (dvp x) by rw[List.map_map];rfl]
 refine Av (I:=DayI H t D ps) ?_ ?_ ?_ ⟨N,A,ps,[],none,none,none,rfl,.nil _,⟨E1.trans E2,hN,E1.no hA,E2 _ _ (Hp.set_self _ _ _),Hp.set_self _ _ _,Ne.symm (AJ (Hp.set_self H N (.list (lv ps))) hA),(by first | exact Gv | exact nofun),(by first | exact Gv | exact nofun),.nil⟩⟩
 ·rintro as ρ H' ⟨N,A,qs,as,x4,x5,x6,rfl,d,h⟩;exact AR (h.ext _ _ hD)
 ·rintro ρ H' ⟨N,A,qs,as,x4,x5,x6,rfl,d,h⟩
  dsimp only[A4]
  (simp only[Al,AI,A6,List.length_cons,A8,List.length_nil,Nat.reduceAdd,A3,gS,gZ,A0])
  exact⟨by decide,hq N A qs as H' d h⟩
 ·rintro bs x cs ρ H' K e ⟨N,A,qs,as,x4,x5,x6,rfl,d,h⟩ hK
  refine⟨_,rfl,?_⟩
  have hx:x∈xs:=by rw[e];simp
  have hla:as.length≤1000:=by
   have:=d.len
   rw[List.length_map,List.length_map] at this
   rw[e,List.length_append] at hl
   exact lA [] [_,_,_] (.n 0) (.c 1000) [.L (.a (.n 1) (.n 2)) (.c 1000),.E (.n 0) (.n 1)] [1,1,1] rfl hl this
  dsimp only[AN]
  (simp only[sS,sZ,Na,Ag,A6,A8,A3,gS,gZ,A0,true_and])
  refine Jh F (d.till G) h.eN ((ok x hx).ext h.ext) fun rs w l N' b H₂ E2 S ht' nb nbN eN eb=>?_
  (simp only[u_3])
  dsimp only[A4]
  (simp only[BT,BV,A6,A8,AI,List.length_cons,List.length_nil,Nat.reduceAdd,A3,gS,gZ,A0])
  have eA:=E2 _ _ h.eA
  rw[r_L eA]
  refine⟨⟨by decide,by decide⟩,by decide,?_⟩
  rw[Bk eA]
  refine⟨by rw[List.length_map,Ai];exact lB [] [_] (.n 0) (.c 16777216) [.L (.n 0) (.c 1000)] [1,1] rfl hla,?_⟩
  dsimp only[A4]
  (simp only[AL])
  have nbA:b≠A:=Ne.symm (AJ h.eA nb)
  have nAN':A≠N':=by
   rcases ht' with e | e
   ·rw[e];exact h.nAN
   ·exact AJ h.eA e
  have nN':H N'=none:=by
   rcases ht' with e | e
   ·rw[e];exact h.nN
   ·exact h.ext.no e
  refine hK _ _ ⟨N',A,rs,as++[(w,l,b)],_,_,_,rfl,?_,⟨.setNew _ (h.ext.trans E2) h.nA,nN',h.nA,by rw[Hp.set_ne _ (Ne.symm nAN')];exact eN,by rw[Hp.set_self,List.map_append];rfl,nAN',fun y hy=>?_,fun y hy=>?_,?_⟩⟩
  ·rw[List.map_append,List.map_append];exact .snoc d S
  ·rcases List.mem_append.mp hy with k | k
   ·refine⟨(h.new y k).1,?_,(h.new y k).2.2⟩
    rcases ht' with e | e
    ·rw[e];exact (h.new y k).2.1
    ·exact AJ (h.at_ y k) e
   ·rw[List.mem_singleton] at k;subst k;exact⟨h.ext.no nb,nbN,nbA⟩
  ·rcases List.mem_append.mp hy with k | k
   ·rw[Hp.set_ne _ (h.new y k).2.2];exact E2 _ _ (h.at_ y k)
   ·rw[List.mem_singleton] at k;subst k;rw[Hp.set_ne _ nbA];exact eb
  ·rw[List.map_append]
   refine CN h.nod fun z=>?_
   obtain⟨y,hy,e⟩:=List.mem_map.mp z
   exact AJ (h.at_ y hy) nb e
end
structure Upd (H H':Hp) (K:Addr) (hs:PL):Prop where
 oth:∀x o,x≠K→H x=some o→H' x=some o
 at_:H' K=some (.dict (hs.map kvI))
theorem Upd.same {H H':Hp}{K:Addr}{hs:PL} (h:H K=some (.dict (hs.map kvI))) (E:Ext H H'):Upd H H' K hs:=⟨fun x o ξ e=>E x o e,E _ _ h⟩
theorem Upd.put {H H':Hp}{K:Addr}{hs:PL} (E:Ext H H'):Upd H (H'.set K (.dict (hs.map kvI))) K hs:=⟨fun x o n e=>by rw[Hp.set_ne _ n];exact E x o e,Hp.set_self _ _ _⟩
theorem Upd.ext {H H' H'':Hp}{K:Addr}{hs:PL} (U:Upd H H' K hs) (E:Ext H' H''):Upd H H'' K hs:=⟨fun x o n e=>E _ _ (U.oth x o n e),E _ _ U.at_⟩
theorem Upd.pre {H H' H'':Hp}{K:Addr}{hs:PL} (E:Ext H H') (U:Upd H' H'' K hs):Upd H H'' K hs:=⟨fun x o n e=>U.oth x o n (E _ _ e),U.at_⟩
inductive Held (ps hs:PL) (d:Dc) (w:String) (hs':PL):Prop
 | no (h:exn ps d ≠ "") (e1:w=CF (exn ps d)) (e2:hs'=hs)
 | ok (h:exn ps d = "") (e1:w = "done") (e2:hs'.Perm (tgt ps d))
theorem Nz {hs ps:PL} (hp:hs.Perm ps) (hn:(ps.map (·.1)).Nodup) (v:Int):lk v hs=lk v ps:=by
 cases e:lk v ps with
 | none=>exact Es.mpr fun z=>Es.mp e (((hp.map _).mem_iff).mp z)
 | some c=>exact Cs (((hp.map _).nodup_iff).mpr hn) ((hp.mem_iff).mpr (Er e))
theorem KB {hs ps:PL} (hp:hs.Perm ps) (hn:(ps.map (·.1)).Nodup) {v c:Int} (hv:v∈ps.map (·.1)):(BI v c hs).Perm (BI v c ps):=by
 rw[CJ hn hv,CJ (((hp.map _).nodup_iff).mpr hn) (((hp.map _).mem_iff).mpr hv)]
 exact hp.map _
theorem NP {v:Int}:∀ {hs:PL},(hs.map (·.1)).Nodup→G0 v (hs.map kvI)=(hs.filter fun q=>!decide (q.1=v)).map kvI:=by
 intro hs
 induction hs with
 | nil=>intro _;rfl
 | cons b hs ih =>
  intro hn
  rw[List.map_cons,List.nodup_cons] at hn
  show (if b.1=v then hs.map kvI else kvI b :: G0 v (hs.map kvI))=_
  rw[List.filter_cons]
  by_cases e:b.1=v
  ·have:(hs.filter fun q=>!decide (q.1=v))=hs:=List.filter_eq_self.mpr fun q hq=>by
    have:q.1≠v:=fun z=>hn.1 (List.mem_map.mpr ⟨q,hq,z.trans e.symm⟩)
    rw[decide_eq_false this];rfl
   rw[if_pos e,if_neg (by rw[decide_eq_true e];decide),this]
  ·rw[if_neg e,if_pos (by rw[decide_eq_false e];rfl),ih hn.2];rfl
section
variable {defs:String→Option Fn}{anc:String→List String}{n:Nat}{Q:V→Hp→Prop}{X:String→Hp→Prop}{H:Hp}
theorem Eh (h5:defs "_law_copies" = some DD) {D:Addr}{xs:List (Dc×Addr)} (hD:H D=some (.list (xs.map dvp))) (ok:∀x∈xs,DOk H x.1 x.2) (hl:xs.length≤1000) (hvs:∀x∈xs,∀p vs,x.1=.pay p vs→vs.length≤1000)
  (hq:∀C (ys:List (Dc×Addr)) H',Ext H H'→H C=none→H' C=some (.list (ys.map dvp))→ys.map (·.1)=xs.map (·.1)→(∀y∈ys,DOk H' y.1 y.2)→Q (.ref C) H') :
  Aj defs anc (n+1) "_law_copies" [.ref D] Q X H:=by
 refine Ao h5 rfl ?_
 simp only[DD]
 (simp only[List.map_cons,List.map_nil,List.length_cons,List.length_nil,Nat.reduceAdd,Nat.reduceSub,List.replicate,List.cons_append,List.nil_append,Ae,sS,sZ,AE,A8])
 refine⟨by decide,fun C hC=>?_⟩
 dsimp only[A4]
 refine AC ⟨rfl,?_⟩
 (simp only[BB,A3,gZ,A0])
 refine B2 (Ext.new _ hC _ _ hD) ?_
 rw[show (xs.map dvp).map It.v=xs.map fun x=>It.v (dvp x) by rw[List.map_map];rfl]
 refine Av (I:=fun as ρ H'=>Ext H H'∧∃(ys:List (Dc×Addr)) (x2:Option V),ρ=[some (.ref D),some (.ref C),x2]∧H' C=some (.list (ys.map dvp))∧ys.map (·.1)=as.map (·.1)∧∀y∈ys,DOk H' y.1 y.2∧(CP y.1=true→y.2≠C)) ?_ ?_ ?_ ⟨.new _ hC,[],none,rfl,Hp.set_self _ _ _,rfl,(by first | exact Gv | exact nofun)⟩
 ·rintro as ρ H' ⟨hE,ys,x2,rfl,eC,ek,oky⟩;exact AR (hE _ _ hD)
 ·rintro ρ H' ⟨hE,ys,x2,rfl,eC,ek,oky⟩
  dsimp only[A4]
  (simp only[Al,A3,gS,gZ,A0])
  exact hq C ys H' hE hC eC ek fun y hy=>(oky y hy).1
 ·rintro as x bs ρ H' K e ⟨hE,ys,x2,rfl,eC,ek,oky⟩ hK
  refine⟨_,rfl,?_⟩
  have hx:x∈xs:=by rw[e];simp
  have hly:ys.length≤1000:=by
   have:=congrArg List.length ek
   rw[List.length_map,List.length_map] at this
   rw[e,List.length_append] at hl
   exact lA [] [_,_,_] (.n 0) (.c 1000) [.L (.a (.n 1) (.n 2)) (.c 1000),.E (.n 0) (.n 1)] [1,1,1] rfl hl this
  have keep:∀(H₁:Hp) (y:Dc×Addr) (o:Ob),DOk H₁ y.1 y.2→(CP y.1=true→y.2≠C)→DOk (H₁.set C o) y.1 y.2:=fun H₁ y o h1 h2=>by
   obtain⟨d,a⟩:=y
   cases d with
   | pay p vs=>exact (Hp.set_ne o (h2 rfl)).trans h1
   | _=>exact h1
  have add:∀(y:Dc×Addr) (H₁:Hp),Ext H' H₁→y.1=x.1→DOk H₁ y.1 y.2→(CP y.1=true→y.2≠C)→K [some (.ref D),some (.ref C),some (dvp x)] (H₁.set C (.list (ys.map dvp++[dvp y]))):=fun y H₁ E1 e1 ok1 ne=>by
   refine hK _ _ ⟨.setNew _ (hE.trans E1) hC,ys++[y],_,rfl,by rw[Hp.set_self,List.map_append];rfl,by rw[List.map_append,List.map_append,ek,List.map_cons,e1];rfl,fun z hz=>?_⟩
   rcases List.mem_append.mp hz with k | k
   ·exact⟨keep _ _ _ ((oky z k).1.ext E1) (oky z k).2,(oky z k).2⟩
   ·rw[List.mem_singleton] at k;subst k;exact⟨keep _ _ _ ok1 ne,ne⟩
  have other:CP x.1=false→A4 ⟨Aj defs anc n,anc⟩ false (.cons (.ex (.mt .append (.var 1) (.cons (.var 2) .nil))) .nil) K Q (fun c ξ H₁=>X c H₁) [some (.ref D),some (.ref C),some (dvp x)] H':=fun np=>by
   dsimp only[A4]
   (simp only[BT,BV,A6,A8,A3,gS,gZ,A0])
   rw[r_L eC]
   refine⟨⟨by decide,by decide⟩,?_⟩
   rw[Bk eC]
   refine⟨by rw[List.length_map,Ai];exact lB [] [_] (.n 0) (.c 16777216) [.L (.n 0) (.c 1000)] [1,1] rfl hly,?_⟩
   dsimp only[A4]
   (simp only[AL])
   exact add x H' (.refl _) rfl ((ok x hx).ext hE) (fun z=>by rw[np] at z;cases z)
  dsimp only[AN]
  obtain⟨d,a⟩:=x
  cases d with
  | pay p vs =>
   have ha:H a=some (.list (vs.map V.int)):=ok _ hx
   have hvl:=hvs _ hx p vs rfl
   rw[show dvp (Dc.pay p vs,a)=.tup [.str (Str.ofString "paid"),.int p,.ref a] from rfl] at *
   (simp only[sS,sZ,Ad,A7,Aa,Ab,A5,Af,Ac,A9,A3,gS,gZ,A0,Am,Ay,decide_eq_true_eq])
   refine AY trivial ?_
   dsimp only[A4]
   (simp only[BT,BV,A6,A8,AI,List.length_cons,List.length_nil,Nat.reduceAdd,Ar,Ac,A9,A3,gS,gZ,A0,C4,true_and,AF,Am])
   rw[r_L eC]
   refine⟨⟨by decide,by decide⟩,?_⟩
   rw[DB (hE _ _ ha)]
   refine⟨by rw[List.length_map,Ai];exact lA [] [_] (.n 0) (.c 16777216) [.L (.n 0) (.c 1000)] [1,1] rfl hvl,fun g hg=>⟨by decide,?_⟩⟩
   have E1:=Ext.new (.list (vs.map V.int)) hg
   rw[Bk (E1 _ _ eC)]
   refine⟨by rw[List.length_map,Ai];exact lB [] [_] (.n 0) (.c 16777216) [.L (.n 0) (.c 1000)] [1,1] rfl hly,?_⟩
   dsimp only[A4]
   (simp only[AL])
   exact add (.pay p vs,g) _ E1 rfl (Hp.set_self _ _ _) fun ξ=>Ne.symm (AJ eC hg)
  | mov fe v c =>
   cases fe with
   | false =>
    rw[show dvp (Dc.mov false v c,a)=.tup [.str (Str.ofString "brought"),.int v,.int c] from rfl] at other ⊢
    (simp only[sS,sZ,Ad,A7,Aa,Ab,A5,Af,Ac,A9,A3,gS,gZ,A0,Am,Ay,decide_eq_true_eq])
    exact AK (by decide) (other rfl)
   | true =>
    rw[show dvp (Dc.mov true v c,a)=.tup [.str (Str.ofString "fetched"),.int v,.int c] from rfl] at other ⊢
    (simp only[sS,sZ,Ad,A7,Aa,Ab,A5,Af,Ac,A9,A3,gS,gZ,A0,Am,Ay,decide_eq_true_eq])
    exact AK (by decide) (other rfl)
  | kin v =>
   rw[show dvp (Dc.kin v,a)=.tup [.str (Str.ofString "in"),.int v] from rfl] at other ⊢
   (simp only[sS,sZ,Ad,A7,Aa,Ab,A5,Af,Ac,A9,A3,gS,gZ,A0,Am,Ay,decide_eq_true_eq])
   exact AK (by decide) (other rfl)
  | kout v =>
   rw[show dvp (Dc.kout v,a)=.tup [.str (Str.ofString "out"),.int v] from rfl] at other ⊢
   (simp only[sS,sZ,Ad,A7,Aa,Ab,A5,Af,Ac,A9,A3,gS,gZ,A0,Am,Ay,decide_eq_true_eq])
   exact AK (by decide) (other rfl)
  | odd w r =>
   have hw:w∈H4:=ok _ hx
   rw[show dvp (Dc.odd w r,a)=.tup (.str (Str.ofString w) :: r.map V.int) from rfl] at other ⊢
   (simp only[sS,sZ,Ad,A7,Aa,Ab,A5,Af,Ac,A9,A3,gS,gZ,A0,Am,Ay,decide_eq_true_eq])
   refine AK ?_ (other rfl)
   simp only[H4,List.mem_cons,List.not_mem_nil,or_false] at hw
   rcases hw with rfl | rfl | rfl | rfl <;> decide
end
theorem EA {hs ps:PL} (hp:hs.Perm ps) (hn:(ps.map (·.1)).Nodup) (v:Int):C6 v (hs.map kvI)=(lk v ps).map V.int:=by rw[Ez,Nz hp hn]
section
variable {defs:String→Option Fn}{anc:String→List String}{n:Nat}{Q:V→Hp→Prop}{X:String→Hp→Prop}{H:Hp}
theorem Gy (h5:defs "_law_moved" = some D1) {K a:Addr}{ps hs:PL}{fe:Bool}{v c:Int} (G:Till ps) (hp:hs.Perm ps) (hK:H K=some (.dict (hs.map kvI)))
  (hq:∀w hs' H',Upd H H' K hs'→Held ps hs (.mov fe v c) w hs'→Q (.str (Str.ofString w)) H') :
  Aj defs anc (n+1) "_law_moved" [.ref K,dv (.mov fe v c) a] Q X H:=by
 have hl:=G.len
 have hlh:hs.length≤10:=by rw[hp.length_eq];exact hl
 have bad:∀x,exn ps (.mov fe v c)=x→x ≠ "" → Q (.str (Str.ofString (CF x))) H:=fun x e h=>by subst e;exact hq _ hs H (.same hK (.refl _)) (.no h rfl rfl)
 refine Ao h5 rfl ?_
 simp only[D1]
 have dg:=EA hp G.nodup v
 cases e:lk v ps with
 | none =>
  rw[e] at dg
  cases fe with
  | false =>
   rw[J0]
   (simp only[List.map_cons,List.map_nil,List.length_cons,List.length_nil,Nat.reduceAdd,Nat.reduceSub,List.replicate,List.cons_append,List.nil_append,Ae,sS,sZ,Ac,A9,A3,gS,gZ,A0,AF])
   dsimp only[A4]
   (simp only[Ad,A7,Aa,Ab,A5,A3,gZ,A0,gS])
   rw[CR hK,dg]
   refine AY rfl ?_
   dsimp only[A4]
   (simp only[Al,Af])
   exact bad _ (Dm e) (by decide)
  | true =>
   rw[IZ]
   (simp only[List.map_cons,List.map_nil,List.length_cons,List.length_nil,Nat.reduceAdd,Nat.reduceSub,List.replicate,List.cons_append,List.nil_append,Ae,sS,sZ,Ac,A9,A3,gS,gZ,A0,AF])
   dsimp only[A4]
   (simp only[Ad,A7,Aa,Ab,A5,A3,gZ,A0,gS])
   rw[CR hK,dg]
   refine AY rfl ?_
   dsimp only[A4]
   (simp only[Al,Af])
   exact bad _ (Dm e) (by decide)
 | some t =>
  rw[e] at dg
  have hv:=GB e
  have ex:=D5 (fe:=fe) (c:=c) e
  have put:∀(H₁:Hp) (m:Int),Ext H H₁→exn ps (.mov fe v c) = "" → m=(if fe=true then t-c else t+c)→hs.length≤Lim∧(hs.length<Lim)∧Q (.str (Str.ofString "done")) (H₁.set K (.dict ((BI v m hs).map kvI))):=fun H₁ m E1 h0 em=>by
   refine⟨by rw[Ai];exact lA [] [_] (.n 0) (.c 16777216) [.L (.n 0) (.c 10)] [1,1] rfl hlh,by rw[Ai];exact lB [] [_] (.n 0) (.c 16777216) [.L (.n 0) (.c 10)] [1,1] rfl hlh,hq _ _ _ (.put E1) (.ok h0 rfl ?_)⟩
   show (BI v m hs).Perm (BI v (if fe=true then (lk v ps).getD 0-c else (lk v ps).getD 0+c) ps)
   rw[e,em]
   exact KB hp G.nodup hv
  cases fe with
  | false =>
   rw[J0]
   (simp only[List.map_cons,List.map_nil,List.length_cons,List.length_nil,Nat.reduceAdd,Nat.reduceSub,List.replicate,List.cons_append,List.nil_append,Ae,sS,sZ,Ac,A9,A3,gS,gZ,A0,AF])
   dsimp only[A4]
   (simp only[Ad,A7,Aa,Ab,A5,A3,gZ,A0,gS])
   rw[CR hK,dg]
   refine AK (fun z=>by cases z) ?_
   dsimp only[A4]
   (simp only[Ae,sS,sZ,Ac,A9,A3,gS,gZ,A0,C4])
   dsimp only[A4]
   (simp only[Ad,A7,Aa,An,Ak,At,Ab,A5,Ah,A9,GV,A3,gS,gZ,A0,Ac,Af,Am,Ay,decide_eq_true_eq,DN,EG])
   have nocount:¬(0≤c∧c≤1000000000)∨1000000000<t+c→∀(S:Sts) (N:Loc→Hp→Prop),A4 ⟨Aj defs anc n,anc⟩ false (.cons (.ret (.str "no count")) S) N Q (fun c ξ H₁=>X c H₁) [some (.ref K),some (.tup [.str (Str.ofString "brought"),.int v,.int c]),some (.int v),some (.int c)] H:=fun k S N=>by
    have:exn ps (.mov false v c) = "NoCount" := by
     rw[ex]
     by_cases q:0≤c∧c≤1000000000
     ·rw[if_neg (fun z=>z q),if_neg (fun z=>by cases z.1),if_pos ⟨rfl,k.resolve_left fun z=>z q⟩]
     ·rw[if_pos q]
    dsimp only[A4]
    (simp only[Al,Af])
    exact bad _ this (by decide)
   refine FI (fun z=>nocount (.inl fun q=>by have:=q.1;exact lf [_] [] [.b (.v 0) (.c 0),.l (.c 0) (.v 0)] [1,1] rfl z q.1) _ _) fun z1=>FI (fun z=>nocount (.inl fun q=>by have:=q.2;exact lf [_] [] [.b (.c 1000000000) (.v 0),.l (.v 0) (.c 1000000000)] [1,1] rfl z q.2) _ _) fun z2=>AY trivial ?_
   rw[Ct hK]
   refine⟨.int t,dg,?_⟩
   (simp only[AQ,DN,decide_eq_true_eq])
   refine AA (fun z=>nocount (.inr z) _ _) fun z3=>?_
   dsimp only[A4]
   (simp only[Ad,A7,Aa,An,Ak,At,Ab,A5,Ac,A3,gS,gZ,A0,Af,A9,Am,Ay,decide_eq_true_eq])
   refine Id (fun z=>absurd z (by decide)) fun ξ=>?_
   dsimp only[A4]
   (simp only[BS,A3,gS,gZ,A0,Ah,Ac,Ar,A6,A8,Ab,My,Af,A9,Am,Ay,decide_eq_true_eq,true_and,AE,Be])
   rw[Ct hK]
   refine⟨.int t,dg,Nat.le_of_ble_eq_true rfl,fun b hb=>?_⟩
   (simp only[])
   rw[if_neg (by decide)]
   refine NG (Hp.set_self _ _ _) ?_
   have E1:=Ext.new (.list [V.int c,V.int (0-c)]) hb
   (simp only[AQ])
   rw[EI (E1 _ _ hK),BR]
   obtain⟨p1,p2,p3⟩:=put _ (t+c) E1 (by rw[ex,if_neg (fun z=>z ⟨by exact (Int.not_lt.mp z1),by exact (Int.not_lt.mp z2)⟩),if_neg (fun z=>by cases z.1),if_neg (fun z=>z3 z.2)]) rfl
   refine⟨by rw[List.length_map];exact p2,?_⟩
   dsimp only[A4]
   (simp only[Al,Af])
   exact p3
  | true =>
   rw[IZ]
   (simp only[List.map_cons,List.map_nil,List.length_cons,List.length_nil,Nat.reduceAdd,Nat.reduceSub,List.replicate,List.cons_append,List.nil_append,Ae,sS,sZ,Ac,A9,A3,gS,gZ,A0,AF])
   dsimp only[A4]
   (simp only[Ad,A7,Aa,Ab,A5,A3,gZ,A0,gS])
   rw[CR hK,dg]
   refine AK (fun z=>by cases z) ?_
   dsimp only[A4]
   (simp only[Ae,sS,sZ,Ac,A9,A3,gS,gZ,A0,C4])
   dsimp only[A4]
   (simp only[Ad,A7,Aa,An,Ak,At,Ab,A5,Ah,A9,GV,A3,gS,gZ,A0,Ac,Af,Am,Ay,decide_eq_true_eq,DN,EG])
   have nocount:¬(0≤c∧c≤1000000000)→∀(S:Sts) (N:Loc→Hp→Prop),A4 ⟨Aj defs anc n,anc⟩ false (.cons (.ret (.str "no count")) S) N Q (fun c ξ H₁=>X c H₁) [some (.ref K),some (.tup [.str (Str.ofString "fetched"),.int v,.int c]),some (.int v),some (.int c)] H:=fun k S N=>by
    dsimp only[A4]
    (simp only[Al,Af])
    exact bad _ (by rw[ex,if_pos k]) (by decide)
   refine FI (fun z=>nocount (fun q=>by have:=q.1;exact lf [_] [] [.b (.v 0) (.c 0),.l (.c 0) (.v 0)] [1,1] rfl z q.1) _ _) fun z1=>FI (fun z=>nocount (fun q=>by have:=q.2;exact lf [_] [] [.b (.c 1000000000) (.v 0),.l (.v 0) (.c 1000000000)] [1,1] rfl z q.2) _ _) fun z2=>Id (fun z=>absurd z (by decide)) fun ξ=>?_
   have hc:0≤c∧c≤1000000000:=⟨by exact (Int.not_lt.mp z1),by exact (Int.not_lt.mp z2)⟩
   dsimp only[A4]
   (simp only[Ad,A7,Aa,An,Ak,At,Ab,A5,Ac,A3,gS,gZ,A0,Af,A9,Am,Ay,decide_eq_true_eq])
   refine AY trivial ?_
   rw[Ct hK]
   refine⟨.int t,dg,?_⟩
   (simp only[DN,decide_eq_true_eq])
   refine AA (fun z=>?_) fun z3=>?_
   ·dsimp only[A4]
    (simp only[Al,Af])
    exact bad _ (by rw[ex,if_neg (fun z=>z hc),if_pos ⟨rfl,z⟩]) (by decide)
   dsimp only[A4]
   (simp only[BS,A3,gS,gZ,A0,Ah,Ac,Ar,A6,A8,Ab,My,Af,A9,Am,Ay,decide_eq_true_eq,true_and,AE,Be])
   rw[Ct hK]
   refine⟨.int t,dg,Nat.le_of_ble_eq_true rfl,fun b hb=>?_⟩
   (simp only[])
   rw[if_pos (by decide)]
   refine NF (Hp.set_self _ _ _) ?_
   have E1:=Ext.new (.list [V.int c,V.int (0-c)]) hb
   (simp only[AQ])
   rw[EI (E1 _ _ hK),BR]
   obtain⟨p1,p2,p3⟩:=put _ (t+(0-c)) E1 (by rw[ex,if_neg (fun z=>z hc),if_neg (fun z=>z3 z.2),if_neg (fun z=>by cases z.1)]) (by rw[if_pos rfl];exact lq [_,_] [] (.a (.v 0) (.s (.c 0) (.v 1))) (.s (.v 0) (.v 1)) [] [1] [1] rfl)
   refine⟨by rw[List.length_map];exact p2,?_⟩
   dsimp only[A4]
   (simp only[Al,Af])
   exact p3
theorem Mg (h5:defs "_law_kind" = some Ca) {K a:Addr}{ps hs:PL}{v:Int} (G:Till ps) (hp:hs.Perm ps) (hK:H K=some (.dict (hs.map kvI)))
  (hq:∀w hs' H',Upd H H' K hs'→Held ps hs (.kin v) w hs'→Q (.str (Str.ofString w)) H') :
  Aj defs anc (n+1) "_law_kind" [.ref K,dv (.kin v) a] Q X H:=by
 have hl:=G.len
 have hlh:hs.length=ps.length:=hp.length_eq
 have bad:∀x,exn ps (.kin v)=x→x ≠ "" → Q (.str (Str.ofString (CF x))) H:=fun x e h=>by subst e;exact hq _ hs H (.same hK (.refl _)) (.no h rfl rfl)
 refine Ao h5 rfl ?_
 simp only[Ca]
 rw[Ki]
 (simp only[List.map_cons,List.map_nil,List.length_cons,List.length_nil,Nat.reduceAdd,Nat.reduceSub,List.replicate,List.cons_append,List.nil_append,Ae,sS,sZ,Ac,A9,A3,gS,gZ,A0,AF])
 dsimp only[A4]
 (simp only[Ad,A7,Aa,Ab,A5,Af,Ac,A9,A3,gS,gZ,A0,Am,Ay,decide_eq_true_eq])
 refine AY trivial ?_
 dsimp only[A4]
 (simp only[Ad,A7,Aa,An,Ak,At,Ab,A5,A9,A3,gS,gZ,A0,DN,decide_eq_true_eq,EG])
 have nokind:¬(1≤v∧v≤1000)→∀(S:Sts) (N:Loc→Hp→Prop),A4 ⟨Aj defs anc n,anc⟩ false (.cons (.ret (.str "no kind")) S) N Q (fun c ξ H₁=>X c H₁) [some (.ref K),some (.tup [.str (Str.ofString "in"),.int v]),some (.int v)] H:=fun k S N=>by
  dsimp only[A4]
  (simp only[Al,Af])
  exact bad _ (by rw[C5,if_pos k]) (by decide)
 refine FI (fun z=>nokind (fun q=>by have:=q.1;exact lf [_] [] [.b (.v 0) (.c 1),.l (.c 1) (.v 0)] [1,1] rfl z q.1) _ _) fun z1=>AA (fun z=>nokind (fun q=>by have:=q.2;exact lf [_] [] [.b (.c 1000) (.v 0),.l (.v 0) (.c 1000)] [1,1] rfl z q.2) _ _) fun z2=>?_
 have hv:1≤v∧v≤1000:=⟨by exact (Int.not_lt.mp z1),by exact (Int.not_lt.mp z2)⟩
 dsimp only[A4]
 (simp only[Ad,A7,Aa,Ab,A5,A3,gZ,A0,gS])
 rw[MM hK,EA hp G.nodup v]
 cases e:lk v ps with
 | some t =>
  refine AY rfl ?_
  dsimp only[A4]
  (simp only[Al,Af])
  exact bad _ (by rw[C5,if_neg (fun z=>z hv),if_pos (GB e)]) (by decide)
 | none =>
  have nv:=Es.mp e
  refine AK (fun z=>by cases z) ?_
  dsimp only[A4]
  (simp only[Ad,A7,Aa,Ab,A5,A9,Ar,A6,A8,A3,gZ,A0,true_and])
  rw[Mw hK,List.length_map]
  (simp only[C7,decide_eq_true_eq])
  refine AA (fun z=>?_) fun z3=>?_
  ·dsimp only[A4]
   (simp only[Al,Af])
   exact bad _ (by rw[C5,if_neg (fun z=>z hv),if_neg nv,if_pos (by exact lQ [] [_,_] (.n 0) (.c 10) [.E (.n 1) (.n 0),.e (.t (.n 1)) (.c 10)] [1,1,-1] [1,-1,1] rfl hlh z)]) (by decide)
  ·dsimp only[A4]
   (simp only[BS,A3,gS,gZ,A0,A9])
   rw[EI hK,BR]
   refine⟨by rw[List.length_map,Ai];exact lB [] [_,_] (.n 0) (.c 16777216) [.L (.n 1) (.c 10),.E (.n 0) (.n 1)] [1,1,1] rfl hl hlh,?_⟩
   dsimp only[A4]
   (simp only[Al,Af])
   refine hq _ _ _ (.put (.refl _)) (.ok (by rw[C5,if_neg (fun z=>z hv),if_neg nv,if_neg (by omega)]) rfl ?_)
   rw[Gm (fun z=>nv (((hp.map _).mem_iff).mp z))]
   exact hp.append_right _
theorem KT (h5:defs "_law_kind" = some Ca) {K a:Addr}{ps hs:PL}{v:Int} (G:Till ps) (hp:hs.Perm ps) (hK:H K=some (.dict (hs.map kvI)))
  (hq:∀w hs' H',Upd H H' K hs'→Held ps hs (.kout v) w hs'→Q (.str (Str.ofString w)) H') :
  Aj defs anc (n+1) "_law_kind" [.ref K,dv (.kout v) a] Q X H:=by
 have hl:=G.len
 have hlh:hs.length=ps.length:=hp.length_eq
 have bad:∀x,exn ps (.kout v)=x→x ≠ "" → Q (.str (Str.ofString (CF x))) H:=fun x e h=>by subst e;exact hq _ hs H (.same hK (.refl _)) (.no h rfl rfl)
 refine Ao h5 rfl ?_
 simp only[Ca]
 rw[I4]
 have dg:=EA hp G.nodup v
 (simp only[List.map_cons,List.map_nil,List.length_cons,List.length_nil,Nat.reduceAdd,Nat.reduceSub,List.replicate,List.cons_append,List.nil_append,Ae,sS,sZ,Ac,A9,A3,gS,gZ,A0,AF])
 dsimp only[A4]
 (simp only[Ad,A7,Aa,Ab,A5,Af,Ac,A9,A3,gS,gZ,A0,Am,Ay,decide_eq_true_eq])
 refine AK (by decide) ?_
 dsimp only[A4]
 (simp only[Ad,A7,Aa,Ab,A5,A3,gZ,A0,gS])
 rw[CR hK,dg]
 cases e:lk v ps with
 | none =>
  refine AY rfl ?_
  dsimp only[A4]
  (simp only[Al,Af])
  exact bad _ (Ey e) (by decide)
 | some t =>
  rw[e] at dg
  have ex:=Dn e
  refine AK (fun z=>by cases z) ?_
  dsimp only[A4]
  (simp only[Ad,A7,Aa,Ab,A5,A9,Ac,A3,gS,gZ,A0])
  rw[Ct hK]
  refine⟨.int t,dg,?_⟩
  (simp only[DN,decide_eq_true_eq])
  refine AA (fun z=>?_) fun z1=>?_
  ·dsimp only[A4]
   (simp only[Al,Af])
   exact bad _ (by rw[ex,if_pos z]) (by decide)
  dsimp only[A4]
  (simp only[Ad,A7,Aa,Ab,A5,A9,Ar,A6,A8,A3,gZ,A0,true_and])
  rw[Mw hK,List.length_map]
  (simp only[C7,decide_eq_true_eq])
  refine AA (fun z=>?_) fun z2=>?_
  ·dsimp only[A4]
   (simp only[Al,Af])
   exact bad _ (by rw[ex,if_neg z1,if_pos (by exact lQ [] [_,_] (.n 0) (.c 1) [.E (.n 1) (.n 0),.e (.t (.n 1)) (.c 1)] [1,1,-1] [1,-1,1] rfl hlh z)]) (by decide)
  dsimp only[A4]
  (simp only[BT,BV,A6,A8,A3,gS,gZ,A0])
  rw[r_D hK]
  refine⟨.inr rfl,?_⟩
  rw[OK hK]
  refine⟨_,dg,?_⟩
  rw[NP (((hp.map _).nodup_iff).mpr G.nodup)]
  dsimp only[A4]
  (simp only[Al,Af])
  exact hq _ _ _ (.put (.refl _)) (.ok (by rw[ex,if_neg z1,if_neg (by omega)]) rfl (hp.filter _))
theorem Iu (h5:defs "_law_unpaid" = some Cv) {K q:Addr}{ps hs:PL}{vs:List Int}{price:Int} (G:Till ps) (hp:hs.Perm ps) (hK:H K=some (.dict (hs.map kvI))) (hv:H q=some (.list (vs.map V.int))) (hvl:vs.length≤1000)
  (hq:∀H',Ext H H'→Q (.str (Str.ofString (CF (Do ps price vs)))) H') :
  Aj defs anc (n+1) "_law_unpaid" [.ref K,.tup [.str (Str.ofString "paid"),.int price,.ref q]] Q X H:=by
 have is:∀x,Do ps price vs=x→∀H',Ext H H'→Q (.str (Str.ofString (CF x))) H':=fun x e=>by subst e;exact hq
 refine Ao h5 rfl ?_
 simp only[Cv]
 (simp only[List.map_cons,List.map_nil,List.length_cons,List.length_nil,Nat.reduceAdd,Nat.reduceSub,List.replicate,List.cons_append,List.nil_append,Ad,A7,Aa,An,Ak,At,Ab,A5,A9,Ac,A3,gS,gZ,A0,AF,DN,decide_eq_true_eq,EG])
 by_cases h1:0≤price∧price≤1000
 rotate_left
 ·have nosum:=is "NoSum" (if_pos h1) H (.refl _)
  refine FI (fun h=>?_) fun h=>AY (by omega) ?_
  ·dsimp only[A4]
   (simp only[Al,Af])
   exact nosum
  ·dsimp only[A4]
   (simp only[Al,Af])
   exact nosum
 have e1:Do ps price vs=if 60<vs.length then "NoCount" else if Az ps vs [] ≠ "" then Az ps vs [] else if vs.sum<price then "TooLittle" else if ¬(0≤vs.sum-price∧vs.sum-price≤1000) then "NoSum" else "" := if_neg (fun z=>z h1)
 refine FI (fun h=>by omega) fun h=>AK (by exact lf [_] [] [.l (.v 0) (.c 1000),.b (.c 1000) (.v 0)] [1,1] rfl h1.2) ?_
 dsimp only[A4]
 (simp only[Ad,A7,Aa,Ab,A5,A9,Ar,A6,A8,Ac,A3,gS,gZ,A0,C4,true_and])
 rw[AO hv,List.length_map]
 (simp only[DN,decide_eq_true_eq])
 by_cases h2:60<vs.length
 ·refine AY (by exact lb [] [_] (.c 60) (.t (.n 0)) [.B (.c 60) (.n 0)] [1,1] rfl h2) ?_
  dsimp only[A4]
  (simp only[Al,Af])
  exact is "NoCount" (by rw[e1,if_pos h2]) H (.refl _)
 refine AK (by exact lf [] [_] [.L (.n 0) (.c 60),.b (.c 60) (.t (.n 0))] [1,1] rfl (Nat.not_lt.mp h2)) ?_
 rw[if_neg h2] at e1
 dsimp only[A4]
 refine AC ⟨rfl,?_⟩
 (simp only[F5,Ar,A6,A8,Ac,A9,A3,gS,gZ,A0,C4,true_and])
 rw[AO hv,List.length_map]
 (simp only[HI])
 refine⟨⟨by exact lb [] [_] (.c (-4611686018427387904)) (.t (.n 0)) [] [1] rfl,by exact lb [] [_] (.t (.n 0)) (.c 4611686018427387904) [.L (.n 0) (.c 1000)] [1,1] rfl hvl⟩,?_⟩
 rw[Int.toNat_natCast,Bq]
 refine Av (I:=fun as ρ H'=>∃x2 x3,ρ=[some (.ref K),some (.tup [.str (Str.ofString "paid"),.int price,.ref q]),x2,x3]∧Ext H H'∧Az ps (vs.take as.length) [] = "") ?_ ?_ ?_ ⟨_,_,rfl,.refl _,rfl⟩
 ·rintro as ρ H' _;exact BY
 ·rintro ρ H' ⟨x2,x3,rfl,hE,hcode⟩
  rw[List.length_range,List.take_length] at hcode
  rw[if_neg (fun z=>z hcode)] at e1
  have hv':=hE _ _ hv
  dsimp only[A4]
  (simp only[Ad,A7,Aa,Ab,A5,Ac,A9,A3,gS,gZ,A0,AF,Ar,A6,A8,C4,true_and])
  rw[Ea hv' (Ba vs)]
  (simp only[EG,decide_eq_true_eq])
  by_cases h4:vs.sum<price
  ·refine AY h4 ?_
   dsimp only[A4]
   (simp only[Al,Af])
   exact is "TooLittle" (by rw[e1,if_pos h4]) _ hE
  refine AK h4 ?_
  rw[if_neg h4] at e1
  dsimp only[A4]
  (simp only[Ad,A7,Aa,Ab,A5,A9,Ah,Ac,A3,gS,gZ,A0,AF,Ar,A6,A8,C4,true_and])
  rw[Ea hv' (Ba vs)]
  (simp only[Be,DN,decide_eq_true_eq])
  by_cases h5:0≤vs.sum-price∧vs.sum-price≤1000
  ·refine AK (by exact lf [_,_] [] [.l (.s (.v 0) (.v 1)) (.c 1000),.b (.c 1000) (.s (.v 0) (.v 1))] [1,1] rfl h5.2) ?_
   dsimp only[A4]
   (simp only[Al,Af])
   exact is "" (by rw[e1,if_neg (fun z=>z h5)]) _ hE
  ·refine AY (by omega) ?_
   dsimp only[A4]
   (simp only[Al,Af])
   exact is "NoSum" (by rw[e1,if_pos h5]) _ hE
 ·rintro as k bs ρ H' K' e ⟨x2,x3,rfl,hE,hcode⟩ hK'
  obtain⟨rfl,hk⟩:=B5 e
  refine⟨_,rfl,?_⟩
  have gv:=List.getElem?_eq_getElem hk
  generalize vs[as.length]=v at gv
  have hvs:vs=vs.take as.length++v :: vs.drop (as.length+1):=by
   have:=(List.take_append_drop (as.length+1) vs).symm
   rwa [Ek gv,List.append_assoc] at this
  have hv':=hE _ _ hv
  have hK1:=hE _ _ hK
  have fault:∀x,Ax ps (vs.take as.length) v=x→x ≠ "" → ∀H'',Ext H H''→Q (.str (Str.ofString (CF x))) H'':=fun x hf hne=>by
   have e2:=EJ (bs:=vs.drop (as.length+1)) hcode (by rw[hf];exact hne)
   rw[←hvs] at e2
   exact is x (by rw[e1,e2,hf,if_pos hne])
  have dg:=EA hp G.nodup v
  dsimp only[AN]
  (simp only[sS,sZ,Ae,Ac,A3,gS,gZ,A0,A9,C4])
  refine OR hv' gv (by exact lA [] [_] (.n 0) (.c 1001) [.L (.n 0) (.c 1000)] [1,1] rfl hvl) ?_
  dsimp only[A4]
  (simp only[Ad,A7,Aa,Ab,A5,A3,gZ,A0,gS])
  rw[CR hK1,dg]
  cases el:lk v ps with
  | none =>
   refine AY rfl ?_
   dsimp only[A4]
   (simp only[Al,Af])
   exact fault "NoKind" (by rw[Ax,el]) (by decide) _ hE
  | some c =>
   rw[el] at dg
   refine AK (fun z=>by cases z) ?_
   have ef:Ax ps (vs.take as.length) v=if c+((vs.take as.length).count v:Int)=MC then "NoCount" else "" := by rw[Ax,el]
   dsimp only[A4]
   (simp only[Ad,A7,Aa,Ab,A5,Ah,A9,GV,BV,A6,A8,A3,gS,gZ,A0,G4,CW,Ac,C4])
   rw[Ct hK1]
   refine⟨.int c,dg,?_⟩
   refine s_to hv' (by exact la [] [_] (.c 0) (.t (.n 0)) [] [1] rfl) (by rw[List.length_map];exact la [] [_,_] (.t (.n 0)) (.t (.n 1)) [.B (.n 0) (.n 1)] [1,1] rfl hk) (by rw[List.length_map,Ai];exact lA [] [_] (.n 0) (.c 16777216) [.L (.n 0) (.c 1000)] [1,1] rfl hvl) fun s hs=>?_
   rw[Int.toNat_natCast,←List.map_take]
   rw[r_L (Hp.set_self _ _ _)]
   refine⟨⟨nofun,nofun⟩,?_⟩
   rw[Ka (Hp.set_self _ _ _)]
   refine⟨_,Kk _ _,?_⟩
   have hE2:=hE.trans (Ext.new (.list ((vs.take as.length).map V.int)) hs)
   (simp only[AQ,C7,decide_eq_true_eq])
   by_cases h:c+((vs.take as.length).count v:Int)=MC
   ·refine AY h ?_
    dsimp only[A4]
    (simp only[Al,Af])
    exact fault "NoCount" (by rw[ef,if_pos h]) (by decide) _ hE2
   ·refine AK h ?_
    dsimp only[A4]
    (simp only[AL])
    refine hK' _ _ ⟨_,_,rfl,hE2,?_⟩
    rw[List.length_append,show as.length + [as.length].length=as.length+1 from rfl,Ek gv]
    exact Fa hcode (by rw[ef,if_neg h])
end
section
variable {defs:String→Option Fn}{anc:String→List String}{n:Nat}{Q:V→Hp→Prop}{X:String→Hp→Prop}{H:Hp}
theorem Fy {p:Addr}{L:List Int}{i:Int} (h:H p=some (.list (L.map V.int))) (h0:0≤i) (h1:i<L.length) (hl:L.length≤1000) (hq:∀v∈L,Q (.int v) H):Ce (.ref p) (.int i) Q H:=by
 rw[BJ h]
 refine I3 (P:=fun z=>Q z H) ⟨by exact lb [_] [] (.c (-4611686018427387904)) (.v 0) [.l (.c 0) (.v 0)] [1,1] rfl h0,by exact lb [_] [_] (.v 0) (.c 4611686018427387904) [.b (.v 0) (.t (.n 0)),.L (.n 0) (.c 1000)] [1,1,1] rfl h1 hl⟩ h0 (by rw[List.length_map];exact h1) fun z hz=>?_
 obtain⟨v,hv,rfl⟩:=List.mem_map.mp hz
 exact hq v hv
theorem GC (h5:defs "_law_known" = some D2) {p:Addr}{vs:List Int}{c:Int} (hp:H p=some (.list (vs.map V.int))) (hl:vs.length≤1000) (hq:∀v H',Ext H H'→Q (.int v) H') :
  Aj defs anc (n+1) "_law_known" [.ref p,.int c] Q X H:=by
 refine Ao h5 rfl ?_
 simp only[D2]
 (simp only[List.map_cons,List.map_nil,List.length_cons,List.length_nil,Nat.reduceAdd,Nat.reduceSub,List.replicate,List.cons_append,List.nil_append,Ae,sS,sZ,AE,A6,A8,Ah,A9,A3,gS,gZ,A0,Bu,AQ,Dv,CW])
 refine⟨by decide,by decide,Nat.le_of_ble_eq_true rfl,fun a ha=>?_⟩
 have E1:=Ext.new (.list [V.int 0,V.int 1001,V.int (7+c % 990),V.int (-3),V.int 1000,V.int (1+c % 30)]) ha
 have ga:=Hp.set_self H a (.list [V.int 0,V.int 1001,V.int (7+c % 990),V.int (-3),V.int 1000,V.int (1+c % 30)])
 generalize H.set a (.list [V.int 0,V.int 1001,V.int (7+c % 990),V.int (-3),V.int 1000,V.int (1+c % 30)])=H₁ at E1 ga ⊢
 have strange:∀(S:Sts) (K:Loc→Hp→Prop),A4 ⟨Aj defs anc n,anc⟩ false (.cons (.ret (.idx (.var 2) (.bin .mod (.bin .fdiv (.var 1) (.int 99)) (.int 6)))) S) K Q (fun c ξ H₁=>X c H₁) [some (.ref p),some (.int c),some (.ref a)] H₁:=fun S K=>by
  dsimp only[A4]
  (simp only[Al,Ac,Ah,A9,A3,gS,gZ,A0,Bi,Bu])
  refine⟨⟨by decide,by decide⟩,by decide,?_⟩
  exact Fy (L:=[0,1001,7+c % 990,-3,1000,1+c % 30]) ga (by exact la [_] [] (.c 0) (.v 0) [.l (.c 0) (.v 0)] [1,1] rfl (em0 6 rfl)) (by simp;exact lb [_] [] (.v 0) (.c 6) [.b (.v 0) (.c 6)] [1,1] rfl (em1 6 rfl)) (by simp) fun v ξ=>hq v H₁ E1
 dsimp only[A4]
 (simp only[Ad,A7,Aa,An,Ak,At,Ab,A5,A9,Ar,A6,A8,A3,gZ,A0,true_and,Ah,gS,Bi,Bu,C7,decide_eq_true_eq])
 refine⟨⟨by decide,by decide⟩,by decide,FI (fun ξ=>strange _ _) fun ξ=>?_⟩
 rw[AO (E1 _ _ hp),List.length_map]
 (simp only[C7,decide_eq_true_eq])
 refine AA (fun ξ=>strange _ _) fun h=>?_
 dsimp only[A4]
 (simp only[Al,Ac,Ah,Ar,A6,A8,A3,gZ,A0,true_and,A9,gS,Bi])
 refine⟨⟨by decide,by decide⟩,?_⟩
 rw[AO (E1 _ _ hp),List.length_map]
 (simp only[Bu])
 have hpos:0<(vs.length:Int):=by omega
 refine⟨hpos,?_⟩
 exact Fy (E1 _ _ hp) (Int.emod_nonneg _ (by exact lf [] [_] [.b (.c 0) (.t (.n 0)),.e (.t (.n 0)) (.c 0)] [1,1] rfl hpos)) (Int.emod_lt_of_pos _ hpos) hl fun v ξ=>hq v H₁ E1
end
noncomputable def Sts.blk (s:Sts):Sts:=Sts.casesOn (motive_2:=fun ξ=>Sts) s .nil fun x ξ=>St.casesOn (motive_1:=fun ξ=>Sts) x (fun ξ ξ=>.nil) (fun ξ ξ ξ=>.nil) (fun ξ ξ ξ ξ=>.nil) (fun ξ ξ ξ=>.nil) (fun ξ=>.nil) (fun ξ=>.nil) (fun ξ a ξ=>a) (fun ξ ξ=>.nil) (fun ξ ξ ξ=>.nil) (fun ξ ξ=>.nil) (fun ξ ξ=>.nil) .nil
section
variable {defs:String→Option Fn}{anc:String→List String}{n:Nat}{Q:V→Hp→Prop}{X:String→Hp→Prop}{H:Hp}
theorem OP {p:Addr}{L:List String}{i:Int} (h:H p=some (.list (L.map fun w=>V.str (Str.ofString w)))) (h0:0≤i) (h1:i<L.length) (hl:L.length≤1000) (hq:∀w∈L,Q (.str (Str.ofString w)) H):Ce (.ref p) (.int i) Q H:=by
 rw[BJ h]
 refine I3 (P:=fun z=>Q z H) ⟨by exact lb [_] [] (.c (-4611686018427387904)) (.v 0) [.l (.c 0) (.v 0)] [1,1] rfl h0,by exact lb [_] [_] (.v 0) (.c 4611686018427387904) [.b (.v 0) (.t (.n 0)),.L (.n 0) (.c 1000)] [1,1,1] rfl h1 hl⟩ h0 (by rw[List.length_map];exact h1) fun z hz=>?_
 obtain⟨v,hv,rfl⟩:=List.mem_map.mp hz
 exact hq v hv
theorem s_toT {xs:List V}{i:Int} (h0:0≤i) (h1:i≤xs.length) (hl:xs.length≤1000) (hq:Q (.tup (xs.take i.toNat)) H):CE (.tup xs) none (some i) Q H:=by
 refine⟨nofun,fun j e=>by injection e with e;subst e;exact⟨by exact lb [_] [] (.c (-4611686018427387904)) (.v 0) [.l (.c 0) (.v 0)] [1,1] rfl h0,by exact lb [_] [_] (.v 0) (.c 4611686018427387904) [.l (.v 0) (.t (.n 0)),.L (.n 0) (.c 1000)] [1,1,1] rfl h1 hl⟩,?_⟩
 exact⟨rfl,i,rfl,⟨h0,h1⟩,hq⟩
inductive GivI (H:Hp) (F:Addr) (ρ₀:Option V→Loc) (as:List Nat) (ρ:Loc) (H':Hp):Prop
 | mk (ws:List Int) (x9:Option V) (e:ρ=ρ₀ x9) (E:Ext H H') (eF:H' F=some (.list (ws.map V.int))) (hl:ws.length=as.length)
theorem Lc (h1:defs "_law_mixed" = some B8) (h2:defs "_law_known" = some D2) (h5:defs "_law_deed" = some Bh) {p:Addr}{vs:List Int}{c k:Int} (hp:H p=some (.list (vs.map V.int))) (hl:vs.length≤1000)
  (hq:∀d a H',Ext H H'→DOk H' d a→(CP d=true→H a=none)→(∀pr ws,d=.pay pr ws→ws.length≤1000)→Q (dv d a) H') :
  Aj defs anc (n+2) "_law_deed" [.int c,.ref p,.int k] Q X H:=by
 have hq':∀d H',Ext H H'→CP d=false→DOk H' d 0→Q (dv d 0) H':=fun d H' hE np ok=>hq d 0 H' hE ok (fun z=>by rw[np] at z;cases z) fun pr ws e=>by subst e;cases np
 refine Ao h5 rfl ?_
 simp only[Bh]
 (simp only[List.map_cons,List.map_nil,List.length_cons,List.length_nil,Nat.reduceAdd,Nat.reduceSub,List.replicate,List.cons_append,List.nil_append,Ae,sS,sZ,Ag,A6,A8,A9,A3,gZ,A0,true_and])
 refine CO h1 fun m m0 m1=>?_
 dsimp only[A4]
 (simp only[Ae,sS,sZ,Ag,A6,A8,A9,A3,gZ,A0,true_and,gS])
 refine CO h1 fun m' ξ ξ=>?_
 refine GC h2 hp hl fun v H₁ E1=>?_
 dsimp only[A4]
 (simp only[Ae,sS,sZ,Ac,Ah,A9,A3,gS,gZ,A0,Bi,Bu,AE,A6,A8,GV,AQ,Dv,CW])
 refine⟨⟨by decide,by decide⟩,by decide,⟨by decide,by decide⟩,by decide,⟨by decide,by decide⟩,by decide,Nat.le_of_ble_eq_true rfl,fun b hb=>⟨⟨by decide,by decide⟩,by decide,?_⟩⟩
 have E2:=fun o=>E1.trans (Ext.new (H:=H₁) o hb)
 refine Fy (L:=[m / 64 % 9,m / 64 % 60,0,-1,1000000000,1000000001,m / 64 % 4,1]) (Hp.set_self _ _ _) (by exact la [_] [] (.c 0) (.v 0) [.l (.c 0) (.v 0)] [1,1] rfl (em0 8 rfl)) (by simp;exact lb [_] [] (.v 0) (.c 8) [.b (.v 0) (.c 8)] [1,1] rfl (em1 8 rfl)) (by simp) fun cn ξ=>?_
 replace E2:=E2 (.list [V.int (m / 64 % 9),V.int (m / 64 % 60),V.int 0,V.int (-1),V.int 1000000000,V.int (1000000000+1),V.int (m / 64 % 4),V.int 1])
 dsimp only[A4]
 (simp only[Ae,sS,sZ,Ah,A9,A3,gZ,A0,Bu])
 refine⟨by decide,?_⟩
 generalize H₁.set b (.list [V.int (m / 64 % 9),V.int (m / 64 % 60),V.int 0,V.int (-1),V.int 1000000000,V.int (1000000000+1),V.int (m / 64 % 4),V.int 1])=H₂ at E2 ⊢
 have hp2:=E2 _ _ hp
 have finA:∀(y:Int) (F:Addr) (H₃:Hp),0≤y→y≤62→Ext H₂ H₃→H₂ F=none→H₃ F=some (.list [])→A4 ⟨Aj defs anc (n+1),anc⟩ false (((Bh.body.drop 4).blk.drop 3).app (Bh.body.drop 5)) (fun ξ H₁=>Q .none H₁) Q (fun c ξ H₁=>X c H₁) [some (.int c),some (.ref p),some (.int k),some (.int m),some (.int v),some (.int cn),some (.int (c % 12)),some (.ref F),some (.int y),none,none,none,none,none] H₃:=fun y F H₃ y0 y1 E3 nF eF=>by
  have hp3:=E3 _ _ hp2
  dsimp only[A4]
  simp only[Bh,Sts.drop,Sts.blk,A7,Aa]
  refine AC ⟨rfl,?_⟩
  (simp only[F5,A3,gS,gZ,A0,HI])
  refine⟨⟨by exact lb [_] [] (.c (-4611686018427387904)) (.v 0) [.l (.c 0) (.v 0)] [1,1] rfl y0,by exact lb [_] [] (.v 0) (.c 4611686018427387904) [.l (.v 0) (.c 62)] [1,1] rfl y1⟩,?_⟩
  rw[Bq]
  refine Av (I:=GivI H₂ F (fun x9=>[some (.int c),some (.ref p),some (.int k),some (.int m),some (.int v),some (.int cn),some (.int (c % 12)),some (.ref F),some (.int y),x9,none,none,none,none])) ?_ ?_ ?_ ⟨[],none,rfl,E3,eF,rfl⟩
  ·rintro as ρ H' _;exact BY
  ·rintro ρ H' ⟨ws,x9,rfl,E,eF,hlw⟩
   rw[List.length_range] at hlw
   have hlw':ws.length≤62:=by exact lA [_] [_,_] (.n 0) (.c 62) [.l (.v 0) (.c 62),.E (.n 0) (.n 1),.e (.t (.n 1)) (.v 0)] [1,1,1,1] rfl y1 hlw (tnE (a:=y) (y0))
   have pay:∀(z:Int) (H'':Hp),Ext H' H''→Q (.tup [.str (Str.ofString "paid"),.int z,.ref F]) H'':=fun z H'' E'=>hq (.pay z ws) F H'' ((E2.trans E).trans E') (E' _ _ eF) (fun ξ=>E2.no nF) fun pr us e=>by injection e with _ e;subst e;exact lA [] [_] (.n 0) (.c 1000) [.L (.n 0) (.c 62)] [1,1] rfl hlw'
   dsimp only[A4]
   (simp only[Ae,sS,sZ,Ar,A6,A8,Ah,A9,A3,gS,gZ,A0,Bi,Bu,true_and])
   rw[Ea eF (Ba ws)]
   (simp only[Be,O7])
   refine⟨⟨by decide,by decide⟩,by decide,?_⟩
   dsimp only[A4]
   (simp only[Ae,sS,sZ,Ar,A6,A8,Ah,Ac,Ab,My,A9,A3,gS,gZ,A0,Bu,C7,decide_eq_true_eq,true_and,AE,Bi])
   rw[Ea eF (Ba ws)]
   skip
   refine⟨⟨by decide,by decide⟩,Nat.le_of_ble_eq_true rfl,fun b2 hb2=>⟨by decide,?_⟩⟩
   have E4:=Ext.new (.list [V.int 40,V.int 120]) hb2
   refine Fy (L:=[40,120]) (Hp.set_self _ _ _) (by split <;> decide) (by split <;> decide) (by decide) fun u hu=>?_
   have eF4:=E4 _ _ eF
   generalize H'.set b2 (.list [V.int 40,V.int 120])=H₄ at E4 eF4 ⊢
   (simp only[Bu,Be,O7])
   refine⟨by simp only[List.mem_cons,List.not_mem_nil,or_false] at hu;omega,?_⟩
   have finB:∀z10 z11 z12:Int,A4 ⟨Aj defs anc (n+1),anc⟩ false (((Bh.body.drop 4).blk.drop 8).app (Bh.body.drop 5)) (fun ξ H₁=>Q .none H₁) Q (fun c ξ H₁=>X c H₁) [some (.int c),some (.ref p),some (.int k),some (.int m),some (.int v),some (.int cn),some (.int (c % 12)),some (.ref F),some (.int y),x9,some (.int z10),some (.int z11),some (.int z12),none] H₄:=fun z10 z11 z12=>by
    dsimp only[A4]
    simp only[Bh,Sts.drop,Sts.blk,A7,Aa]
    (simp only[Ae,sS,sZ,Ac,Ah,A9,A3,gS,gZ,A0,Bi,Bu,AE,A6,A8,Ar,true_and,Dv,CW])
    rw[Ea eF4 (Ba ws)]
    refine⟨Nat.le_of_ble_eq_true rfl,fun b3 hb3=>⟨⟨by decide,by decide⟩,by decide,?_⟩⟩
    refine Fy (L:=[z10,z12,z11,-1,1001,ws.sum]) (Hp.set_self _ _ _) (by exact la [_] [] (.c 0) (.v 0) [.l (.c 0) (.v 0)] [1,1] rfl (em0 6 rfl)) (by simp;exact lb [_] [] (.v 0) (.c 6) [.b (.v 0) (.c 6)] [1,1] rfl (em1 6 rfl)) (by simp) fun pr ξ=>?_
    dsimp only[A4]
    (simp only[Al,AI,A6,List.length_cons,A8,List.length_nil,Nat.reduceAdd,A3,gS,gZ,A0,Af])
    exact⟨Nat.le_of_ble_eq_true rfl,pay _ _ (E4.trans (.new _ hb3))⟩
   dsimp only[A4]
   (simp only[Ae,sS,sZ,Ah,A9,Ar,A6,A8,A3,gS,gZ,A0,true_and])
   rw[Ea eF4 (Ba ws)]
   (simp only[AQ])
   dsimp only[A4]
   (simp only[Ad,A7,Aa,Ab,A5,A9,Ar,A6,A8,A3,gS,gZ,A0,true_and])
   rw[Ea eF4 (Ba ws)]
   (simp only[DN,decide_eq_true_eq])
   refine AA (fun ξ=>?_) fun ξ=>finB _ _ _
   dsimp only[A4]
   (simp only[Ae,sS,sZ,Ah,A9,Ar,A6,A8,A3,gS,gZ,A0,true_and])
   rw[Ea eF4 (Ba ws)]
   (simp only[Be])
   exact finB _ _ _
  ·rintro as j bs ρ H' K e ⟨ws,x9,rfl,E,eF,hlw⟩ hK
   refine⟨_,rfl,?_⟩
   dsimp only[AN]
   (simp only[sS,sZ,BT,BV,A6,A8,Ag,Ah,A3,gS,gZ,A0,A9,AQ,true_and])
   rw[r_L eF]
   refine⟨⟨by decide,by decide⟩,?_⟩
   refine CO h1 fun m2 ξ ξ=>?_
   refine GC h2 (E _ _ hp2) hl fun u H'' E'=>?_
   rw[Bk (E' _ _ eF)]
   have hlj:as.length≤62:=by
    have:=congrArg List.length e
    rw[List.length_range,List.length_append] at this
    exact lA [_] [_,_,_] (.n 0) (.c 62) [.l (.v 0) (.c 62),.E (.n 1) (.a (.n 0) (.n 2)),.e (.t (.n 1)) (.v 0)] [1,1,-1,1] rfl y1 this (tnE (a:=y) (y0))
   refine⟨by rw[List.length_map,Ai];exact lB [] [_,_] (.n 0) (.c 16777216) [.E (.n 0) (.n 1),.L (.n 1) (.c 62)] [1,1,1] rfl hlw hlj,?_⟩
   dsimp only[A4]
   (simp only[AL])
   exact hK _ _ ⟨ws++[u],_,rfl,.setNew _ (E.trans E') nF,by rw[Hp.set_self,List.map_append];rfl,by rw[List.length_append,List.length_append,hlw];rfl⟩
 dsimp only[A4]
 (simp only[Ad,A7,Aa,Ab,A5,A9,A3,gS,gZ,A0,EG,decide_eq_true_eq])
 refine AA (fun ξ=>?_) fun ξ=>?_
 ·dsimp only[A4]
  (simp only[Ae,sS,sZ,AE,A8])
  refine⟨by decide,fun F hF=>?_⟩
  have fin:=fun y y0 y1=>finA y F _ y0 y1 (Ext.new (.list []) hF) hF (Hp.set_self _ _ _)
  dsimp only[A4]
  (simp only[Ae,sS,sZ,Ah,A9,A3,gS,gZ,A0,Bi,Bu])
  refine⟨⟨by decide,by decide⟩,by decide,?_⟩
  dsimp only[A4]
  (simp only[Ad,A7,Aa,Ab,A5,A9,Ah,A3,gS,gZ,A0,Bi,Bu,C7,decide_eq_true_eq])
  refine⟨⟨by decide,by decide⟩,by decide,AA (fun ξ=>?_) fun ξ=>fin _ (by exact la [_] [] (.c 0) (.v 0) [.l (.c 0) (.v 0)] [1,1] rfl (em0 7 rfl)) (by exact la [_] [] (.v 0) (.c 62) [.b (.v 0) (.c 7)] [1,1] rfl (em1 7 rfl))⟩
  dsimp only[A4]
  (simp only[Ae,sS,sZ,Ah,A9,A3,gS,gZ,A0,Bi,Bu,AQ])
  refine⟨⟨by decide,by decide⟩,by decide,fin _ (by exact la [_] [] (.c 0) (.a (.c 7) (.v 0)) [.l (.c 0) (.v 0)] [1,1] rfl (em0 56 rfl)) (by exact la [_] [] (.a (.c 7) (.v 0)) (.c 62) [.b (.v 0) (.c 56)] [1,1] rfl (em1 56 rfl))⟩
 dsimp only[A4]
 (simp only[Ad,A7,Aa,Ab,A5,A9,A3,gS,gZ,A0,EG,decide_eq_true_eq])
 refine AA (fun ξ=>?_) fun ξ=>?_
 ·dsimp only[A4]
  (simp only[Al,AI,A6,List.length_cons,A8,List.length_nil,Nat.reduceAdd,A3,gS,gZ,A0,Af])
  exact⟨Nat.le_of_ble_eq_true rfl,hq' (.mov false v cn) H₂ E2 rfl trivial⟩
 dsimp only[A4]
 (simp only[Ad,A7,Aa,Ab,A5,A9,A3,gS,gZ,A0,EG,decide_eq_true_eq])
 refine AA (fun ξ=>?_) fun ξ=>?_
 ·dsimp only[A4]
  (simp only[Al,AI,A6,List.length_cons,A8,List.length_nil,Nat.reduceAdd,A3,gS,gZ,A0,Af])
  exact⟨Nat.le_of_ble_eq_true rfl,hq' (.mov true v cn) H₂ E2 rfl trivial⟩
 dsimp only[A4]
 (simp only[Ad,A7,Aa,Ab,A5,A9,Ah,A3,gS,gZ,A0,Bu,C7,decide_eq_true_eq])
 refine⟨by decide,AA (fun ξ=>?_) fun ξ=>?_⟩
 ·dsimp only[A4]
  (simp only[Al,Ah,G4,A9,A3,gS,gZ,A0,Bi,Bu,CW,AI,A6,List.length_cons,A8,List.length_nil,Nat.reduceAdd,Ac,AE,Af])
  refine⟨Nat.le_of_ble_eq_true rfl,fun b2 hb2=>⟨⟨by decide,by decide⟩,by decide,?_⟩⟩
  refine OP (L:=H4) (Hp.set_self _ _ _) (by exact la [_] [] (.c 0) (.v 0) [.l (.c 0) (.v 0)] [1,1] rfl (em0 4 rfl)) (by show m / 16 % 4<4;exact lb [_] [] (.v 0) (.c 4) [.b (.v 0) (.c 4)] [1,1] rfl (em1 4 rfl)) (by decide) fun w hw=>⟨Nat.le_of_ble_eq_true rfl,Nat.le_of_ble_eq_true rfl,⟨by decide,by decide⟩,by decide,?_⟩
  refine s_toT (by exact la [_] [] (.c 0) (.v 0) [.l (.c 0) (.v 0)] [1,1] rfl (em0 4 rfl)) (by show m / 64 % 4≤3;exact la [_] [] (.v 0) (.c 3) [.b (.v 0) (.c 4)] [1,1] rfl (em1 4 rfl)) (by simp) ?_
  (simp only[P4,List.length_cons,List.length_nil,Nat.reduceAdd,List.cons_append,List.nil_append])
  have hl3:([V.int v,V.int cn,V.int 1].take (m / 64 % 4).toNat).length≤3:=List.length_take_le' _ _
  refine⟨by rw[Ai];exact lA [] [_] (.a (.c 1) (.n 0)) (.c 16777216) [.L (.n 0) (.c 3)] [1,1] rfl hl3,?_⟩
  have fin:=fun o=>hq' (.odd w ([v,cn,1].take (m / 64 % 4).toNat)) _ (E2.trans (Ext.new (H:=H₂) o hb2)) rfl hw
  simp only[I5,List.map_take] at fin
  exact fin _
 dsimp only[A4]
 (simp only[Ad,A7,Aa,Ab,A5,A9,A3,gS,gZ,A0,C7,decide_eq_true_eq])
 refine AA (fun ξ=>?_) fun ξ=>?_
 ·dsimp only[A4]
  (simp only[Al,AI,A6,List.length_cons,A8,List.length_nil,Nat.reduceAdd,Ac,Ah,A9,A3,gS,gZ,A0,Bu,AE,Bi,AQ,Af])
  refine⟨⟨by decide,by decide⟩,by decide,Nat.le_of_ble_eq_true rfl,fun b2 hb2=>⟨by decide,?_⟩⟩
  refine Fy (L:=[v,1+m / 16 % 60]) (Hp.set_self _ _ _) (by exact la [_] [] (.c 0) (.v 0) [.l (.c 0) (.v 0)] [1,1] rfl (em0 2 rfl)) (by simp;exact lb [_] [] (.v 0) (.c 2) [.b (.v 0) (.c 2)] [1,1] rfl (em1 2 rfl)) (by simp) fun u ξ=>?_
  exact⟨Nat.le_of_ble_eq_true rfl,hq' (.kin u) _ (E2.trans (.new _ hb2)) rfl trivial⟩
 dsimp only[A4]
 (simp only[Al,AI,A6,List.length_cons,A8,List.length_nil,Nat.reduceAdd,A3,gS,gZ,A0,Af])
 exact⟨Nat.le_of_ble_eq_true rfl,hq' (.kout v) H₂ E2 rfl trivial⟩
end
theorem Hy {H:Hp}{s:Str}{b g:Addr}{l:PL} (h1:H b=some (.list (lv l))) (h2:H g=some (.list (lv l))):veq Bd H (.tup [.str s,.ref b]) (.tup [.str s,.ref g])=some true:=by
 show CM (vb (.str s) (.str s)) (CM (veq 7 H (.ref b) (.ref g)) (some true))=some true
 rw[DS (m:=4) h1 h2,show vb (.str s) (.str s)=some (decide (s=s)) from rfl,decide_eq_true rfl];rfl
noncomputable def BK (hs l:PL) (vs ks:List Int):PL:=hs.map fun p=>if p.1∈ks then (p.1,p.2+(vs.count p.1:Int)-Au l p.1) else p
theorem FL (hs l:PL) (vs ks:List Int):(BK hs l vs ks).map (·.1)=hs.map (·.1):=by
 rw[BK,List.map_map]
 refine List.map_congr_left fun p ξ=>?_
 show (if p.1∈ks then (p.1,p.2+(vs.count p.1:Int)-Au l p.1) else p).1=p.1
 by_cases h:p.1∈ks
 ·rw[if_pos h]
 ·rw[if_neg h]
theorem JC (hs l:PL) (vs:List Int):BK hs l vs []=hs:=by
 rw[BK]
 have:(fun p:Int×Int=>if p.1∈([]:List Int) then (p.1,p.2+(vs.count p.1:Int)-Au l p.1) else p)=id:=by funext p;rw[if_neg (List.not_mem_nil)];rfl
 rw[this,List.map_id]
theorem IT {hs l:PL}{vs ks:List Int}{v c:Int} (hn:(hs.map (·.1)).Nodup) (hc:(v,c)∈hs):BI v (c+(vs.count v:Int)-Au l v) (BK hs l vs ks)=BK hs l vs (ks++[v]):=by
 rw[CJ (by rw[FL];exact hn) (by rw[FL];exact List.mem_map.mpr ⟨_,hc,rfl⟩),BK,BK,List.map_map]
 refine List.map_congr_left fun p hp=>?_
 show (if (if p.1∈ks then (p.1,p.2+(vs.count p.1:Int)-Au l p.1) else p).1=v then (v,c+(vs.count v:Int)-Au l v) else (if p.1∈ks then (p.1,p.2+(vs.count p.1:Int)-Au l p.1) else p))=if p.1∈ks++[v] then (p.1,p.2+(vs.count p.1:Int)-Au l p.1) else p
 have e1:(if p.1∈ks then (p.1,p.2+(vs.count p.1:Int)-Au l p.1) else p).1=p.1:=by
  by_cases h:p.1∈ks
  ·rw[if_pos h]
  ·rw[if_neg h]
 rw[e1]
 by_cases ev:p.1=v
 ·have ec:p.2=c:=by
   have h1:=Cs hn (show (v,p.2)∈hs by rw[←ev];exact hp)
   have h2:=Cs hn hc
   exact Option.some.inj (h1.symm.trans h2)
  rw[if_pos ev,if_pos (List.mem_append_right _ (by rw[ev];exact .head _)),ev,ec]
 ·rw[if_neg ev]
  by_cases h:p.1∈ks
  ·rw[if_pos h,if_pos (List.mem_append_left _ h)]
  ·rw[if_neg h,if_neg fun z=>by rcases List.mem_append.mp z with z | z;exact h z;exact ev (List.mem_singleton.mp z)]
theorem JD {hs l:PL}{vs ks:List Int} (h:∀p∈hs,p.1∈ks):BK hs l vs ks=Bf (AB hs vs) l:=by
 rw[Bf,AB,List.map_map]
 refine List.map_congr_left fun p hp=>?_
 exact if_pos (h p hp)
structure Law9 (defs:String→Option Fn):Prop where
 who:defs "_law_whole" = some B7
 row:defs "_law_row" = some CD
 lea:defs "_law_least" = some BQ
 wal:Same defs "_law_walked" DC
 chg:Same defs "_law_change" Cw
 exa:Same defs "_law_exact" D3
 unp:defs "_law_unpaid" = some Cv
 pai:defs "_law_paid" = some ES
 mov:defs "_law_moved" = some D1
 kin:defs "_law_kind" = some Ca
 rig:defs "_law_right" = some Cj
section
variable {defs:String→Option Fn}{anc:String→List String}{n:Nat}{Q:V→Hp→Prop}{X:String→Hp→Prop}{H:Hp}
theorem Ht {ρ:Loc}{K:Addr}{hs:PL}{t:Nat}{elt:Loc→(V→Hp→Prop)→Hp→Prop}{f:Int×Int→V} (hK:H K=some (.dict (hs.map kvI))) (hl:hs.length≤1000) (he:∀e∈hs,∀K',K' (f e) H→elt (ρ.set t (some (.int e.1))) K' H)
  (hq:∀a,H a=none→Q (.ref a) (H.set a (.list (hs.map f)))):MF (.ref K) (fun its w H₁=>AT (.one t) w ρ elt (fun ξ K' H₂=>K' true H₂) its [] (fun vs H₂=>Bb vs Q H₂) H₁) H:=by
 show ob1 (H K) False (fun ξ=>False) fun kvs=>_
 rw[hK]
 show AT (.one t) [(K,.dict (hs.map kvI))] ρ elt (fun ξ K' H₂=>K' true H₂) ((hs.map kvI).map fun p=>It.v (.int p.1)) [] (fun vs H₂=>Bb vs Q H₂) H
 rw[List.map_map]
 refine DG (fun e:Int×Int=>It.v (.int e.1)) f (AR hK) (by rw[Ai];exact lA [] [_] (.n 0) (.c 16777216) [.L (.n 0) (.c 1000)] [1,1] rfl hl) (fun e he'=>⟨_,rfl,he e he'⟩) ⟨by rw[List.length_map,Ai];exact lA [] [_] (.n 0) (.c 16777216) [.L (.n 0) (.c 1000)] [1,1] rfl hl,hq⟩
end
section
variable {defs:String→Option Fn}{anc:String→List String}{n:Nat}{Q:V→Hp→Prop}{X:String→Hp→Prop}{H:Hp}
inductive PaidI (H:Hp) (K:Addr) (hs l:PL) (vs:List Int) (ρ₀:Option V→Option V→Loc) (as:PL) (ρ:Loc) (H':Hp):Prop
 | mk (x7 x8:Option V) (e:ρ=ρ₀ x7 x8) (U:Upd H H' K (BK hs l vs (as.map (·.1))))
theorem Jw (D:Def8 defs) (L:Law9 defs) {K q b:Addr}{ps hs qs l:PL}{vs:List Int}{price:Int}{w:String} (G:Till ps) (hp:hs.Perm ps) (hK:H K=some (.dict (hs.map kvI))) (hv:H q=some (.list (vs.map V.int))) (hvl:vs.length≤1000) (hb:H b=some (.list (lv l))) (S:Step ps (.pay price vs) qs w l)
  (hq:∀hs' H',Upd H H' K hs'→hs'.Perm qs→Q (.bool true) H') :
  Aj defs anc (n+4) "_law_paid" [.ref K,.tup [.str (Str.ofString "paid"),.int price,.ref q],.tup [.str (Str.ofString w),.ref b]] Q X H:=by
 have hlh:hs.length≤10:=by rw[hp.length_eq];exact G.len
 have hpl:=G.len
 have hnh:(hs.map (·.1)).Nodup:=((hp.map _).nodup_iff).mpr G.nodup
 refine Ao L.pai rfl ?_
 simp only[ES]
 (simp only[List.map_cons,List.map_nil,List.length_cons,List.length_nil,Nat.reduceAdd,Nat.reduceSub,List.replicate,List.cons_append,List.nil_append,Ae,sS,sZ,Ag,A6,A8,A3,gS,gZ,A0,true_and])
 refine Iu L.unp G hp hK hv hvl fun H₁ E1=>?_
 dsimp only[A4]
 (simp only[Ad,A7,Aa,Ab,A5,Af,A3,gS,gZ,A0,MK])
 by_cases hd:Do ps price vs = ""
 rotate_left
 ·cases S with
  | ch h=>exact absurd h hd
  | pay h=>exact absurd h hd
  | ok h np=>cases np
  | no h e1 e2 e3 =>
   subst e3
   replace e2:w=CF (Do ps price vs):=e2
   subst e2
   have hne:Str.ofString (CF (Do ps price vs))≠Str.ofString "" := by
    cases GP hd with
    | sum e=>rw[e];decide
    | count e=>rw[e];decide
    | kind e=>rw[e];decide
    | little e=>rw[e];decide
   rw[decide_eq_false hne]
   refine AY rfl ?_
   dsimp only[A4]
   (simp only[Al,Ab,AI,A6,List.length_cons,A8,List.length_nil,Nat.reduceAdd,AE,A3,gS,gZ,A0])
   refine⟨by decide,fun g hg=>⟨by decide,?_⟩⟩
   have E2:=E1.trans (Ext.new (.list []) hg)
   rw[GU (Hy (l:=[]) (E2 _ _ hb) (Hp.set_self _ _ _))]
   exact hq hs _ (.same hK E2) (e1▸hp)
 have DO:=MD hd
 have GF:=G.full DO.put
 have hfl:=GF.len
 rw[hd,decide_eq_true (show Str.ofString (CF "")=Str.ofString "" by decide)]
 refine AK (by decide) ?_
 have lo:=DO.low
 have hi:=DO.top
 dsimp only[A4]
 (simp only[Ae,sS,sZ,Ah,Ac,A9,A3,gS,gZ,A0,AF,Ar,A6,A8,C4,true_and])
 rw[Ea (E1 _ _ hv) (Ba vs)]
 (simp only[Be])
 obtain⟨M,eM⟩:∃M:Nat,vs.sum-price=M:=⟨(vs.sum-price).toNat,by exact lq [_,_] [_] (.s (.v 0) (.v 1)) (.t (.n 0)) [.e (.t (.n 0)) (.s (.v 0) (.v 1)),.l (.s (.v 0) (.v 1)) (.t (.n 0))] [1,1,0] [1,-1,0] rfl (tnE (a:=vs.sum-price) (la [_,_] [] (.c 0) (.s (.v 0) (.v 1)) [.l (.v 1) (.v 0)] [1,1] rfl lo)) (tn0 (a:=vs.sum-price))⟩
 have eM':(vs.sum-price).toNat=M:=by exact lQ [_,_] [_,_] (.n 0) (.n 1) [.e (.s (.v 0) (.v 1)) (.t (.n 1)),.l (.s (.v 0) (.v 1)) (.t (.n 0)),.e (.t (.n 0)) (.s (.v 0) (.v 1))] [1,-1,0,-1] [1,1,0,1] rfl eM (tn0 (a:=vs.sum-price)) (tnE (a:=vs.sum-price) (la [_,_] [] (.c 0) (.s (.v 0) (.v 1)) [.l (.v 1) (.v 0)] [1,1] rfl lo))
 have hM:M≤1000:=by exact lA [_,_] [_] (.n 0) (.c 1000) [.l (.s (.v 0) (.v 1)) (.c 1000),.e (.s (.v 0) (.v 1)) (.t (.n 0))] [1,1,-1] rfl hi eM
 rw[eM]
 dsimp only[A4]
 (simp only[Ae,sS,sZ,Ar,A6,A8,Gp,AI,List.length_cons,List.length_nil,Nat.reduceAdd,Ah,BV,A3,Ac,A9,gZ,A0,true_and])
 refine Ht (f:=fun e=>pv (e.1,e.2+(vs.count e.1:Int))) (E1 _ _ hK) (by exact lA [] [_] (.n 0) (.c 1000) [.L (.n 0) (.c 10)] [1,1] rfl hlh) (fun e he K' hK'=>?_) fun a ha=>?_
 ·(simp only[sS,sZ,gS,gZ,A0,C4])
  rw[Ct (E1 _ _ hK)]
  refine⟨.int e.2,by rw[Ez,Cs hnh he];rfl,?_⟩
  rw[r_L (E1 _ _ hv)]
  refine⟨⟨by decide,by decide⟩,?_⟩
  rw[Ka (E1 _ _ hv)]
  refine⟨_,Kk _ _,?_⟩
  (simp only[AQ])
  exact⟨Nat.le_of_ble_eq_true rfl,hK'⟩
 have hperm:(AB hs vs).Perm (AB ps vs):=hp.map _
 have E2:=E1.trans (Ext.new (.list (hs.map fun e=>pv (e.1,e.2+(vs.count e.1:Int)))) ha)
 have ga:=Hp.set_self H₁ a (.list (hs.map fun e=>pv (e.1,e.2+(vs.count e.1:Int))))
 rw[show (hs.map fun e=>pv (e.1,e.2+(vs.count e.1:Int)))=(AB hs vs).map Bo by rw[AB,List.map_map];rfl] at E2 ga ⊢
 generalize H₁.set a (.list ((AB hs vs).map Bo))=H₂ at E2 ga ⊢
 rw[HX ga]
 refine⟨by rw[List.length_map,B6];exact lB [] [_] (.n 0) (.c 64) [.L (.n 0) (.c 10)] [1,1] rfl hlh,.inr ⟨AB hs vs,rfl,by rw[AS];exact hnh,fun fs g1 g2=>⟨by rw[List.length_map,g1.length_eq,B6,Ai];exact lA [] [_] (.n 0) (.c 16777216) [.L (.n 0) (.c 10)] [1,1] rfl hlh,fun F hF=>?_⟩⟩⟩
 have efs:fs=AB ps vs:=Du (g1.trans hperm) g2 GF.srt GF.nodup
 subst efs
 have E3:=E2.trans (Ext.new (.list (lv (AB ps vs))) hF)
 have gF:=Hp.set_self H₂ F (.list (lv (AB ps vs)))
 change A4 _ _ _ _ _ _ _ (H₂.set F (.list (lv (AB ps vs))))
 generalize H₂.set F (.list (lv (AB ps vs)))=H₃ at E3 gF ⊢
 have hb3:=E3 _ _ hb
 have hK3:=E3 _ _ hK
 dsimp only[A4]
 (simp only[Ae,sS,sZ,Ag,A6,A8,A3,gS,gZ,A0,Ar,true_and])
 rw[DB gF]
 refine⟨by rw[lv_length,Ai];exact lA [] [_] (.n 0) (.c 16777216) [.L (.n 0) (.c 60)] [1,1] rfl hfl,fun F2 hF2=>?_⟩
 have E4:=Ext.new (.list (lv (AB ps vs))) hF2
 dsimp only
 refine Gh D.h0 D.h1 D.h2 D.h3 (Hp.set_self _ _ _) (by exact lA [] [_] (.n 0) (.c 100) [.L (.n 0) (.c 60)] [1,1] rfl hfl) GF.val GF.cnt (fun h=>absurd ⟨by exact la [_,_] [_] (.c 0) (.t (.n 0)) [.l (.v 0) (.v 1),.e (.s (.v 1) (.v 0)) (.t (.n 0))] [1,1,1] rfl lo eM,by exact la [_,_] [_] (.t (.n 0)) (.c 1000) [.l (.s (.v 0) (.v 1)) (.c 1000),.e (.s (.v 0) (.v 1)) (.t (.n 0))] [1,1,-1] rfl hi eM⟩ h) fun ξ tr R H₅ T E5 hR0 hR I hf hn=>?_
 rw[Int.toNat_natCast] at T
 have E35:=E4.trans E5
 have gF5:=E35 _ _ gF
 have hlen:=T.len
 have hrl:tr.length≤1001:=by exact lA [] [_,_] (.n 0) (.c 1001) [.L (.n 1) (.c 60),.E (.n 0) (.a (.n 1) (.c 1))] [1,1,1] rfl hfl hlen
 dsimp only[A4]
 (simp only[Ad,A7,Aa,BO,A5,Ag,A6,A8,A3,gS,gZ,A0,true_and])
 refine Il L.who L.row L.lea L.wal hR I T gF5 hM (by exact lA [] [_] (.n 0) (.c 100) [.L (.n 0) (.c 60)] [1,1] rfl hfl) GF.val GF.cnt fun H₆ E6=>?_
 (simp only[A5])
 refine FK ?_
 have E36:=E35.trans E6
 have E06:=E3.trans E36
 have hR6:=E6 _ _ hR
 have I6:InH H₆ tr:=fun x hx=>E6 _ _ (I x hx)
 have gF6:=E6 _ _ gF5
 have hb6:=E36 _ _ hb3
 have lt:(AB ps vs).length<tr.length:=by exact lB [] [_,_] (.n 0) (.n 1) [.E (.n 1) (.a (.n 0) (.c 1))] [1,-1] rfl hlen
 have gl:=List.getElem?_eq_getElem lt
 have ml:=List.getElem_mem lt
 have er:Bp (tr.map (·.2)) (AB ps vs).length=tr[(AB ps vs).length].2:=T.row lt
 have hw:=T.rows _ ml
 obtain⟨z,hz⟩:=FA (l:=tr[(AB ps vs).length].2) (k:=M) (by exact lB [] [_,_] (.n 0) (.n 1) [.E (.n 1) (.a (.n 0) (.c 1))] [1,-1] rfl hw)
 have Fz:FT M (AB ps vs) z:=⟨tr,T,by rw[er];exact hz⟩
 have cell:∀(Q':V→Hp→Prop),Q' (ov z) H₆→wbc .len [.ref F] (fun v_1 H₁=>Ce (.ref R) v_1 (fun w H₂=>Ce w (.int (M:Int)) Q' H₂) H₁) H₆:=fun Q' h=>by
  rw[AO gF6,lv_length]
  exact Db hR6 gl hrl (HU (I6 _ ml) hz (by exact lA [_,_] [_,_] (.n 0) (.c 1001) [.l (.s (.v 0) (.v 1)) (.c 1000),.e (.s (.v 0) (.v 1)) (.t (.n 1)),.E (.n 0) (.a (.n 1) (.c 1))] [1,1,-1,1] rfl hi eM hw) h)
 dsimp only[A4]
 (simp only[Ad,A7,Aa,Ab,A5,BU,Ac,A3,gS,gZ,A0,Ar,A6,A8,true_and])
 refine cell _ ?_
 cases z with
 | none =>
  show BC .is .none .none _ _
  (simp only[Ia])
  cases S with
  | no h=>exact absurd hd h
  | pay h p vs' e x C e1 e2=>cases e;rw[eM'] at C;cases Fz.one C.few
  | ok h np=>cases np
  | ch h p vs' e f e1 e2 e3 =>
   subst e3
   subst e2
   dsimp only[A4]
   (simp only[Al,Ab,AI,A6,List.length_cons,A8,List.length_nil,Nat.reduceAdd,AE,Af,A3,gS,gZ,A0,Ad,A7,Aa,An,Ak,At,A5,Ac,Ar,true_and,Ag,A9,AF,Am,MK])
   refine⟨by decide,fun g hg=>⟨by decide,?_⟩⟩
   have E7:=E06.trans (Ext.new (.list []) hg)
   rw[GU (Hy (l:=[]) (E7 _ _ hb) (Hp.set_self _ _ _))]
   exact hq hs _ (.same hK E7) (e1▸hp)
 | some x =>
  show BC .is (.int x) .none _ _
  (simp only[Ib])
  refine IS ?_
  cases S with
  | no h=>exact absurd hd h
  | ch h p vs' e f e1 e2 e3=>cases e;rw[eM'] at f;cases f.one Fz
  | ok h np=>cases np
  | pay h p vs' e x' C e1 e2 hll =>
   cases e
   rw[eM'] at C
   cases Fz.one C.few
   subst e2
   obtain⟨hchg,hwor,hman⟩:=C.chg GF
   dsimp only[A4]
   (simp only[Ad,A7,Aa,An,Ak,At,Ab,A5,Ac,A3,gS,gZ,A0,Ar,A6,A8,true_and,Ag,A9,AF,Af,Am,MK])
   refine AY (by decide) ?_
   refine J4 L.who L.chg hb6 gF6 hchg GF.nodup GF.val GF.cnt hwor ?_
   refine cell _ ?_
   show BC .ne (.int (DK l)) (.int x) _ _
   rw[hman]
   (simp only[EN])
   refine AK (by decide) ?_
   dsimp only[A4]
   (simp only[Ad,A7,Aa,Ab,A5,Ag,A6,A8,A3,gS,gZ,A0,true_and,Ac,A9,AF])
   refine JJ L.exa hR6 I6 T gF6 hM (by exact lA [] [_] (.n 0) (.c 100) [.L (.n 0) (.c 60)] [1,1] rfl hfl) GF.val GF.cnt (by rw[er];exact hz) fun l' a' H₇ P' E7 ξ ha'=>?_
   obtain⟨_,rfl⟩:=Bv.one C ⟨tr,T,by rw[er];exact hz,P'⟩
   rw[I8 (E7 _ _ hb6) ha',decide_eq_true rfl]
   refine AK (by decide) ?_
   have E07:=E06.trans E7
   have gF7:=E7 _ _ gF6
   have nFK:F≠K:=fun e=>by rw[e,E2 _ _ hK] at hF;cases hF
   have nbK:b≠K:=fun e=>by rw[e,hK] at hb;cases hb
   dsimp only[A4]
   refine AC ⟨rfl,?_⟩
   (simp only[BB,A3,gS,gZ,A0])
   refine B2 gF7 ?_
   rw[GA]
   refine Av (I:=PaidI H₇ K hs l vs (fun x7 x8=>[some (.ref K),some (.tup [.str (Str.ofString "paid"),.int price,.ref q]),some (.tup [.str (Str.ofString "done"),.ref b]),some (.str (Str.ofString (CF ""))),some (.int M),some (.ref F),some (.ref R),x7,x8,none])) ?_ ?_ ?_ ⟨none,none,rfl,.same (by rw[List.map_nil,JC];exact E07 _ _ hK) (.refl _)⟩
   ·rintro as ρ H' ⟨x7,x8,rfl,U⟩;exact AR (U.oth _ _ nFK gF7)
   ·rintro ρ H' ⟨x7,x8,rfl,U⟩
    dsimp only[A4]
    (simp only[Al,CV])
    rw[JD (fun p hp'=>by rw[AS];exact ((hp.map _).mem_iff).mp (List.mem_map_of_mem hp'))] at U
    exact hq _ H' (.pre E07 U) (e1▸hperm.map _)
   ·rintro as y bs ρ H' K' e ⟨x7,x8,rfl,U⟩ hK'
    refine⟨_,rfl,?_⟩
    have hb8:=U.oth _ _ nbK (E07 _ _ hb)
    have hy:y∈AB ps vs:=by rw[e];simp
    obtain⟨y0,hy0,ey⟩:=List.mem_map.mp hy
    have hy0':y0∈hs:=(hp.mem_iff).mpr hy0
    dsimp only[AN]
    (simp only[sS,sZ,BS,Ac,A9,A3,gS,gZ,A0,CY,Ah,Ar,A6,A8,Em,Ab,A5,BB,AF,true_and,CX])
    refine B2 hb8 ?_
    rw[GA]
    refine Dp (fun e:Int×Int=>It.v (pv e)) (fun e=>decide (e.1=y.1)) (fun e=>V.int e.2) (AR hb8) l [] (by rw[List.length_nil,Ai];exact lA [] [_] (.a (.c 0) (.n 0)) (.c 16777216) [.L (.n 0) (.c 100)] [1,1] rfl hll) (fun e he=>⟨_,rfl,fun K' hK'=>?_,fun ξ K' hK'=>?_⟩) ⟨?_,fun s hsn=>?_⟩
    ·(simp only[sS,sZ,gS,gZ,A0,CY,C7])
     exact hK'
    ·(simp only[sS,sZ,gS,gZ,A0,CX])
     exact hK'
    ·rw[List.nil_append,List.length_map,Ai]
     exact Nat.le_trans (List.length_filter_le ..) (by exact lA [] [_] (.n 0) (.c 16777216) [.L (.n 0) (.c 100)] [1,1] rfl hll)
    ·rw[List.nil_append]
     dsimp only
     rw[Ea (Hp.set_self _ _ _) (ER (fun e:Int×Int=>e.2) _)]
     (simp only[Be])
     have U2:=U.ext (Ext.new (.list ((l.filter fun e=>decide (e.1=y.1)).map fun e=>V.int e.2)) hsn)
     rw[EI U2.at_,BR]
     have ll:(BK hs l vs (as.map (·.1))).length=hs.length:=by rw[BK,List.length_map]
     have st:BI y.1 (y.2-Au l y.1) (BK hs l vs (as.map (·.1)))=BK hs l vs ((as++[y]).map (·.1)):=by
      rw[List.map_append,←ey]
      exact IT hnh hy0'
     refine⟨by rw[List.length_map,ll,Ai];exact lB [] [_] (.n 0) (.c 16777216) [.L (.n 0) (.c 10)] [1,1] rfl hlh,?_⟩
     dsimp only[A4]
     (simp only[AL])
     change K' _ (Hp.set _ K (.dict ((BI y.1 (y.2-Au l y.1) (BK hs l vs (as.map (·.1)))).map kvI)))
     rw[st]
     exact hK' _ _ ⟨_,_,rfl,⟨fun x o n h=>by rw[Hp.set_ne _ n];exact U2.oth x o n h,Hp.set_self _ _ _⟩⟩
end
theorem Held.step {ps hs hs' qs l:PL}{d:Dc}{w w':String} (h:Held ps hs d w' hs') (hp:hs.Perm ps) (np:CP d=false) (S:Step ps d qs w l):w'=w∧l=[]∧hs'.Perm qs:=by
 cases S with
 | no g e1 e2 e3 =>
  cases h with
  | no _ f1 f2=>exact⟨f1.trans e2.symm,e3,by rw[f2,e1];exact hp⟩
  | ok h=>exact absurd h g
 | ch g p vs e=>subst e;cases np
 | pay g p vs e=>subst e;cases np
 | ok g _ gp gs e2 e3 =>
  cases h with
  | no h=>exact absurd g h
  | ok _ f1 f2=>exact⟨f1.trans e2.symm,e3,f2.trans gp.symm⟩
section
variable {defs:String→Option Fn}{anc:String→List String}{n:Nat}{Q:V→Hp→Prop}{X:String→Hp→Prop}{H:Hp}
theorem Jo (D:Def8 defs) (L:Law9 defs) {K a b:Addr}{ps hs qs l:PL}{d:Dc}{w:String} (G:Till ps) (hp:hs.Perm ps) (hK:H K=some (.dict (hs.map kvI))) (ok:DOk H d a) (hvl:∀p vs,d=.pay p vs→vs.length≤1000) (hb:H b=some (.list (lv l))) (S:Step ps d qs w l)
  (hq:∀hs' H',Upd H H' K hs'→hs'.Perm qs→Q (.bool true) H') :
  Aj defs anc (n+5) "_law_right" [.ref K,dv d a,.tup [.str (Str.ofString w),.ref b]] Q X H:=by
 have nbK:b≠K:=fun e=>by rw[e,hK] at hb;cases hb
 refine Ao L.rig rfl ?_
 simp only[Cj]
 (simp only[List.map_cons,List.map_nil,List.length_cons,List.length_nil,Nat.reduceAdd,Nat.reduceSub,List.replicate,List.cons_append,List.nil_append,Ad,A7,Aa,An,Ak,At,BO,A5,Cq,Ac,A9,A3,gS,gZ,A0,AF,Ab,Ar,A6,A8,Mv,EN,true_and])
 refine⟨true,G6,?_⟩
 refine FJ (AY (by decide) ⟨true,Dk hb,FK ?_⟩)
 have fin:∀w' hs' H',Upd H H' K hs'→Held ps hs d w' hs'→CP d=false→A4 ⟨Aj defs anc (n+4),anc⟩ false (Cj.body.drop 5) (fun ξ H₁=>Q .none H₁) Q (fun c ξ H₁=>X c H₁) [some (.ref K),some (dv d a),some (.tup [.str (Str.ofString w),.ref b]),some (.str (Str.ofString w'))] H':=fun w' hs' H' U h np=>by
  obtain⟨rfl,rfl,hp'⟩:=h.step hp np S
  dsimp only[A4]
  simp only[Cj,Sts.drop]
  (simp only[Al,Ab,AI,A6,List.length_cons,A8,List.length_nil,Nat.reduceAdd,AE,A3,gS,gZ,A0])
  refine⟨by decide,fun g hg=>⟨by decide,?_⟩⟩
  have E:=Ext.new (.list []) hg
  rw[GU (Hy (l:=[]) (E _ _ (U.oth _ _ nbK hb)) (Hp.set_self _ _ _))]
  exact hq hs' _ (U.ext E) hp'
 cases d with
 | pay p vs =>
  rw[JO]
  dsimp only[A4]
  (simp only[Ad,A7,Aa,Ab,A5,Af,Ac,A9,A3,gS,gZ,A0,Am,Ay,decide_eq_true_eq])
  refine AY trivial ?_
  dsimp only[A4]
  (simp only[Al,Ag,A6,A8,A3,gS,gZ,A0,true_and])
  exact Jw D L G hp hK ok (hvl p vs rfl) hb S hq
 | mov fe v c =>
  cases fe with
  | false =>
   rw[J0] at fin ⊢
   dsimp only[A4]
   (simp only[Ad,A7,Aa,Ab,A5,Af,Ac,A9,A3,gS,gZ,A0,Am,Ay,decide_eq_true_eq])
   refine AK (by decide) ?_
   dsimp only[A4]
   (simp only[Ae,sS,sZ,Af])
   dsimp only[A4]
   (simp only[Ad,A7,Aa,An,Ak,At,Ab,A5,Af,Ac,A9,A3,gS,gZ,A0,Am,Ay,decide_eq_true_eq])
   refine AK (by decide) (AY trivial ?_)
   dsimp only[A4]
   (simp only[Ae,sS,sZ,Ag,A6,A8,A3,gS,gZ,A0,true_and])
   refine Gy (a:=a) (fe:=false) (v:=v) (c:=c) L.mov G hp hK fun w' hs' H' U h=>?_
   dsimp only[A4]
   (simp only[Ad,A7,Aa,An,Ak,At,Ab,A5,Af,Ac,A9,A3,gS,gZ,A0,Am,Ay,decide_eq_true_eq])
   refine AY (by decide) (AK (by decide) ?_)
   exact fin w' hs' H' U h rfl
  | true =>
   rw[IZ] at fin ⊢
   dsimp only[A4]
   (simp only[Ad,A7,Aa,Ab,A5,Af,Ac,A9,A3,gS,gZ,A0,Am,Ay,decide_eq_true_eq])
   refine AK (by decide) ?_
   dsimp only[A4]
   (simp only[Ae,sS,sZ,Af])
   dsimp only[A4]
   (simp only[Ad,A7,Aa,An,Ak,At,Ab,A5,Af,Ac,A9,A3,gS,gZ,A0,Am,Ay,decide_eq_true_eq])
   refine AY (by decide) (AY trivial ?_)
   dsimp only[A4]
   (simp only[Ae,sS,sZ,Ag,A6,A8,A3,gS,gZ,A0,true_and])
   refine Gy (a:=a) (fe:=true) (v:=v) (c:=c) L.mov G hp hK fun w' hs' H' U h=>?_
   dsimp only[A4]
   (simp only[Ad,A7,Aa,An,Ak,At,Ab,A5,Af,Ac,A9,A3,gS,gZ,A0,Am,Ay,decide_eq_true_eq])
   refine AY (by decide) (AK (by decide) ?_)
   exact fin w' hs' H' U h rfl
 | kin v =>
  rw[Ki] at fin ⊢
  dsimp only[A4]
  (simp only[Ad,A7,Aa,Ab,A5,Af,Ac,A9,A3,gS,gZ,A0,Am,Ay,decide_eq_true_eq])
  refine AK (by decide) ?_
  dsimp only[A4]
  (simp only[Ae,sS,sZ,Af])
  dsimp only[A4]
  (simp only[Ad,A7,Aa,An,Ak,At,Ab,A5,Af,Ac,A9,A3,gS,gZ,A0,Am,Ay,decide_eq_true_eq])
  refine AY (by decide) (AK (by decide) ?_)
  dsimp only[A4]
  (simp only[Ad,A7,Aa,An,Ak,At,Ab,A5,Af,Ac,A9,A3,gS,gZ,A0,Am,Ay,decide_eq_true_eq])
  refine AK (by decide) (AY trivial ?_)
  dsimp only[A4]
  (simp only[Ae,sS,sZ,Ag,A6,A8,A3,gS,gZ,A0,true_and])
  refine Mg (a:=a) (v:=v) L.kin G hp hK fun w' hs' H' U h=>?_
  exact fin w' hs' H' U h rfl
 | kout v =>
  rw[I4] at fin ⊢
  dsimp only[A4]
  (simp only[Ad,A7,Aa,Ab,A5,Af,Ac,A9,A3,gS,gZ,A0,Am,Ay,decide_eq_true_eq])
  refine AK (by decide) ?_
  dsimp only[A4]
  (simp only[Ae,sS,sZ,Af])
  dsimp only[A4]
  (simp only[Ad,A7,Aa,An,Ak,At,Ab,A5,Af,Ac,A9,A3,gS,gZ,A0,Am,Ay,decide_eq_true_eq])
  refine AY (by decide) (AK (by decide) ?_)
  dsimp only[A4]
  (simp only[Ad,A7,Aa,An,Ak,At,Ab,A5,Af,Ac,A9,A3,gS,gZ,A0,Am,Ay,decide_eq_true_eq])
  refine AY (by decide) (AY trivial ?_)
  dsimp only[A4]
  (simp only[Ae,sS,sZ,Ag,A6,A8,A3,gS,gZ,A0,true_and])
  refine KT (a:=a) (v:=v) L.kin G hp hK fun w' hs' H' U h=>?_
  exact fin w' hs' H' U h rfl
 | odd w0 r =>
  have hw:w0∈H4:=ok
  have nw:∀x∈["paid", "brought", "fetched", "in", "out"],Str.ofString w0≠Str.ofString x:=by
   simp only[H4,List.mem_cons,List.not_mem_nil,or_false] at hw
   rcases hw with rfl | rfl | rfl | rfl <;> decide
  rw[I5] at fin ⊢
  dsimp only[A4]
  (simp only[Ad,A7,Aa,Ab,A5,Af,Ac,A9,A3,gS,gZ,A0,Am,Ay,decide_eq_true_eq])
  refine AK (nw _ (by simp)) ?_
  dsimp only[A4]
  (simp only[Ae,sS,sZ,Af])
  dsimp only[A4]
  (simp only[Ad,A7,Aa,An,Ak,At,Ab,A5,Af,Ac,A9,A3,gS,gZ,A0,Am,Ay,decide_eq_true_eq])
  refine AY (decide_eq_false (nw _ (by simp))) (AK (nw _ (by simp)) ?_)
  dsimp only[A4]
  (simp only[Ad,A7,Aa,An,Ak,At,Ab,A5,Af,Ac,A9,A3,gS,gZ,A0,Am,Ay,decide_eq_true_eq])
  refine AY (decide_eq_false (nw _ (by simp))) (AK (nw _ (by simp)) ?_)
  exact fin _ hs H (.same hK (.refl _)) (.no (by show "NoDeed" ≠ "";decide) (by show "no deed" = CF "NoDeed";decide) rfl) rfl
end
theorem Step.len {ps qs l:PL}{d:Dc}{w:String} (S:Step ps d qs w l):l.length≤100:=by
 cases S with
 | no h e1 e2 e3=>subst e3;decide
 | ch h p vs e f e1 e2 e3=>subst e3;decide
 | pay h p vs e x C e1 e2 hl=>exact hl
 | ok h np hp hs e2 e3=>subst e3;decide
theorem Days.lens {ps qs:PL}{ds:List Dc}{as:List (String×PL)} (D:Days ps ds qs as):∀x∈as,x.2.length≤100:=by
 induction D with
 | nil=>exact nofun
 | snoc a S ih =>
  intro x hx
  rcases List.mem_append.mp hx with h | h
  ·exact ih x h
  ·rw[List.mem_singleton] at h;subst h;exact S.len
theorem MY {H:Hp}{m:Nat}:∀ {as bs:List Aw},as.map awc=bs.map awc→(∀y∈as,H y.2.2=some (.list (lv y.2.1)))→(∀y∈bs,H y.2.2=some (.list (lv y.2.1)))→BE (veq (m+4) H) (as.map av) (bs.map av)=some true:=by
 intro as
 induction as with
 | nil =>
  intro bs e _ _
  cases bs with
  | nil=>rfl
  | cons b bs=>cases e
 | cons a as ih =>
  intro bs e h1 h2
  cases bs with
  | nil=>cases e
  | cons b bs =>
   rw[List.map_cons,List.map_cons] at e
   injection e with e e'
   have ea:a.1=b.1:=congrArg (fun z:String×PL=>z.1) e
   have eb:a.2.1=b.2.1:=congrArg (fun z:String×PL=>z.2) e
   have g1:=h1 a (.head _)
   have g2:=h2 b (.head _)
   rw[eb] at g1
   show CM (CM (vb (.str (Str.ofString a.1)) (.str (Str.ofString b.1))) (CM (veq (m+3) H (.ref a.2.2) (.ref b.2.2)) (some true))) (BE (veq (m+4) H) (as.map av) (bs.map av))=some true
   rw[ih e' (fun y hy=>h1 y (.tail _ hy)) (fun y hy=>h2 y (.tail _ hy)),DS g1 g2,ea,show vb (.str (Str.ofString b.1)) (.str (Str.ofString b.1))=some (decide (Str.ofString b.1=Str.ofString b.1)) from rfl,decide_eq_true rfl];rfl
theorem F0 {H:Hp}{m:Nat}{p q:Addr}{as bs:List Aw} (hp:H p=some (.list (as.map av))) (hq:H q=some (.list (bs.map av))) (e:as.map awc=bs.map awc) (h1:∀y∈as,H y.2.2=some (.list (lv y.2.1))) (h2:∀y∈bs,H y.2.2=some (.list (lv y.2.1))):veq (m+5) H (.ref p) (.ref q)=some true :=
 (CI hp hq).trans (MY e h1 h2)
section
variable {Q:List V→Hp→Prop}{H:Hp}
theorem GR {ρ:Loc}{elt:Loc→(V→Hp→Prop)→Hp→Prop}{i:Nat}{p:Addr}{all:List Aw} (hp:H p=some (.list (all.map av))) (hll:all.length≤1000)
  (helt:∀K H₂ (y:Aw),y∈all→H₂ y.2.2=some (.list (lv y.2.1))→(∀a,H₂ a=none→K (.tup [.str (Str.ofString y.1),.ref a]) (H₂.set a (.list (lv y.2.1))))→elt (ρ.set i (some (av y))) K H₂)
  (hat:∀y∈all,H y.2.2=some (.list (lv y.2.1)))
  (hq:∀(cs:List Aw) H',Ext H H'→cs.map awc=all.map awc→(∀y∈cs,H y.2.2=none∧H' y.2.2=some (.list (lv y.2.1)))→Q (cs.map av) H') :
  AT (.one i) [(p,.list (all.map av))] ρ elt (fun ξ K H₂=>K true H₂) ((all.map av).map It.v) [] Q H:=by
 have go:∀(rest done:List Aw) (cs:List Aw) (H':Hp),all=done++rest→Ext H H'→cs.map awc=done.map awc→(∀y∈cs,H y.2.2=none∧H' y.2.2=some (.list (lv y.2.1)))→AT (.one i) [(p,.list (all.map av))] ρ elt (fun ξ K H₂=>K true H₂) ((rest.map av).map It.v) (cs.map av) Q H':=by
  intro rest
  induction rest with
  | nil =>
   intro done cs H' e hE hc hf
   rw[List.append_nil] at e
   exact⟨AR (hE _ _ hp),hq cs H' hE (by rw[hc,e]) hf⟩
  | cons y rest ih =>
   intro done cs H' e hE hc hf
   have hy:y∈all:=by rw[e];simp
   have hl:cs.length≤1000:=by
    have:=congrArg List.length hc
    rw[List.length_map,List.length_map] at this
    rw[e,List.length_append] at hll
    exact lA [] [_,_,_] (.n 0) (.c 1000) [.L (.a (.n 1) (.n 2)) (.c 1000),.E (.n 0) (.n 1)] [1,1,1] rfl hll this
   refine⟨AR (hE _ _ hp),by rw[List.length_map,Ai];exact lB [] [_] (.n 0) (.c 16777216) [.L (.n 0) (.c 1000)] [1,1] rfl hl,_,rfl,?_⟩
   show if true=true then _ else _
   refine Mm (helt _ H' y hy (hE _ _ (hat y hy)) fun a ha=>?_)
   have E':=Ext.new (.list (lv y.2.1)) ha
   have:=ih (done++[y]) (cs++[(y.1,y.2.1,a)]) (H'.set a (.list (lv y.2.1))) (by rw[e,List.append_assoc];rfl) (hE.trans E') (by rw[List.map_append,List.map_append,hc];rfl) fun z hz=>?_
   ·rw[List.map_append] at this;exact this
   ·rcases List.mem_append.mp hz with w | w
    ·exact⟨(hf z w).1,E' _ _ (hf z w).2⟩
    ·rw[List.mem_singleton] at w;subst w;exact⟨hE.no ha,Hp.set_self _ _ _⟩
 exact go all [] [] H rfl (.refl _) rfl nofun
end
section
variable {defs:String→Option Fn}{n:Nat}{Q:V→Hp→Prop}{X:String→Hp→Prop}{H Hd:Hp}
inductive AgI (H:Hp) (as:List Aw) (ρ₀:Option V→Loc) (js:List Nat) (ρ:Loc) (H':Hp):Prop
 | mk (x5:Option V) (e:ρ=ρ₀ x5) (oth:∀x o,(∀y∈as,x≠y.2.2)→H x=some o→H' x=some o) (rest:∀y∈as.drop js.length,H' y.2.2=some (.list (lv y.2.1)))
theorem JY (F:Def9 defs) (h5:defs "_law_again" = some Ed) {t C U N A:Addr}{ps qs:PL}{ys:List (Dc×Addr)}{as:List Aw} (G:Till ps) (D:DayA Hd H N A qs as) (DY:Days ps (ys.map (·.1)) qs (as.map awc))
  (ht:Hd t=some (.list (lv ps))) (hC:Hd C=some (.list (ys.map dvp))) (ok:∀y∈ys,DOk Hd y.1 y.2) (hl:ys.length≤100) (hU:H U=some (.list (lv qs))) (hUn:U≠N∧∀y∈as,U≠y.2.2) (hq:∀H',Ext Hd H'→Q (.bool true) H') :
  Aj defs ancT (n+9) "_law_again" [.ref t,.ref C,.tup [.ref N,.ref A],.ref U] Q X H:=by
 have hla:as.length=ys.length:=by have:=DY.len;rw[List.length_map,List.length_map] at this;exact this
 have hl100:∀y∈as,y.2.1.length≤100:=fun y hy=>DY.lens (awc y) (List.mem_map_of_mem hy)
 refine Ao h5 rfl ?_
 simp only[Ed]
 (simp only[List.map_cons,List.map_nil,List.length_cons,List.length_nil,Nat.reduceAdd,Nat.reduceSub,List.replicate,List.cons_append,List.nil_append,Ae,sS,sZ,Cu,AI,A6,A8,Ar,Ac,A9,A3,true_and,BB,gS,gZ,A0,AF])
 refine B2 D.eA ?_
 refine GR D.eA (by exact lA [] [_,_] (.n 0) (.c 1000) [.L (.n 1) (.c 100),.E (.n 0) (.n 1)] [1,1,1] rfl hl hla) (fun K H₂ y hy ey k=>?_) D.at_ fun cs H₁ E1 ec hc=>⟨by rw[List.length_map,Ai];have:=congrArg List.length ec;rw[List.length_map,List.length_map] at this;exact lA [] [_,_,_] (.n 0) (.c 16777216) [.L (.n 1) (.c 100),.E (.n 2) (.n 1),.E (.n 0) (.n 2)] [1,1,1,1] rfl hl hla this,fun kp hk=>?_⟩
 ·have hy100:=hl100 y hy
  show Iq (List.set _ 7 (some (av y)))[7]? _
  rw[av]
  (simp only[sS,sZ,gS,gZ,A0,AF,Am])
  rw[DB ey]
  exact⟨by rw[lv_length,Ai];exact lA [] [_] (.n 0) (.c 16777216) [.L (.n 0) (.c 100)] [1,1] rfl hy100,fun a ha=>⟨by decide,k a ha⟩⟩
 have hcl:cs.length=as.length:=by have:=congrArg List.length ec;rw[List.length_map,List.length_map] at this;exact this
 have E2:=E1.trans (Ext.new (.list (cs.map av)) hk)
 have gk:=Hp.set_self H₁ kp (.list (cs.map av))
 have hc2:∀y∈cs,H y.2.2=none∧(H₁.set kp (.list (cs.map av))) y.2.2=some (.list (lv y.2.1)):=fun y hy=>⟨(hc y hy).1,Ext.new _ hk _ _ (hc y hy).2⟩
 have nk:H kp=none:=E1.no hk
 generalize H₁.set kp (.list (cs.map av))=H₂ at E2 gk hc2 ⊢
 have nA:∀y∈as,A≠y.2.2:=fun y hy=>Ne.symm (D.new y hy).2.2
 have old:∀x o,Hd x=some o→∀y∈as,x≠y.2.2:=fun x o h y hy=>AJ h (D.new y hy).1
 have nkp:∀y∈as,kp≠y.2.2:=fun y hy=>Ne.symm (AJ (D.at_ y hy) nk)
 have ncs:∀z∈cs,∀y∈as,z.2.2≠y.2.2:=fun z hz y hy=>Ne.symm (AJ (D.at_ y hy) (hc2 z hz).1)
 dsimp only[A4]
 refine AC ⟨rfl,?_⟩
 (simp only[F5,Ar,A6,A8,A3,gS,gZ,A0,true_and])
 rw[AO gk,List.length_map]
 (simp only[HI])
 refine⟨⟨by exact lb [] [_] (.c (-4611686018427387904)) (.t (.n 0)) [] [1] rfl,by exact lb [] [_,_,_] (.t (.n 0)) (.c 4611686018427387904) [.L (.n 1) (.c 100),.E (.n 2) (.n 1),.E (.n 0) (.n 2)] [1,1,1,1] rfl hl hla hcl⟩,?_⟩
 rw[Int.toNat_natCast,Bq]
 refine Av (I:=AgI H₂ as (fun x5=>[some (.ref t),some (.ref C),some (.tup [.ref N,.ref A]),some (.ref U),some (.ref kp),x5,none,none])) ?_ ?_ ?_ ⟨none,rfl,fun x o ξ h=>h,fun y hy=>E2 _ _ (D.at_ y (List.mem_of_mem_drop hy))⟩
 ·rintro js ρ H' _;exact BY
 ·rintro ρ H' ⟨x5,rfl,oth,rest⟩
  have hN:H' N=some (.list (lv qs)):=oth _ _ (fun y hy=>Ne.symm (D.new y hy).2.1) (E2 _ _ D.eN)
  dsimp only[A4]
  (simp only[BT,BV,A8,Ac,A9,A3,gS,gZ,A0,Am])
  rw[r_L hN]
  refine⟨⟨by decide,by decide⟩,?_⟩
  rw[Nx hN]
  have far:∀x o,Hd x=some o→(H'.set N (.list [])) x=some o:=fun x o h=>by rw[Hp.set_ne _ (AJ h D.nN)];exact oth x o (old x o h) (E2 _ _ (D.ext _ _ h))
  have ht':=far _ _ ht
  have hC':=far _ _ hC
  have ok':∀y∈ys,DOk (H'.set N (.list [])) y.1 y.2:=fun y hy=>by
   have:=ok y hy
   obtain⟨d,a⟩:=y
   cases d with
   | pay p vs=>exact far _ _ this
   | _=>exact this
  have keep:∀x o,x≠N→(∀y∈as,x≠y.2.2)→H₂ x=some o→(H'.set N (.list [])) x=some o:=fun x o h1 h2 h=>by rw[Hp.set_ne _ h1];exact oth x o h2 h
  have gU:=keep _ _ hUn.1 hUn.2 (E2 _ _ hU)
  have gk':=keep _ _ (fun e=>by rw[e,D.eN] at nk;cases nk) nkp gk
  have gcs:∀z∈cs,(H'.set N (.list [])) z.2.2=some (.list (lv z.2.1)):=fun z hz=>keep _ _ (fun e=>by have:=(hc2 z hz).1;rw[e,D.eN] at this;cases this) (ncs z hz) (hc2 z hz).2
  generalize H'.set N (.list [])=H₃ at far ht' hC' ok' gU gk' gcs ⊢
  dsimp only[A4]
  (simp only[Ae,sS,sZ,Ag,A6,A8,A3,gS,gZ,A0,true_and])
  refine Fk F G ht' hC' ok' (by exact lA [] [_] (.n 0) (.c 1000) [.L (.n 0) (.c 100)] [1,1] rfl hl) fun N' A' qs' as' H₄ DY' D'=>?_
  obtain⟨rfl,eas⟩:=DY.one G _ _ _ _ _ DY'
  dsimp only[A4]
  (simp only[Al,An,Ak,At,Ab,A3,gS,gZ,A0,Ac,A9,AF,A5,Am])
  rw[MN D'.eN (D'.ext _ _ gU),decide_eq_true rfl]
  refine AY rfl ?_
  rw[GU (F0 (m:=3) D'.eA (D'.ext _ _ gk') (eas.symm.trans ec.symm) D'.at_ fun z hz=>D'.ext _ _ (gcs z hz))]
  exact hq H₄ fun x o h=>D'.ext _ _ (far x o h)
 ·rintro js j bs ρ H' K e ⟨x5,rfl,oth,rest⟩ hK
  obtain⟨rfl,hj⟩:=B5 e
  refine⟨_,rfl,?_⟩
  obtain⟨y,gy⟩:=FA (l:=as) (k:=js.length) (by exact lB [] [_,_,_] (.n 0) (.n 1) [.E (.n 2) (.n 1),.B (.n 0) (.n 2)] [1,1,1] rfl hcl hj)
  have my:=List.mem_of_getElem? gy
  have edr:as.drop js.length=y :: as.drop (js.length+1):=by
   have h:=List.getElem?_eq_some_iff.mp gy
   obtain⟨hlt,ey⟩:=h
   rw[List.drop_eq_getElem_cons hlt,ey]
  have hb:=rest y (by rw[edr];exact .head _)
  have hA':H' A=some (.list (as.map av)):=oth _ _ nA (E2 _ _ D.eA)
  have hy100:=hl100 y my
  have sub:∀z∈as.drop (js.length+1),z∈as:=fun z hz=>List.mem_of_mem_drop hz
  have nz:∀z∈as.drop (js.length+1),z.2.2≠y.2.2:=fun z hz e=>by
   have nd:((as.drop js.length).map (·.2.2)).Nodup:=D.nod.sublist ((List.drop_sublist _ _).map _)
   rw[edr,List.map_cons,List.nodup_cons] at nd
   exact nd.1 (List.mem_map.mpr ⟨z,hz,e⟩)
  dsimp only[AN]
  (simp only[sS,sZ,BT,BV,A6,A8,AI,List.length_cons,List.length_nil,Nat.reduceAdd,A9,Ac,A3,gS,gZ,A0,AF])
  rw[BJ hA']
  refine⟨js.length,av y,⟨by exact lb [] [_] (.c (-4611686018427387904)) (.t (.n 0)) [] [1] rfl,by exact lb [] [_,_,_,_] (.t (.n 0)) (.c 4611686018427387904) [.L (.n 1) (.c 100),.E (.n 2) (.n 1),.E (.n 3) (.n 2),.B (.n 0) (.n 3)] [1,1,1,1,1] rfl hl hla hcl hj⟩,Bz (by rw[List.length_map];exact lB [] [_,_,_] (.n 0) (.n 1) [.E (.n 2) (.n 1),.B (.n 0) (.n 2)] [1,1,1] rfl hcl hj),by rw[List.getElem?_map,gy];rfl,?_⟩
  rw[av]
  (simp only[AF])
  rw[r_L hb]
  refine⟨⟨by decide,by decide⟩,by decide,?_⟩
  rw[Bk hb]
  refine⟨by rw[lv_length,Ai];exact lB [] [_] (.n 0) (.c 16777216) [.L (.n 0) (.c 100)] [1,1] rfl hy100,?_⟩
  have oth3:∀x o,(∀y∈as,x≠y.2.2)→H₂ x=some o→(H'.set y.2.2 (.list (lv y.2.1++[V.tup [V.int 7,V.int 7]]))) x=some o:=fun x o h1 h2=>by rw[Hp.set_ne _ (h1 y my)];exact oth x o h1 h2
  have rest3:∀z∈as.drop (js.length+1),(H'.set y.2.2 (.list (lv y.2.1++[V.tup [V.int 7,V.int 7]]))) z.2.2=some (.list (lv z.2.1)):=fun z hz=>by rw[Hp.set_ne _ (nz z hz)];exact rest z (by rw[edr];exact .tail _ hz)
  generalize H'.set y.2.2 (.list (lv y.2.1++[V.tup [V.int 7,V.int 7]]))=H₃ at oth3 rest3 ⊢
  have hA3:=oth3 _ _ nA (E2 _ _ D.eA)
  dsimp only[A4]
  (simp only[Ad,A7,Aa,Ab,A5,Ft,Ah,A9,A3,gS,gZ,A0,AQ,CW,Cu,AI,A6,List.length_cons,A8,List.length_nil,Nat.reduceAdd,Ar,Ac,true_and,BB,AF])
  refine Jn hA3 (by exact la [] [_] (.c 0) (.a (.t (.n 0)) (.c 1)) [] [1] rfl) (by rw[List.length_map];exact la [] [_,_,_] (.a (.t (.n 0)) (.c 1)) (.t (.n 1)) [.E (.n 2) (.n 1),.B (.n 0) (.n 2)] [1,1,1] rfl hcl hj) (by rw[List.length_map,Ai];exact lA [] [_,_] (.n 0) (.c 16777216) [.L (.n 1) (.c 100),.E (.n 0) (.n 1)] [1,1,1] rfl hl hla) fun s1 hs1=>?_
  rw[show ((js.length:Int)+1).toNat=js.length+1 by exact lQ [] [_,_] (.n 0) (.a (.n 1) (.c 1)) [.l (.a (.t (.n 1)) (.c 1)) (.t (.n 0)),.e (.t (.n 0)) (.a (.t (.n 1)) (.c 1))] [1,0,-1] [1,0,1] rfl (tn0 (a:=(↑js.length:Int)+1)) (tnE (a:=(↑js.length:Int)+1) (la [] [_] (.c 0) (.a (.t (.n 0)) (.c 1)) [] [1] rfl)),←List.map_drop]
  have E4:=Ext.new (.list ((as.drop (js.length+1)).map av)) hs1
  have g1:=Hp.set_self H₃ s1 (.list ((as.drop (js.length+1)).map av))
  generalize H₃.set s1 (.list ((as.drop (js.length+1)).map av))=H₄ at E4 g1 ⊢
  refine B2 g1 ?_
  refine GR g1 (by rw[List.length_drop];exact lA [] [_,_,_] (.n 0) (.c 1000) [.L (.n 1) (.c 100),.E (.n 2) (.n 1),.L (.n 0) (.n 2)] [1,1,1,1] rfl hl hla (ns0 (a:=as.length) (b:=js.length+1))) (fun K H₂ z hz ez k=>?_) (fun z hz=>E4 _ _ (rest3 z hz)) fun ds H₅ E5 ed hd=>⟨by rw[List.length_map,Ai];have:=congrArg List.length ed;rw[List.length_map,List.length_map,List.length_drop] at this;exact lA [] [_,_,_,_] (.n 0) (.c 16777216) [.L (.n 1) (.c 100),.E (.n 2) (.n 1),.E (.n 0) (.n 3),.L (.n 3) (.n 2)] [1,1,1,1,1] rfl hl hla this (ns0 (a:=as.length) (b:=js.length+1)),fun l1 hl1=>?_⟩
  ·have hz100:=hl100 z (sub z hz)
   show Iq (List.set _ 7 (some (av z)))[7]? _
   rw[av]
   (simp only[sS,sZ,gS,gZ,A0,AF,Am])
   rw[DB ez]
   exact⟨by rw[lv_length,Ai];exact lA [] [_] (.n 0) (.c 16777216) [.L (.n 0) (.c 100)] [1,1] rfl hz100,fun a ha=>⟨by decide,k a ha⟩⟩
  have E6:=Ext.new (.list (ds.map av)) hl1
  have gl1:=Hp.set_self H₅ l1 (.list (ds.map av))
  have E36:=(E4.trans E5).trans E6
  have hd6:∀z∈ds,(H₅.set l1 (.list (ds.map av))) z.2.2=some (.list (lv z.2.1)):=fun z hz=>E6 _ _ (hd z hz).2
  generalize H₅.set l1 (.list (ds.map av))=H₆ at E6 gl1 E36 hd6 ⊢
  have gk6:=E36 _ _ (oth3 _ _ nkp gk)
  dsimp only
  refine Jn gk6 (by exact la [] [_] (.c 0) (.a (.t (.n 0)) (.c 1)) [] [1] rfl) (by rw[List.length_map];exact la [] [_,_] (.a (.t (.n 0)) (.c 1)) (.t (.n 1)) [.B (.n 0) (.n 1)] [1,1] rfl hj) (by rw[List.length_map,Ai];exact lA [] [_,_,_] (.n 0) (.c 16777216) [.L (.n 1) (.c 100),.E (.n 2) (.n 1),.E (.n 0) (.n 2)] [1,1,1,1] rfl hl hla hcl) fun s2 hs2=>?_
  rw[show ((js.length:Int)+1).toNat=js.length+1 by exact lQ [] [_,_] (.n 0) (.a (.n 1) (.c 1)) [.l (.a (.t (.n 1)) (.c 1)) (.t (.n 0)),.e (.t (.n 0)) (.a (.t (.n 1)) (.c 1))] [1,0,-1] [1,0,1] rfl (tn0 (a:=(↑js.length:Int)+1)) (tnE (a:=(↑js.length:Int)+1) (la [] [_] (.c 0) (.a (.t (.n 0)) (.c 1)) [] [1] rfl)),←List.map_drop]
  have E7:=Ext.new (.list ((cs.drop (js.length+1)).map av)) hs2
  rw[EV (F0 (m:=3) (E7 _ _ gl1) (Hp.set_self _ _ _) (by rw[ed,List.map_drop,List.map_drop,ec]) (fun z hz=>E7 _ _ (hd6 z hz)) fun z hz=>(E36.trans E7) _ _ (oth3 _ _ (ncs z (List.mem_of_mem_drop hz)) (hc2 z (List.mem_of_mem_drop hz)).2))]
  refine FK ?_
  dsimp only[A4]
  (simp only[AL])
  refine hK _ _ ⟨_,rfl,fun x o h1 h2=>(E36.trans E7) _ _ (oth3 x o h1 h2),fun z hz=>(E36.trans E7) _ _ (rest3 z ?_)⟩
  rw[List.length_append] at hz
  exact hz
end
section
variable {Q:V→Hp→Prop}{X:String→Hp→Prop}{H Hd:Hp}
theorem d8_9:Def8 Cb:=by constructor <;> first | rfl | (constructor <;> first | rfl | (constructor <;> rfl))
theorem d9:Def9 Cb:=⟨d8_9,rfl,rfl,rfl,rfl,rfl,rfl,rfl,rfl,rfl,rfl,rfl⟩
theorem l9:Law9 Cb:=⟨rfl,rfl,rfl,⟨_,_,rfl,rfl⟩,⟨_,_,rfl,rfl⟩,⟨_,_,rfl,rfl⟩,rfl,rfl,rfl,rfl,rfl⟩
structure End9 (Hd H:Hp) (t K D C f N A:Addr) (ps hs qs:PL) (xs ys:List (Dc×Addr)) (as:List Aw):Prop where
 till:Till ps
 day:DayA Hd H N A qs as
 days:Days ps (ys.map (·.1)) qs (as.map awc)
 ht:Hd t=some (.list (lv ps))
 hf:Hd f=some (.list (lv ps))
 hD:Hd D=some (.list (xs.map dvp))
 hC:Hd C=some (.list (ys.map dvp))
 okx:∀x∈xs,DOk Hd x.1 x.2
 oky:∀y∈ys,DOk Hd y.1 y.2
 lenv:∀x∈xs,∀p vs,x.1=.pay p vs→vs.length≤1000
 same:ys.map (·.1)=xs.map (·.1)
 len:xs.length≤100
 hK:H K=some (.dict (hs.map kvI))
 perm:hs.Perm qs
theorem End9.ext {H H' Hd:Hp}{t K D C f N A:Addr}{ps hs qs:PL}{xs ys:List (Dc×Addr)}{as:List Aw} (e:End9 Hd H t K D C f N A ps hs qs xs ys as) (E:Ext H H'):End9 Hd H' t K D C f N A ps hs qs xs ys as:={ e with day:=e.day.more E,hK:=E _ _ e.hK }
theorem Jm:Same Cb "_law_alike" D4:=⟨_,_,(rfl:Cb "_law_alike" = some Ec),rfl⟩
theorem Mc {n:Nat}{xsc:List Int}{t K D C f N A V5:Addr}{ps hs qs:PL}{xs ys:List (Dc×Addr)}{as:List Aw}{x3 x6 x7 x11 x12 x13 x14 x15 x16:Option V} (Z:End9 Hd H t K D C f N A ps hs qs xs ys as) (hq:∀H',Q (.bool true) H') :
  A4 ⟨Aj Cb ancT (n+9),ancT⟩ false (Bs.body.drop 15) (fun ξ H₁=>Q .none H₁) Q (fun c ξ H₁=>X c H₁) [some (.ro xsc),some (.ref t),some (.ref K),x3,some (.ref D),some (.ref V5),x6,x7,some (.ref C),some (.ref f),some (.tup [.ref N,.ref A]),x11,x12,x13,x14,x15,x16,none,none] H:=by
 have D9:=Z.day
 have Gq:=Z.days.till Z.till
 have hlh:hs.length≤10:=by rw[Z.perm.length_eq];exact Gq.len
 have hnh:(hs.map (·.1)).Nodup:=((Z.perm.map _).nodup_iff).mpr Gq.nodup
 have hly:ys.length=xs.length:=by have:=congrArg List.length Z.same;rwa [List.length_map,List.length_map] at this
 have hlen:=Z.len
 dsimp only[A4]
 simp only[Bs,Sts.drop]
 (simp only[Ae,sS,sZ,Ar,A6,A8,Gp,AI,List.length_cons,List.length_nil,Nat.reduceAdd,Ac,A3,gS,gZ,A0,true_and])
 refine Ht (f:=fun e=>pv e) Z.hK (by exact lA [] [_] (.n 0) (.c 1000) [.L (.n 0) (.c 10)] [1,1] rfl hlh) (fun e he K' hK'=>?_) fun a ha=>?_
 ·(simp only[sS,sZ,gS,gZ,A0])
  rw[Ct Z.hK]
  refine⟨.int e.2,by rw[Ez,Cs hnh he];rfl,?_⟩
  exact⟨Nat.le_of_ble_eq_true rfl,hK'⟩
 rw[HX (Hp.set_self _ _ _)]
 refine⟨by rw[List.length_map];exact lB [] [_] (.n 0) (.c 64) [.L (.n 0) (.c 10)] [1,1] rfl hlh,.inr ⟨hs,rfl,hnh,fun fs g1 g2=>⟨by rw[List.length_map,g1.length_eq,Ai];exact lA [] [_] (.n 0) (.c 16777216) [.L (.n 0) (.c 10)] [1,1] rfl hlh,fun U hU=>?_⟩⟩⟩
 have efs:fs=qs:=Du (g1.trans Z.perm) g2 Gq.srt Gq.nodup
 subst efs
 have E1:=(Ext.new (.list (hs.map Bo)) ha).trans (Ext.new (.list (fs.map Bo)) hU)
 have gU:=Hp.set_self (H.set a (.list (hs.map Bo))) U (.list (lv fs))
 have nU:H U=none:=(Ext.new (.list (hs.map Bo)) ha).no hU
 change A4 _ _ _ _ _ _ _ ((H.set a (.list (hs.map Bo))).set U (.list (lv fs)))
 replace E1:Ext H ((H.set a (.list (hs.map Bo))).set U (.list (lv fs))):=E1
 generalize (H.set a (.list (hs.map Bo))).set U (.list (lv fs))=H₁ at E1 gU ⊢
 have Z1:=Z.ext E1
 have hDl:=Z1.day.ext _ _ Z.hD
 dsimp only[A4]
 (simp only[Ad,A7,Aa,BO,A5,Ag,A6,A8,A3,gS,gZ,A0,Ac,A9,Am,true_and])
 refine J9 rfl Jm Z1.day.eN gU ?_
 (simp only[A5])
 refine FK ?_
 dsimp only[A4]
 (simp only[Ad,A7,Aa,Ab,A5,A9,Ar,A6,A8,A3,gS,gZ,A0,true_and])
 rw[AO hDl,List.length_map]
 (simp only[DN,decide_eq_true_eq])
 refine AA (fun ξ=>?_) fun ξ=>?_
 ·dsimp only[A4]
  (simp only[Al,CV])
  exact hq _
 dsimp only[A4]
 (simp only[Al,An,Ak,At,Ab,A3,gS,gZ,A0,Ag,A6,A8,true_and])
 refine JY d9 rfl Z.till Z1.day Z.days Z.hf Z.hC Z.oky (by exact lA [] [_,_] (.n 0) (.c 100) [.E (.n 0) (.n 1),.L (.n 1) (.c 100)] [1,1,1] rfl hly hlen) gU ⟨(fun e=>by rw[e,D9.eN] at nU;cases nU),fun y hy e=>by rw[e,D9.at_ y hy] at nU;cases nU⟩ fun H₂ E2=>?_
 (simp only[A5])
 rw[MN (E2 _ _ Z.hf) (E2 _ _ Z.ht),decide_eq_true rfl]
 exact hq _
theorem Md {n:Nat}{xsc:List Int}{t K D C f N A V5:Addr}{ps hs qs:PL}{xs ys:List (Dc×Addr)}{as:List Aw}{x3 x6 x7 x11 x12:Option V} (Z:End9 Hd H t K D C f N A ps hs qs xs ys as) (hq:∀H',Q (.bool true) H') :
  A4 ⟨Aj Cb ancT (n+9),ancT⟩ false (Bs.body.drop 12) (fun ξ H₁=>Q .none H₁) Q (fun c ξ H₁=>X c H₁) [some (.ro xsc),some (.ref t),some (.ref K),x3,some (.ref D),some (.ref V5),x6,x7,some (.ref C),some (.ref f),some (.tup [.ref N,.ref A]),x11,x12,none,none,none,none,none,none] H:=by
 have D9:=Z.day
 have Gq:=Z.days.till Z.till
 have hlen:=Z.len
 have hqs:=Gq.len
 have hla:as.length=xs.length:=by have:=Z.days.len;rw[List.length_map,List.length_map] at this;have e:=congrArg List.length Z.same;rw[List.length_map,List.length_map] at e;exact lQ [] [_,_,_] (.n 0) (.n 1) [.E (.n 0) (.n 2),.E (.n 2) (.n 1)] [1,-1,-1] [1,1,1] rfl this e
 have hl100:∀y∈as,y.2.1.length≤100:=fun y hy=>Z.days.lens (awc y) (List.mem_map_of_mem hy)
 dsimp only[A4]
 simp only[Bs,Sts.drop]
 (simp only[Ae,sS,sZ,AE,A6,A8,Cu,AI,List.length_cons,List.length_nil,Nat.reduceAdd,Ar,Ac,A9,A3,true_and,BB,gS,gZ,A0,AF,Am])
 rw[DB D9.eN]
 refine⟨by rw[lv_length,Ai];exact lA [] [_] (.n 0) (.c 16777216) [.L (.n 0) (.c 10)] [1,1] rfl hqs,fun n1 hn1=>?_⟩
 have E1:=Ext.new (.list (lv qs)) hn1
 have gn:=Hp.set_self H n1 (.list (lv qs))
 generalize H.set n1 (.list (lv qs))=H₁ at E1 gn ⊢
 dsimp only
 refine B2 (E1 _ _ D9.eA) ?_
 refine GR (E1 _ _ D9.eA) (by exact lA [] [_,_] (.n 0) (.c 1000) [.L (.n 1) (.c 100),.E (.n 0) (.n 1)] [1,1,1] rfl hlen hla) (fun K H₂ y hy ey k=>?_) (fun y hy=>E1 _ _ (D9.at_ y hy)) fun cs H₂ E2 ec hc=>⟨by rw[List.length_map,Ai];have:=congrArg List.length ec;rw[List.length_map,List.length_map] at this;exact lA [] [_,_,_] (.n 0) (.c 16777216) [.L (.n 1) (.c 100),.E (.n 2) (.n 1),.E (.n 0) (.n 2)] [1,1,1,1] rfl hlen hla this,fun kl hkl=>?_⟩
 ·have hy100:=hl100 y hy
  show Iq (List.set _ 12 (some (av y)))[12]? _
  rw[av]
  (simp only[sS,sZ,gS,gZ,A0,AF,Am])
  rw[DB ey]
  exact⟨by rw[lv_length,Ai];exact lA [] [_] (.n 0) (.c 16777216) [.L (.n 0) (.c 100)] [1,1] rfl hy100,fun a ha=>⟨by decide,k a ha⟩⟩
 have E3:=Ext.new (.list (cs.map av)) hkl
 have gkl:=Hp.set_self H₂ kl (.list (cs.map av))
 have gcs:∀z∈cs,(H₂.set kl (.list (cs.map av))) z.2.2=some (.list (lv z.2.1)):=fun z hz=>E3 _ _ (hc z hz).2
 have gn3:=E3 _ _ (E2 _ _ gn)
 have E03:=(E1.trans E2).trans E3
 generalize H₂.set kl (.list (cs.map av))=H₃ at E3 gkl gcs gn3 E03 ⊢
 refine⟨Nat.le_of_ble_eq_true rfl,fun kp hkp=>?_⟩
 have E4:=Ext.new (.list [V.ref n1,V.ref kl]) hkp
 have gkp:=Hp.set_self H₃ kp (.list [V.ref n1,V.ref kl])
 have E04:=E03.trans E4
 have gkl4:=E4 _ _ gkl
 have gn4:=E4 _ _ gn3
 have gcs4:∀z∈cs,(H₃.set kp (.list [V.ref n1,V.ref kl])) z.2.2=some (.list (lv z.2.1)):=fun z hz=>E4 _ _ (gcs z hz)
 generalize H₃.set kp (.list [V.ref n1,V.ref kl])=H₄ at E4 gkp E04 gkl4 gn4 gcs4 ⊢
 have fin:∀x14 x15 x16 H₅,Ext H₄ H₅→A4 ⟨Aj Cb ancT (n+9),ancT⟩ false (Bs.body.drop 14) (fun ξ H₁=>Q .none H₁) Q (fun c ξ H₁=>X c H₁) [some (.ro xsc),some (.ref t),some (.ref K),x3,some (.ref D),some (.ref V5),x6,x7,some (.ref C),some (.ref f),some (.tup [.ref N,.ref A]),x11,x12,some (.ref kp),x14,x15,x16,none,none] H₅:=fun x14 x15 x16 H₅ E5=>by
  have E05:=E04.trans E5
  dsimp only[A4]
  simp only[Bs,Sts.drop]
  (simp only[Ad,A7,Aa,Ab,A5,A3,gS,gZ,A0,AE,A6,A8,Ac,A9,AF,Am])
  refine⟨Nat.le_of_ble_eq_true rfl,fun m hm=>?_⟩
  have E6:=Ext.new (.list [V.ref N,V.ref A]) hm
  have E56:=E5.trans E6
  have E06:=E05.trans E6
  dsimp only
  rw[EV (two_eq (Hp.set_self _ _ _) (E56 _ _ gkp) (DS (m:=4) (E06 _ _ D9.eN) (E56 _ _ gn4)) (F0 (m:=2) (E06 _ _ D9.eA) (E56 _ _ gkl4) ec.symm (fun y hy=>E06 _ _ (D9.at_ y hy)) fun z hz=>E56 _ _ (gcs4 z hz)))]
  refine FK ?_
  exact Mc (Z.ext E06) hq
 have Z4:=Z.ext E04
 have hD4:=Z4.day.ext _ _ Z.hD
 dsimp only[A4]
 (simp only[Ad,A7,Aa,Ab,A5,A9,Ar,A6,A8,A3,gS,gZ,A0,true_and])
 rw[AO hD4,List.length_map]
 (simp only[EG,decide_eq_true_eq])
 refine AA (fun h16=>?_) fun ξ=>fin _ _ _ _ (.refl _)
 have G:=Z.till
 have hpl:=G.len
 have ht4:=Z4.day.ext _ _ Z.ht
 have okx4:∀x∈xs,DOk H₄ x.1 x.2:=fun x hx=>(Z.okx x hx).ext Z4.day.ext
 obtain⟨h,eh,hh⟩:∃h:Nat,(xs.length:Int) / 2=h∧h≤xs.length:=⟨((xs.length:Int) / 2).toNat,by exact lq [_] [_] (.v 0) (.t (.n 0)) [.e (.t (.n 0)) (.v 0),.l (.v 0) (.t (.n 0))] [1,1,0] [1,-1,0] rfl (tnE (a:=(↑xs.length:Int) / 2) (la [_] [_] (.c 0) (.v 0) [.b (.t (.n 0)) (.a (.m 2 (.v 0)) (.c 2))] [2,1] rfl (ed1 2 rfl))) (tn0 (a:=(↑xs.length:Int) / 2)),by exact lA [_] [_,_] (.n 0) (.n 1) [.e (.t (.n 0)) (.v 0),.l (.m 2 (.v 0)) (.t (.n 1))] [2,2,1] rfl (tnE (a:=(↑xs.length:Int) / 2) (la [_] [_] (.c 0) (.v 0) [.b (.t (.n 0)) (.a (.m 2 (.v 0)) (.c 2))] [2,1] rfl (ed1 2 rfl))) (ed0 2 rfl)⟩
 dsimp only[A4]
 (simp only[Ae,sS,sZ,Ah,A9,Ar,A6,A8,A3,gS,gZ,A0,true_and])
 rw[AO hD4,List.length_map]
 (simp only[Bi])
 refine⟨⟨by decide,by decide⟩,?_⟩
 rw[eh]
 dsimp only[A4]
 (simp only[Ae,sS,sZ,Ag,A6,A8,G4,A3,gS,gZ,A0,CW,true_and,Ar])
 rw[DB ht4]
 refine⟨by rw[lv_length,Ai];exact lA [] [_] (.n 0) (.c 16777216) [.L (.n 0) (.c 10)] [1,1] rfl hpl,fun t2 ht2=>?_⟩
 have E5:=Ext.new (.list (lv ps)) ht2
 have gt2:=Hp.set_self H₄ t2 (.list (lv ps))
 generalize H₄.set t2 (.list (lv ps))=H₅ at E5 gt2 ⊢
 dsimp only
 refine s_to (E5 _ _ hD4) (by exact la [] [_] (.c 0) (.t (.n 0)) [] [1] rfl) (by rw[List.length_map];exact la [] [_,_] (.t (.n 0)) (.t (.n 1)) [.L (.n 0) (.n 1)] [1,1] rfl hh) (by rw[List.length_map,Ai];exact lA [] [_] (.n 0) (.c 16777216) [.L (.n 0) (.c 100)] [1,1] rfl hlen) fun s1 hs1=>?_
 rw[Int.toNat_natCast,←List.map_take]
 have E6:=Ext.new (.list ((xs.take h).map dvp)) hs1
 have gs1:=Hp.set_self H₅ s1 (.list ((xs.take h).map dvp))
 have E46:=E5.trans E6
 have gt6:=E6 _ _ gt2
 generalize H₅.set s1 (.list ((xs.take h).map dvp))=H₆ at E6 gs1 E46 gt6 ⊢
 have tk:∀x∈xs.take h,x∈xs:=fun x hx=>List.mem_of_mem_take hx
 have dp:∀x∈xs.drop h,x∈xs:=fun x hx=>List.mem_of_mem_drop hx
 refine Eh rfl gs1 (fun x hx=>(okx4 x (tk x hx)).ext E46) (Nat.le_trans (List.length_take_le' _ _) (Nat.le_trans hlen (by decide))) (fun x hx=>Z.lenv x (tk x hx)) fun C1 ys1 H₇ E7 ξ gC1 ey1 ok1=>?_
 refine Fk d9 G (E7 _ _ gt6) gC1 ok1 (by have:=congrArg List.length ey1;rw[List.length_map,List.length_map] at this;rw[this];exact Nat.le_trans (List.length_take_le' _ _) (Nat.le_trans hlen (by decide))) fun N1 A1 q1 a1 H₈ DY1 DA1=>?_
 have E48:=(E46.trans E7).trans DA1.ext
 dsimp only[A4]
 (simp only[Ae,sS,sZ,Ag,A6,A8,Ft,A3,gS,gZ,A0,CW,true_and,Ac,A9,Am])
 refine Jn (E48 _ _ hD4) (by exact la [] [_] (.c 0) (.t (.n 0)) [] [1] rfl) (by rw[List.length_map];exact la [] [_,_] (.t (.n 0)) (.t (.n 1)) [.L (.n 0) (.n 1)] [1,1] rfl hh) (by rw[List.length_map,Ai];exact lA [] [_] (.n 0) (.c 16777216) [.L (.n 0) (.c 100)] [1,1] rfl hlen) fun s2 hs2=>?_
 rw[Int.toNat_natCast,←List.map_drop]
 have E9:=Ext.new (.list ((xs.drop h).map dvp)) hs2
 have gs2:=Hp.set_self H₈ s2 (.list ((xs.drop h).map dvp))
 have E49:=E48.trans E9
 have DA1:=DA1.more E9
 generalize H₈.set s2 (.list ((xs.drop h).map dvp))=H₉ at E9 gs2 E49 DA1 ⊢
 refine Eh rfl gs2 (fun x hx=>(okx4 x (dp x hx)).ext E49) (by rw[List.length_drop];exact lA [] [_,_] (.n 0) (.c 1000) [.L (.n 1) (.c 100),.L (.n 0) (.n 1)] [1,1,1] rfl hlen (ns0 (a:=xs.length) (b:=h))) (fun x hx=>Z.lenv x (dp x hx)) fun C2 ys2 H10 E10 ξ gC2 ey2 ok2=>?_
 have DA1:=DA1.more E10
 refine Fk d9 (DY1.till G) DA1.eN gC2 ok2 (by have:=congrArg List.length ey2;rw[List.length_map,List.length_map,List.length_drop] at this;exact lA [] [_,_,_] (.n 0) (.c 1000) [.L (.n 1) (.c 100),.E (.n 0) (.n 2),.L (.n 2) (.n 1)] [1,1,1,1] rfl hlen this (ns0 (a:=xs.length) (b:=h))) fun N2 A2 q2 a2 H11 DY2 DA2=>?_
 have DA1:=DA1.more DA2.ext
 have E411:=(E49.trans E10).trans DA2.ext
 have DY12:=DY1.app DY2
 rw[ey1,ey2,←List.map_append,List.take_append_drop,←Z.same] at DY12
 obtain⟨eq,eas⟩:=Z.days.one G _ _ _ _ _ DY12
 subst eq
 have l12:a1.length+a2.length=as.length:=by have:=congrArg List.length eas;rw[List.length_append,List.length_map,List.length_map,List.length_map] at this;exact lQ [] [_,_,_] (.a (.n 0) (.n 1)) (.n 2) [.E (.n 2) (.a (.n 0) (.n 1))] [1,1] [1,-1] rfl this
 dsimp only[A4]
 (simp only[Ad,A7,Aa,An,Ak,At,Ab,A5,Ac,A9,A3,gS,gZ,A0,Am,AF,Ah,JX])
 refine⟨_,_,DA1.eA,DA2.eA,by rw[List.length_append,List.length_map,List.length_map,Ai];exact lA [] [_,_,_,_] (.a (.n 0) (.n 1)) (.c 16777216) [.L (.n 2) (.c 100),.E (.n 3) (.n 2),.E (.a (.n 0) (.n 1)) (.n 3)] [1,1,1,1] rfl hlen hla l12,fun m hm=>?_⟩
 rw[←List.map_append]
 have E12:=Ext.new (.list ((a1++a2).map av)) hm
 have E412:=E411.trans E12
 dsimp only
 rw[EV (F0 (m:=3) (as:=a1++a2) (bs:=as) (Hp.set_self _ _ _) (E412 _ _ Z4.day.eA) (by rw[List.map_append];exact eas.symm) (fun y hy=>?_) fun y hy=>E412 _ _ (Z4.day.at_ y hy))]
 ·refine FJ ?_
  rw[I8 (E12 _ _ DA2.eN) (E412 _ _ Z4.day.eN),decide_eq_true rfl]
  refine FK ?_
  exact fin _ _ _ _ E412
 ·rcases List.mem_append.mp hy with k | k
  ·exact E12 _ _ (DA1.at_ y k)
  ·exact E12 _ _ (DA2.at_ y k)
end
theorem Gc {H:Hp}{m:Nat}{s:Str}:veq m H (.str s) (.str s)=some true:=by
 cases m with
 | zero=>show some (decide (s=s))=_;rw[decide_eq_true rfl]
 | succ m=>show some (decide (s=s))=_;rw[decide_eq_true rfl]
theorem Fo {H:Hp}{m:Nat}{s:Int}:veq m H (.int s) (.int s)=some true:=by
 cases m with
 | zero=>show some (decide (s=s))=_;rw[decide_eq_true rfl]
 | succ m=>show some (decide (s=s))=_;rw[decide_eq_true rfl]
theorem GY {H:Hp}{m:Nat} (r:List Int):BE (veq m H) (r.map V.int) (r.map V.int)=some true:=by
 induction r with
 | nil=>rfl
 | cons x r ih =>
  show CM (veq m H (.int x) (.int x)) (BE (veq m H) (r.map V.int) (r.map V.int))=_
  rw[Fo,ih];rfl
theorem Oe {H:Hp}{m:Nat}{d:Dc}{a b:Addr} (h1:DOk H d a) (h2:DOk H d b):veq (m+2) H (dv d a) (dv d b)=some true:=by
 cases d with
 | pay p vs =>
  show CM (veq (m+1) H (.str _) (.str _)) (CM (veq (m+1) H (.int p) (.int p)) (CM (veq (m+1) H (.ref a) (.ref b)) (some true)))=_
  rw[Gc,Fo,CI h1 h2,GY];rfl
 | mov fe v c =>
  show CM (veq (m+1) H (.str _) (.str _)) (CM (veq (m+1) H (.int v) (.int v)) (CM (veq (m+1) H (.int c) (.int c)) (some true)))=_
  rw[Gc,Fo,Fo];rfl
 | kin v =>
  show CM (veq (m+1) H (.str _) (.str _)) (CM (veq (m+1) H (.int v) (.int v)) (some true))=_
  rw[Gc,Fo];rfl
 | kout v =>
  show CM (veq (m+1) H (.str _) (.str _)) (CM (veq (m+1) H (.int v) (.int v)) (some true))=_
  rw[Gc,Fo];rfl
 | odd w r =>
  show CM (veq (m+1) H (.str _) (.str _)) (BE (veq (m+1) H) (r.map V.int) (r.map V.int))=_
  rw[Gc,GY];rfl
theorem MX {H:Hp}{m:Nat}:∀ {xs ys:List (Dc×Addr)},xs.map (·.1)=ys.map (·.1)→(∀x∈xs,DOk H x.1 x.2)→(∀y∈ys,DOk H y.1 y.2)→BE (veq (m+2) H) (xs.map dvp) (ys.map dvp)=some true:=by
 intro xs
 induction xs with
 | nil =>
  intro ys e _ _
  cases ys with
  | nil=>rfl
  | cons y ys=>cases e
 | cons x xs ih =>
  intro ys e h1 h2
  cases ys with
  | nil=>cases e
  | cons y ys =>
   rw[List.map_cons,List.map_cons] at e
   injection e with e e'
   have g2:=h2 y (.head _)
   rw[←e] at g2
   show CM (veq (m+2) H (dv x.1 x.2) (dv y.1 y.2)) (BE (veq (m+2) H) (xs.map dvp) (ys.map dvp))=_
   rw[←e,Oe (h1 x (.head _)) g2,ih e' (fun z hz=>h1 z (.tail _ hz)) fun z hz=>h2 z (.tail _ hz)];rfl
theorem Days.pre {ps qs:PL}{ds:List Dc}{as:List (String×PL)} (D:Days ps ds qs as):∀k,k≤ds.length→∃q,Days ps (ds.take k) q (as.take k):=by
 induction D with
 | nil=>intro k _;rw[List.take_nil,List.take_nil];exact⟨_,.nil _⟩
 | @snoc qs rs l ds as d w a S ih =>
  intro k hk
  have hl:=a.len
  rw[List.length_append,List.length_singleton] at hk
  rcases Nat.lt_or_ge ds.length k with c | c
  ·rw[List.take_of_length_le (by rw[List.length_append,List.length_singleton];exact lA [] [_,_] (.a (.n 0) (.c 1)) (.n 1) [.B (.n 0) (.n 1)] [1,1] rfl c),List.take_of_length_le (by rw[List.length_append,List.length_singleton];exact lA [] [_,_,_] (.a (.n 0) (.c 1)) (.n 1) [.E (.n 0) (.n 2),.B (.n 2) (.n 1)] [1,1,1] rfl hl c)]
   exact⟨_,.snoc a S⟩
  ·rw[List.take_append_of_le_length c,List.take_append_of_le_length (by exact lA [] [_,_,_] (.n 0) (.n 1) [.E (.n 1) (.n 2),.L (.n 0) (.n 2)] [1,-1,1] rfl hl c)]
   exact ih k c
theorem Days.at_ {ps qs q:PL}{ds:List Dc}{as:List (String×PL)} (G:Till ps) (D:Days ps ds qs as) {k:Nat}{d:Dc}{y:String×PL} (hd:ds[k]?=some d) (hy:as[k]?=some y) (P:Days ps (ds.take k) q (as.take k)):∃r,Step q d r y.1 y.2∧Days ps (ds.take (k+1)) r (as.take (k+1)):=by
 obtain⟨r,R⟩:=D.pre (k+1) (Ep hd)
 obtain⟨q',l,as',w,a,S,e⟩:=R.invS (Ek hd)
 rw[Ek hy] at e
 obtain⟨e1,e2⟩:=List.append_inj' e rfl
 injection e2 with e2 _
 subst e2
 rw[←e1] at a
 obtain⟨rfl,_⟩:=P.one G _ _ _ _ _ a
 exact⟨r,S,R⟩
theorem Lk {α β:Type} (f:α→V) (g:β→V):∀(xs:List α) (ys:List β),Ga (xs.map f) (ys.map g)=(xs.zip ys).map fun p=>It.p (f p.1) (g p.2):=by
 intro xs
 induction xs with
 | nil=>intro ys;rfl
 | cons x xs ih =>
  intro ys
  cases ys with
  | nil=>rfl
  | cons y ys=>show It.p (f x) (g y) :: Ga (xs.map f) (ys.map g)=_;rw[ih];rfl
noncomputable def Hp.del (H:Hp) (K:Addr):Hp:=fun x=>if x=K then none else H x
theorem Hp.del_some {H:Hp}{K x:Addr}{o:Ob} (h:H.del K x=some o):x≠K∧H x=some o:=by
 unfold Hp.del at h
 by_cases e:x=K
 ·rw[if_pos e] at h;cases h
 ·rw[if_neg e] at h;exact⟨e,h⟩
theorem Hp.del_ne {H:Hp}{K x:Addr} (h:x≠K):H.del K x=H x:=if_neg h
theorem Hp.del_none {H:Hp}{K x:Addr} (h:H x=none):H.del K x=none:=by
 unfold Hp.del
 by_cases e:x=K
 ·rw[if_pos e]
 ·rw[if_neg e];exact h
theorem Upd.trans {H H' H'':Hp}{K:Addr}{hs hs':PL} (a:Upd H H' K hs) (b:Upd H' H'' K hs'):Upd H H'' K hs':=⟨fun x o n h=>b.oth x o n (a.oth x o n h),b.at_⟩
theorem DOk.upd {H H':Hp}{K a:Addr}{hs hs0:PL}{d:Dc} (h:DOk H d a) (hK:H K=some (.dict (hs0.map kvI))) (U:Upd H H' K hs):DOk H' d a:=by
 cases d with
 | pay p vs=>exact U.oth _ _ (fun e=>by have h:H a=some (.list (vs.map V.int)):=h;rw[e,hK] at h;cases h) h
 | _=>exact h
section
variable {Q:V→Hp→Prop}{X:String→Hp→Prop}{H:Hp}
inductive RigI (H:Hp) (K:Addr) (ps:PL) (ds:List Dc) (ans:List (String×PL)) (ρ₀:Option V→Option V→Loc) (k:Nat) (ρ:Loc) (H':Hp):Prop
 | mk (x11 x12:Option V) (q hs:PL) (e:ρ=ρ₀ x11 x12) (d:Days ps (ds.take k) q (ans.take k)) (p:hs.Perm q) (U:Upd H H' K hs)
theorem Mb {n:Nat}{xsc:List Int}{t K D V5:Addr}{ps:PL}{xs:List (Dc×Addr)}{x3 x6 x7:Option V} (G:Till ps) (ht:H t=some (.list (lv ps))) (hK:H K=some (.dict (ps.map kvI))) (hD:H D=some (.list (xs.map dvp))) (okx:∀x∈xs,DOk H x.1 x.2) (lenv:∀x∈xs,∀p vs,x.1=.pay p vs→vs.length≤1000) (hlen:xs.length≤100) (hq:∀H',Q (.bool true) H') :
  A4 ⟨Aj Cb ancT (n+9),ancT⟩ false (Bs.body.drop 6) (fun ξ H₁=>Q .none H₁) Q (fun c ξ H₁=>X c H₁) [some (.ro xsc),some (.ref t),some (.ref K),x3,some (.ref D),some (.ref V5),x6,x7,none,none,none,none,none,none,none,none,none,none,none] H:=by
 have hpl:=G.len
 dsimp only[A4]
 simp only[Bs,Sts.drop]
 (simp only[Ae,sS,sZ,Ag,A6,A8,A3,gS,gZ,A0,true_and])
 refine Eh rfl hD okx (by exact lA [] [_] (.n 0) (.c 1000) [.L (.n 0) (.c 100)] [1,1] rfl hlen) lenv fun C ys H₁ E1 nC gC ey oky=>?_
 have hly:ys.length=xs.length:=by have:=congrArg List.length ey;rwa [List.length_map,List.length_map] at this
 dsimp only[A4]
 (simp only[Ae,sS,sZ,Ar,A6,A8,A3,gS,gZ,A0,true_and])
 rw[DB (E1 _ _ ht)]
 refine⟨by rw[lv_length,Ai];exact lA [] [_] (.n 0) (.c 16777216) [.L (.n 0) (.c 10)] [1,1] rfl hpl,fun f hf=>?_⟩
 have E2:=Ext.new (.list (lv ps)) hf
 have gf:=Hp.set_self H₁ f (.list (lv ps))
 have E02:=E1.trans E2
 generalize H₁.set f (.list (lv ps))=H₂ at E2 gf E02 ⊢
 have gC2:=E2 _ _ gC
 have oky2:∀y∈ys,DOk H₂ y.1 y.2:=fun y hy=>(oky y hy).ext E2
 have okx2:∀x∈xs,DOk H₂ x.1 x.2:=fun x hx=>(okx x hx).ext E02
 have ht2:=E02 _ _ ht
 have hD2:=E02 _ _ hD
 have hK2:=E02 _ _ hK
 dsimp only[A4]
 (simp only[Ae,sS,sZ,Ag,A6,A8,A3,gS,gZ,A0,true_and])
 refine Fk d9 G gf gC2 oky2 (by exact lA [] [_,_] (.n 0) (.c 1000) [.L (.n 1) (.c 100),.E (.n 0) (.n 1)] [1,1,1] rfl hlen hly) fun N A qs as H₃ DY DA=>?_
 have hla:as.length=xs.length:=by have:=DY.len;rw[List.length_map,List.length_map] at this;exact lQ [] [_,_,_] (.n 0) (.n 1) [.E (.n 2) (.n 1),.E (.n 0) (.n 2)] [1,-1,-1] [1,1,1] rfl hly this
 dsimp only[A4]
 (simp only[Ad,A7,Aa,An,Ak,At,Ab,A5,A9,Ar,A6,A8,A3,gS,gZ,A0,Mv,List.length_cons,List.length_nil,Nat.reduceAdd,EN,true_and,BO,Cq])
 rw[I8 (DA.ext _ _ gf) (DA.ext _ _ ht2),decide_eq_true rfl]
 refine FJ ?_
 rw[EV ((CI (m:=7) (DA.ext _ _ gC2) (DA.ext _ _ hD2)).trans (MX (m:=5) ey (fun y hy=>(oky2 y hy).ext DA.ext) fun x hx=>(okx2 x hx).ext DA.ext))]
 refine FJ ⟨true,G6,?_⟩
 refine FJ (AK (by decide) ?_)
 dsimp only[A4]
 (simp only[Ad,A7,Aa,An,Ak,At,Ab,A5,Ar,A6,A8,A3,gS,gZ,A0,true_and,Ac,A9,AF,BO,Cq])
 refine⟨true,Dk DA.eA,?_⟩
 refine FJ ?_
 rw[AO DA.eA,List.length_map]
 skip
 rw[AO (DA.ext _ _ hD2),List.length_map]
 (simp only[EN])
 rw[decide_eq_true (show (as.length:Int)=xs.length by exact lq [] [_,_] (.t (.n 0)) (.t (.n 1)) [.E (.n 0) (.n 1)] [1,-1] [1,1] rfl hla)]
 refine AK (by decide) ?_
 have nK:∀x o,H₃ x=some (.list o)→x≠K:=fun x o h e=>by rw[e,DA.ext _ _ hK2] at h;cases h
 dsimp only[A4]
 refine AC ⟨rfl,?_⟩
 (simp only[Oo,Ac,A9,A3,gS,gZ,A0,AF])
 refine zip_i (DA.ext _ _ hD2) DA.eA ?_
 rw[Lk]
 refine Av (I:=fun zs=>RigI H₃ K ps (xs.map (·.1)) (as.map awc) (fun x11 x12=>[some (.ro xsc),some (.ref t),some (.ref K),x3,some (.ref D),some (.ref V5),x6,x7,some (.ref C),some (.ref f),some (.tup [.ref N,.ref A]),x11,x12,none,none,none,none,none,none]) zs.length) ?_ ?_ ?_ ⟨none,none,ps,ps,rfl,.nil _,.refl _,.same (DA.ext _ _ hK2) (.refl _)⟩
 ·rintro zs ρ H' ⟨x11,x12,q,hs,rfl,d,p,U⟩ z hz
  simp only[List.mem_cons,List.not_mem_nil,or_false] at hz
  rcases hz with rfl | rfl
  ·exact U.oth _ _ (nK _ _ (DA.ext _ _ hD2)) (DA.ext _ _ hD2)
  ·exact U.oth _ _ (nK _ _ DA.eA) DA.eA
 ·rintro ρ H' ⟨x11,x12,q,hs,rfl,d,p,U⟩
  have lz:(xs.zip as).length=xs.length:=by rw[List.length_zip,hla,Nat.min_self]
  rw[lz,List.take_of_length_le (by rw[List.length_map];exact lA [] [_] (.n 0) (.n 0) [] [1] rfl),List.take_of_length_le (by rw[List.length_map];exact lA [] [_,_] (.n 0) (.n 1) [.E (.n 0) (.n 1)] [1,1] rfl hla),←ey] at d
  obtain⟨rfl,_⟩:=DY.one G _ _ _ _ _ d
  have far:∀x o,(H₂.del K) x=some o→H' x=some o:=fun x o h=>by
   obtain⟨h1,h2⟩:=Hp.del_some h
   exact U.oth _ _ h1 (DA.ext _ _ h2)
  have del:∀x l,H₂ x=some (.list l)→(H₂.del K) x=some (.list l):=fun x l h=>by rw[Hp.del_ne (nK _ _ (DA.ext _ _ h))];exact h
  have okd:∀d a,DOk H₂ d a→DOk (H₂.del K) d a:=fun d a h=>by
   cases d with
   | pay p vs=>exact del _ _ h
   | _=>exact h
  have DA':DayA (H₂.del K) H' N A qs as:=⟨far,Hp.del_none DA.nN,Hp.del_none DA.nA,U.oth _ _ (nK _ _ DA.eN) DA.eN,U.oth _ _ (nK _ _ DA.eA) DA.eA,DA.nAN,fun y hy=>⟨Hp.del_none (DA.new y hy).1,(DA.new y hy).2⟩,fun y hy=>U.oth _ _ (nK _ _ (DA.at_ y hy)) (DA.at_ y hy),DA.nod⟩
  exact Md (Hd:=H₂.del K) ⟨G,DA',DY,del _ _ ht2,del _ _ gf,del _ _ hD2,del _ _ gC2,fun x hx=>okd _ _ (okx2 x hx),fun y hy=>okd _ _ (oky2 y hy),lenv,ey,hlen,U.at_,p⟩ hq
 ·rintro zs z rs ρ H' K' e ⟨x11,x12,q,hs,rfl,d,p,U⟩ hK'
  refine⟨_,rfl,?_⟩
  have gz:(xs.zip as)[zs.length]?=some z:=by rw[e];simp
  obtain⟨g1,g2⟩:=List.getElem?_zip_eq_some.mp gz
  have m1:=List.mem_of_getElem? g1
  have m2:=List.mem_of_getElem? g2
  have DY':=DY
  rw[ey] at DY'
  obtain⟨r,S,d'⟩:=DY'.at_ G (k:=zs.length) (d:=z.1.1) (y:=awc z.2) (by rw[List.getElem?_map,g1];rfl) (by rw[List.getElem?_map,g2];rfl) d
  dsimp only[AN]
  rw[show av z.2=.tup [.str (Str.ofString z.2.1),.ref z.2.2.2] from rfl]
  (simp only[sS,sZ,Ad,A7,Aa,BO,A5,Ag,A6,A8,A3,gS,gZ,A0,true_and])
  refine Jo d8_9 l9 (d.till G) p U.at_ (((okx2 z.1 m1).ext DA.ext).upd (DA.ext _ _ hK2) U) (lenv z.1 m1) (U.oth _ _ (nK _ _ (DA.at_ z.2 m2)) (DA.at_ z.2 m2)) S fun hs' H'' U' p'=>?_
  (simp only[A5])
  refine FK ?_
  dsimp only[A4]
  (simp only[AL])
  refine hK' _ _ ⟨_,_,r,hs',rfl,?_,p',U.trans U'⟩
  rw[List.length_append]
  exact d'
end
theorem JM:∀(zs:List Int) (k:Int),∃l:List (Int×Int),Eg k (zs.map fun z=>It.v (.int z))=some (l.map fun p=>It.p (.int p.1) (.int p.2))∧l.length=zs.length:=by
 intro zs
 induction zs with
 | nil=>intro k;exact⟨[],rfl,rfl⟩
 | cons z zs ih =>
  intro k
  obtain⟨l,e,hl⟩:=ih (k+1)
  refine⟨(k,z) :: l,?_,by rw[List.length_cons,List.length_cons,hl]⟩
  show (Eg (k+1) (zs.map fun z=>It.v (.int z))).map (It.p (.int k) (.int z) :: ·)=_
  rw[e];rfl
theorem s_ft {zs:List Int}{Q:V→Hp→Prop}{H:Hp} (hq:∀ws:List Int,ws.length≤24→∀a,H a=none→Q (.ref a) (H.set a (.list (ws.map V.int)))):CE (.ro zs) (some 3) (some 27) Q H:=by
 refine⟨fun i e=>by injection e with e;subst e;exact⟨by decide,by decide⟩,fun i e=>by injection e with e;subst e;exact⟨by decide,by decide⟩,?_⟩
 show Bb (((zs.take (De 27 zs.length)).drop (De 3 zs.length)).map V.int) Q H
 have hl:((zs.take (De 27 zs.length)).drop (De 3 zs.length)).length≤24:=by
  have h27:De 27 zs.length≤27:=by unfold De;rw[if_neg (by decide)];exact Int.toNat_le.mpr (Int.max_le.mpr ⟨by decide,Int.min_le_left _ _⟩)
  rw[List.length_drop,List.length_take]
  by_cases h:3≤zs.length
  ·rw[I7 (i:=3) (by decide) (Int.ofNat_le.mpr h)];exact Nat.sub_le_of_le_add (Nat.le_trans (Nat.min_le_left _ _) h27)
  ·exact Nat.le_trans (Nat.sub_le _ _) (Nat.le_trans (Nat.min_le_right _ _) (Nat.le_trans (Nat.le_of_lt (Nat.not_le.mp h)) (by decide)))
 exact⟨by rw[List.length_map,Ai];exact lA [] [_] (.n 0) (.c 16777216) [.L (.n 0) (.c 24)] [1,1] rfl hl,fun a ha=>hq _ hl a ha⟩
section
variable {Q:V→Hp→Prop}{X:String→Hp→Prop}{H:Hp}
theorem Le {ρ:Loc}{p:Addr}{ps:PL}{i:Nat} (hp:H p=some (.list (lv ps))) (hl:ps.length≤1000) (hi:i<ρ.length) (hq:∀a,H a=none→Q (.ref a) (H.set a (.list ((ps.map (·.1)).map V.int)))) :
  Ku (.ref p) (fun its w H₁=>AT (.one i) w ρ (fun ρ' K H₂=>Iq ρ'[i]? fun v=>Ce v (.int 0) K H₂) (fun ξ K H₂=>K true H₂) its [] (fun vs H₂=>Bb vs Q H₂) H₁) H:=by
 refine B2 hp ?_
 rw[GA]
 refine DG _ (fun e=>V.int e.1) (AR hp) (by rw[Ai];exact lA [] [_] (.n 0) (.c 16777216) [.L (.n 0) (.c 1000)] [1,1] rfl hl) ?_ ⟨by rw[List.length_map,Ai];exact lA [] [_] (.n 0) (.c 16777216) [.L (.n 0) (.c 1000)] [1,1] rfl hl,fun a ha=>?_⟩
 ·intro e he
  refine⟨_,rfl,fun K hK=>?_⟩
  rw[List.getElem?_set_self hi]
  (simp only[A0,CY])
  exact hK
 ·have:=hq a ha
  rw[List.map_map] at this
  exact this
inductive DeedI (H:Hp) (D W S:Addr) (ws:List Int) (ρ₀:Option V→Option V→Loc) (as:List (Int×Int)) (ρ:Loc) (H':Hp):Prop
 | mk (x6 x7:Option V) (xs:List (Dc×Addr)) (vs:List Int) (e:ρ=ρ₀ x6 x7) (E:Ext H H') (hD:H' D=some (.list (xs.map dvp))) (hW:H' W=some (.list (vs.map V.int))) (ok:∀x∈xs,DOk H' x.1 x.2∧(CP x.1=true→x.2≠D∧x.2≠W)) (lenv:∀x∈xs,∀p vs,x.1=.pay p vs→vs.length≤1000) (l1:xs.length=as.length) (l2:vs.length≤10+as.length) (hS:H' S=some (.list (ws.map V.int)))
theorem DOk.set {H:Hp}{d:Dc}{a b:Addr} (o:Ob) (h:DOk H d a) (n:CP d=true→a≠b):DOk (H.set b o) d a:=by
 cases d with
 | pay p vs=>exact (Hp.set_ne o (n rfl)).trans h
 | _=>exact h
theorem law9_spec {n:Nat}{xsc:List Int} (hq:∀H',Q (.bool true) H'):Aj Cb ancT (n+10) "law" [.ro xsc] Q X H:=by
 have h1:Cb "_law_mixed" = some B8:=rfl
 have h8:Cb "law" = some Bs:=rfl
 refine Ao h8 rfl ?_
 simp only[Bs]
 (simp only[List.map_cons,List.map_nil,List.length_cons,List.length_nil,Nat.reduceAdd,Nat.reduceSub,List.replicate,List.cons_append,List.nil_append,Ae,sS,sZ,Ar,A6,A8,Ag,A3,gZ,A0,true_and])
 refine Jv h1 rfl rfl rfl rfl fun ps0 p H₁ G hE1 ξ hp=>?_
 have hl:=G.len
 rw[HX hp]
 refine⟨by rw[lv_length];exact lB [] [_] (.n 0) (.c 64) [.L (.n 0) (.c 10)] [1,1] rfl hl,.inr ⟨ps0,rfl,G.nodup,fun ps g1 g2=>⟨by rw[List.length_map,g1.length_eq,Ai];exact lA [] [_] (.n 0) (.c 16777216) [.L (.n 0) (.c 10)] [1,1] rfl hl,fun t htn=>?_⟩⟩⟩
 have T:=HA G g1 g2
 have hpl:=T.len
 have ht:(H₁.set t (.list (ps.map Bo))) t=some (.list (lv ps)):=Hp.set_self _ _ _
 generalize H₁.set t (.list (ps.map Bo))=H₂ at ht ⊢
 dsimp only[A4]
 (simp only[Ae,sS,sZ,F8])
 intro K hKn
 have ntK:t≠K:=AJ ht hKn
 dsimp only[A4]
 refine AC ⟨rfl,?_⟩
 (simp only[BB,A3,gS,gZ,A0])
 refine B2 (Ext.new _ hKn _ _ ht) ?_
 rw[GA]
 refine Av (I:=fun as ρ H'=>∃x3,ρ=[some (.ro xsc),some (.ref t),some (.ref K),x3,none,none,none,none,none,none,none,none,none,none,none,none,none,none,none]∧H'=H₂.set K (.dict (as.map kvI))) ?_ ?_ ?_ ⟨none,rfl,rfl⟩
 ·rintro as ρ H' ⟨x3,rfl,rfl⟩;exact AR (by rw[Hp.set_ne _ ntK];exact ht)
 rotate_left
 ·rintro as b bs ρ H' K' e ⟨x3,rfl,rfl⟩ hK'
  refine⟨_,rfl,?_⟩
  dsimp only[AN]
  (simp only[sS,sZ,BS,Ac,A9,A3,gS,gZ,A0,CY,CX])
  rw[EI (Hp.set_self _ _ _)]
  refine⟨by rw[List.length_map,Ai];rw[e,List.length_append] at hpl;exact lB [] [_,_] (.n 0) (.c 16777216) [.L (.a (.n 0) (.n 1)) (.c 10)] [1,1] rfl hpl,?_⟩
  have hm:b.1∉as.map (·.1):=fun hm=>by
   have hn:=T.nodup
   rw[e,List.map_append,List.nodup_append] at hn
   exact hn.2.2 _ hm _ (.head _) rfl
  rw[Fj (by rw[E8];exact hm),Hp.set_set]
  dsimp only[A4]
  (simp only[AL])
  exact hK' _ _ ⟨_,rfl,by rw[List.map_append];rfl⟩
 rintro ρ H' ⟨x3,rfl,rfl⟩
 have hK:=Hp.set_self H₂ K (.dict (ps.map kvI))
 have ht3:=Ext.new (.dict (ps.map kvI)) hKn _ _ ht
 generalize H₂.set K (.dict (ps.map kvI))=H₃ at hK ht3 ⊢
 dsimp only[A4]
 (simp only[Ae,sS,sZ,AE,A8])
 refine⟨by decide,fun D hDn=>?_⟩
 have E4:=Ext.new (.list []) hDn
 have gD:=Hp.set_self H₃ D (.list [])
 generalize H₃.set D (.list [])=H₄ at E4 gD ⊢
 dsimp only[A4]
 (simp only[Ae,sS,sZ,Cu,Ac,A9,A3,BB,gS,gZ,A0,true_and])
 refine Le (E4 _ _ ht3) (by exact lA [] [_] (.n 0) (.c 1000) [.L (.n 0) (.c 10)] [1,1] rfl hpl) (Nat.le_of_ble_eq_true rfl) fun W hWn=>?_
 have E5:=Ext.new (.list ((ps.map (·.1)).map V.int)) hWn
 have gW:=Hp.set_self H₄ W (.list ((ps.map (·.1)).map V.int))
 have nW:=E4.no hWn
 have nDW:D≠W:=AJ gD hWn
 generalize H₄.set W (.list ((ps.map (·.1)).map V.int))=H₅ at E5 gW ⊢
 dsimp only[A4]
 refine AC ⟨rfl,?_⟩
 (simp only[K1,BB,K7,A9,CW,A3,gZ,A0])
 refine s_ft fun ws hws a ha=>?_
 have E6:=Ext.new (.list (ws.map V.int)) ha
 have ga:=Hp.set_self H₅ a (.list (ws.map V.int))
 have na:H₃ a=none:=E4.no (E5.no ha)
 have naD:a≠D:=Ne.symm (AJ (E5 _ _ gD) ha)
 have naW:a≠W:=Ne.symm (AJ gW ha)
 have E36:=(E4.trans E5).trans E6
 have gD6:=E6 _ _ (E5 _ _ gD)
 have gW6:=E6 _ _ gW
 generalize H₅.set a (.list (ws.map V.int))=H₆ at E6 ga E36 gD6 gW6 ⊢
 refine B2 ga ?_
 obtain⟨l,el,hll⟩:=JM ws 0
 refine⟨_,by rw[List.map_map];exact el,?_⟩
 refine Av (I:=DeedI H₃ D W a ws (fun x6 x7=>[some (.ro xsc),some (.ref t),some (.ref K),x3,some (.ref D),some (.ref W),x6,x7,none,none,none,none,none,none,none,none,none,none,none])) ?_ ?_ ?_ ⟨none,none,[],ps.map (·.1),rfl,E36,gD6,gW6,(by first | exact Gv | exact nofun),(by first | exact Gv | exact nofun),rfl,by rw[List.length_map];exact hpl,ga⟩
 ·rintro as ρ H' ⟨x6,x7,xs,vs,rfl,E,hD,hW,ok,lenv,l1,l2,hS⟩;exact AR hS
 ·rintro ρ H' ⟨x6,x7,xs,vs,rfl,E,hD,hW,ok,lenv,l1,l2,hS⟩
  exact Mb T (E _ _ ht3) (E _ _ hK) hD (fun x hx=>(ok x hx).1) lenv (by exact lA [] [_,_,_] (.n 0) (.c 100) [.L (.n 1) (.c 24),.E (.n 2) (.n 1),.E (.n 0) (.n 2)] [1,1,1,1] rfl hws hll l1) hq
 ·rintro as e bs ρ H' K' el' ⟨x6,x7,xs,vs,rfl,E,hD,hW,ok,lenv,l1,l2,hS⟩ hK'
  refine⟨_,rfl,?_⟩
  have hla:as.length≤24:=by have:=congrArg List.length el';rw[List.length_append] at this;exact lA [] [_,_,_,_] (.n 0) (.c 24) [.L (.n 1) (.c 24),.E (.n 2) (.n 1),.E (.n 2) (.a (.n 0) (.n 3))] [1,1,1,-1] rfl hws hll this
  dsimp only[AN]
  (simp only[sS,sZ,BT,BV,A6,A8,Ag,A3,gS,gZ,A0,true_and])
  rw[r_L hD]
  refine⟨⟨by decide,by decide⟩,?_⟩
  refine Lc h1 rfl rfl hW (by exact lA [] [_,_] (.n 0) (.c 1000) [.L (.n 0) (.a (.c 10) (.n 1)),.L (.n 1) (.c 24)] [1,1,1] rfl l2 hla) fun d b H'' E'' okd fresh lend=>?_
  rw[Bk (E'' _ _ hD)]
  refine⟨by rw[List.length_map,Ai];exact lB [] [_,_] (.n 0) (.c 16777216) [.E (.n 0) (.n 1),.L (.n 1) (.c 24)] [1,1,1] rfl l1 hla,?_⟩
  have hW7:(H''.set D (.list (xs.map dvp++[dv d b]))) W=some (.list (vs.map V.int)):=by rw[Hp.set_ne _ (Ne.symm nDW)];exact E'' _ _ hW
  have hS7:(H''.set D (.list (xs.map dvp++[dv d b]))) a=some (.list (ws.map V.int)):=by rw[Hp.set_ne _ naD];exact E'' _ _ hS
  have E7:Ext H₃ (H''.set D (.list (xs.map dvp++[dv d b]))):=.setNew _ (E.trans E'') hDn
  have hD7:(H''.set D (.list (xs.map dvp++[dv d b]))) D=some (.list (xs.map dvp++[dv d b])):=Hp.set_self _ _ _
  have bD:CP d=true→b≠D∧b≠W:=fun z=>⟨Ne.symm (AJ hD (fresh z)),Ne.symm (AJ hW (fresh z))⟩
  have ok7:∀x∈xs++[(d,b)],DOk (H''.set D (.list (xs.map dvp++[dv d b]))) x.1 x.2∧(CP x.1=true→x.2≠D∧x.2≠W):=fun x hx=>by
   rcases List.mem_append.mp hx with k | k
   ·exact⟨((ok x k).1.ext E'').set _ fun z=>((ok x k).2 z).1,(ok x k).2⟩
   ·rw[List.mem_singleton] at k;subst k;exact⟨okd.set _ fun z=>(bD z).1,bD⟩
  have len7:∀x∈xs++[(d,b)],∀p vs,x.1=.pay p vs→vs.length≤1000:=fun x hx=>by
   rcases List.mem_append.mp hx with k | k
   ·exact lenv x k
   ·rw[List.mem_singleton] at k;subst k;exact lend
  have em:(xs++[(d,b)]).map dvp=xs.map dvp++[dv d b]:=by rw[List.map_append];rfl
  generalize H''.set D (.list (xs.map dvp++[dv d b]))=H₇ at hW7 hS7 E7 hD7 ok7 ⊢
  have last:∀Q':V→Hp→Prop,Q' (dv d b) H₇→wbc .len [.ref D] (fun x H₁=>EZ .sub x (.int 1) (fun y H₂=>Ce (.ref D) y Q' H₂) H₁) H₇:=fun Q' h=>by
   rw[AO hD7,Be,BJ hD7]
   have hl:(xs.map dvp++[dv d b]).length=xs.length+1:=by rw[List.length_append,List.length_map];rfl
   refine⟨xs.length,dv d b,⟨by exact lb [] [_] (.c (-4611686018427387904)) (.s (.t (.n 0)) (.c 1)) [] [1] rfl,by exact lb [] [_,_,_] (.s (.t (.n 0)) (.c 1)) (.c 4611686018427387904) [.E (.n 1) (.n 2),.L (.n 2) (.c 24),.E (.n 0) (.a (.n 1) (.c 1))] [1,1,1,1] rfl l1 hla hl⟩,?_,?_,h⟩
   ·rw[hl,show ((xs.length+1:Nat):Int)-1=(xs.length:Int) by exact lq [] [_] (.s (.t (.a (.n 0) (.c 1))) (.c 1)) (.t (.n 0)) [] [1] [1] rfl]
    exact Bz (by exact lB [] [_] (.n 0) (.a (.n 0) (.c 1)) [] [1] rfl)
   ·rw[List.getElem?_append_right (by rw[List.length_map];exact Nat.le_refl _),List.length_map,Nat.sub_self];rfl
  have nxt:A4 ⟨Aj Cb ancT (n+9),ancT⟩ false .nil K' Q (fun c ξ H₁=>X c H₁) [some (.ro xsc),some (.ref t),some (.ref K),x3,some (.ref D),some (.ref W),some (.int e.1),some (.int e.2),none,none,none,none,none,none,none,none,none,none,none] H₇:=by
   dsimp only[A4]
   (simp only[AL])
   exact hK' _ _ ⟨_,_,xs++[(d,b)],vs,rfl,E7,by rw[em];exact hD7,hW7,ok7,len7,by rw[List.length_append,List.length_append,l1];rfl,by rw[List.length_append];exact lA [] [_,_,_] (.n 0) (.a (.c 10) (.a (.n 1) (.n 2))) [.L (.n 0) (.a (.c 10) (.n 1))] [1,1] rfl l2,hS7⟩
  dsimp only[A4]
  (simp only[Ad,A7,Aa,Ab,A5,Af,Ac,A9,Ah,Ar,A6,A8,A3,gS,gZ,A0,true_and])
  refine last _ ?_
  cases d with
  | pay p vs' =>
   rw[JO]
   (simp only[Am,Ay,decide_eq_true_eq])
   exact AK (by decide) nxt
  | mov fe v c =>
   cases fe with
   | false =>
    rw[J0]
    (simp only[Am,Ay,decide_eq_true_eq])
    exact AK (by decide) nxt
   | true =>
    rw[IZ]
    (simp only[Am,Ay,decide_eq_true_eq])
    exact AK (by decide) nxt
  | kout v =>
   rw[I4]
   (simp only[Am,Ay,decide_eq_true_eq])
   exact AK (by decide) nxt
  | odd w r =>
   have hw:w∈H4:=okd
   rw[I5]
   (simp only[Am,Ay,decide_eq_true_eq])
   refine AK ?_ nxt
   simp only[H4,List.mem_cons,List.not_mem_nil,or_false] at hw
   rcases hw with rfl | rfl | rfl | rfl <;> decide
  | kin v =>
   rw[Ki] at last ⊢
   (simp only[Am,Ay,decide_eq_true_eq])
   refine AY trivial ?_
   dsimp only[A4]
   (simp only[BT,BV,A6,A8,Ac,A9,Ah,Ar,A3,gS,gZ,A0,true_and])
   rw[r_L hW7]
   refine⟨⟨by decide,by decide⟩,?_⟩
   refine last _ ?_
   (simp only[AF])
   rw[Bk hW7]
   refine⟨by rw[List.length_map,Ai];exact lB [] [_,_] (.n 0) (.c 16777216) [.L (.n 0) (.a (.c 10) (.n 1)),.L (.n 1) (.c 24)] [1,1,1] rfl l2 hla,?_⟩
   dsimp only[A4]
   (simp only[AL])
   refine hK' _ _ ⟨_,_,xs++[(.kin v,b)],vs++[v],rfl,.setNew _ E7 nW,by rw[Hp.set_ne _ nDW,em];exact hD7,by rw[Hp.set_self,List.map_append];rfl,fun x hx=>⟨(ok7 x hx).1.set _ fun z=>((ok7 x hx).2 z).2,(ok7 x hx).2⟩,len7,by rw[List.length_append,List.length_append,l1];rfl,by rw[List.length_append,List.length_append];exact Nat.add_le_add_right l2 1,by rw[Hp.set_ne _ naW];exact hS7⟩
end
end Mine.Internal
end

section
namespace Mine
open Mine.Internal PySem PyProof.Rows
theorem ints_of {vs:List Value}{ns:List Int} (h:IntsAre vs ns):EH ns vs.toArray.toList:=by
 show EH ns vs
 induction h with
 | nil=>exact .nil
 | cons n t _ ih=>exact .cons ih
noncomputable def fnA09:List (String×Addr):=[("need_kind",154),("need_count",161),("pairs_of",166),("counts_of",173),("count_of",180),("need_sum",187),("fill",194),("row_with",199),("table",204),("most_of",211),("fewest",218),("with_count",225),("put_in",232),("taken_out",239),("paid",246),("brought",253),("fetched",260),("kind_in",267),("kind_out",272),("done",279),("tried",286),("day",293),("_law_cell_at",300),("_law_whole",307),("_law_mixed",314),("_law_value",321),("_law_count",328),("_law_pairs",335),("_law_alike",342),("_law_least",349),("_law_row",356),("_law_walked",363),("_law_change",370),("_law_known",377),("_law_deed",384),("_law_moved",391),("_law_kind",398),("_law_unpaid",405),("_law_exact",412),("_law_paid",417),("_law_right",424),("_law_copies",431),("_law_again",436),("law",441)]
noncomputable def clA09:List (String×Addr):=[("TillError",24),("NoTill",37),("NoKind",49),("Twice",61),("NoCount",73),("NoSum",85),("TooLittle",97),("NoChange",109),("TooFew",121),("StillHeld",133),("NoDeed",145)]
namespace main
theorem tw13962693860625380366:1=1:=rfl
theorem tw2852251193174398662:1=1:=rfl
theorem tw5084117380071580128:1=1:=rfl
theorem tw11156056980113079860:1=1:=rfl
theorem tw14080665800827857628:1=1:=rfl
theorem tw13626721169425172152:1=1:=rfl
theorem tw7083192437325867461:1=1:=rfl
theorem tw16798622893749714585:1=1:=rfl
theorem tw1277820614484962519:1=1:=rfl
theorem tw11857135199678951331:1=1:=rfl
theorem tw15803610866087392283:1=1:=rfl
theorem tw15491723280356408159:1=1:=rfl
theorem tw12298629886278197574:1=1:=rfl
theorem tw10114013102757674387:1=1:=rfl
theorem tw18431692314602308842:1=1:=rfl
theorem tw10876375607700338302:1=1:=rfl
theorem tw4026956272090484662:1=1:=rfl
theorem tw8778399796184198408:1=1:=rfl
theorem tw5418533224930618480:1=1:=rfl
theorem tw17695171507069755227:1=1:=rfl
theorem tw17292155258170135553:1=1:=rfl
theorem tw4544244032028310869:1=1:=rfl
theorem tw1390771862084280389:1=1:=rfl
theorem tw8905464785575363620:1=1:=rfl
theorem tw11812620880713246772:1=1:=rfl
theorem tw5585478044538960755:1=1:=rfl
theorem tw4573282807186111410:1=1:=rfl
theorem tw9498315638749924794:1=1:=rfl
theorem tw12872379398031375081:1=1:=rfl
theorem tw8930851030842425676:1=1:=rfl
theorem tw16452447596832230105:1=1:=rfl
theorem tw12440202741962587976:1=1:=rfl
theorem tw1306636233014830658:1=1:=rfl
theorem tw16008457594558532635:1=1:=rfl
theorem tw9274054859765456524:1=1:=rfl
theorem tw4650958065196391918:1=1:=rfl
theorem tw18092606169130929673:1=1:=rfl
theorem tw31828345220925962:1=1:=rfl
theorem tw14457758005677747962:1=1:=rfl
theorem tw5240779543111244032:1=1:=rfl
theorem tw16035907590883218939:1=1:=rfl
theorem tw14539993770535171780:1=1:=rfl
theorem tw1099256609624015869:1=1:=rfl
theorem tw3549514262204291990:1=1:=rfl
theorem tw17708487481403421675:1=1:=rfl
theorem tw6361450105264607166:1=1:=rfl
theorem tw1429040668314091153:1=1:=rfl
theorem tw17146568849442343683:1=1:=rfl
theorem tw917386388269078853:1=1:=rfl
theorem tw14722489848711283861:1=1:=rfl
theorem tw13180746182150919023:1=1:=rfl
theorem tw5532463470591059822:1=1:=rfl
theorem tw4637267157515435788:1=1:=rfl
theorem tw3045742163950154196:1=1:=rfl
theorem tw6697339332421208802:1=1:=rfl
theorem tw10450603732522932521:1=1:=rfl
theorem tw9483120023164983764:1=1:=rfl
theorem tw1826329307503635854:1=1:=rfl
theorem tw1678875084529416142:1=1:=rfl
theorem tw1545906260438175962:1=1:=rfl
theorem tw15737690656516749961:1=1:=rfl
theorem tw12623159325031504133:1=1:=rfl
theorem tw14106445559736802775:1=1:=rfl
theorem tw1677766988990989824:1=1:=rfl
theorem tw17958375852430007124:1=1:=rfl
theorem tw11135027115929721415:1=1:=rfl
theorem tw2629084897520917108:1=1:=rfl
theorem tw6741292078354696603:1=1:=rfl
theorem tw6557543464795787104:1=1:=rfl
theorem tw765107192605250810:1=1:=rfl
theorem tw11461230924637031220:1=1:=rfl
theorem tw16721930046160240684:1=1:=rfl
theorem tw12273490649430754879:1=1:=rfl
theorem tw4651154628705390771:1=1:=rfl
theorem tw10877679251791092727:1=1:=rfl
theorem tw5995161000843957690:1=1:=rfl
theorem tw6449824600675878752:1=1:=rfl
theorem tw5061512775090418087:1=1:=rfl
theorem tw7298748307773712898:1=1:=rfl
theorem tw10094358506670053839:1=1:=rfl
theorem tw14492832472218066102:1=1:=rfl
theorem tw11752208632293872130:1=1:=rfl
theorem tw3848698983108048278:1=1:=rfl
theorem tw9155575984036265788:1=1:=rfl
theorem tw8118072479153026202:1=1:=rfl
theorem tw16356685582667847594:1=1:=rfl
theorem tw6044114016751833949:1=1:=rfl
theorem tw13406003279186336099:1=1:=rfl
theorem tw18324869675472685148:1=1:=rfl
theorem tw6334894449686545209:1=1:=rfl
theorem tw4324958949535026087:1=1:=rfl
theorem tw1178595665728414349:1=1:=rfl
theorem tw10298723112805639129:1=1:=rfl
theorem tw13838900630717943254:1=1:=rfl
theorem tw10924716458440934090:1=1:=rfl
theorem tw2406621943657119228:1=1:=rfl
theorem tw13132915859168520264:1=1:=rfl
theorem tw6910295442248876197:1=1:=rfl
theorem tw1615956725737779560:1=1:=rfl
theorem tw17236958762192778904:1=1:=rfl
theorem tw9561784451562097942:1=1:=rfl
theorem tw962032349192862916:1=1:=rfl
theorem tw4775608329324902142:1=1:=rfl
theorem tw2610470436741444953:1=1:=rfl
theorem tw7308723440029596264:1=1:=rfl
theorem tw17297283025540448806:1=1:=rfl
theorem tw14771111431291430275:1=1:=rfl
theorem tw5518243967957118194:1=1:=rfl
theorem tw8748973510418095054:1=1:=rfl
theorem tw16572128252103988241:1=1:=rfl
theorem tw6660377722381337597:1=1:=rfl
theorem tw4812270449578504274:1=1:=rfl
theorem tw10047389527955405517:1=1:=rfl
theorem tw13547569757486424058:1=1:=rfl
theorem tw14893677947936909564:1=1:=rfl
theorem tw9848185148710128376:1=1:=rfl
theorem tw12646911602827044314:1=1:=rfl
theorem tw18403998269306519403:1=1:=rfl
theorem tw10642606787283503386:1=1:=rfl
theorem tw820145642477177705:1=1:=rfl
theorem tw16819838333489098493:1=1:=rfl
theorem tw7904437144335635152:1=1:=rfl
theorem tw15729387918133165365:1=1:=rfl
theorem tw16656740534632174751:1=1:=rfl
theorem tw11225645599760410699:1=1:=rfl
theorem tw12431561837914552411:1=1:=rfl
theorem tw221909299271738847:1=1:=rfl
theorem tw7221758910455160077:1=1:=rfl
theorem tw9361300454564663673:1=1:=rfl
theorem tw7237411587787531456:1=1:=rfl
theorem tw5450094653865882931:1=1:=rfl
theorem tw12564604832814323664:1=1:=rfl
theorem tw452746233719593009:1=1:=rfl
theorem tw4585930131862741453:1=1:=rfl
theorem tw14356970164483606383:1=1:=rfl
theorem tw6385024630547198690:1=1:=rfl
theorem tw16965079339398995527:1=1:=rfl
theorem tw10609540516017602915:1=1:=rfl
theorem tw6886502059237256666:1=1:=rfl
theorem tw4072190877284726289:1=1:=rfl
theorem tw14369920842174571615:1=1:=rfl
theorem tw1632041292262086317:1=1:=rfl
theorem tw2729793432009153956:1=1:=rfl
theorem tw14313897822631088780:1=1:=rfl
theorem tw12252054271945606052:1=1:=rfl
theorem tw16451033083921036709:1=1:=rfl
theorem tw9369988214560726041:1=1:=rfl
theorem tw9121559901702372667:1=1:=rfl
theorem tw18002082260008034479:1=1:=rfl
theorem tw18218335207050127959:1=1:=rfl
theorem tw656089360051881306:1=1:=rfl
theorem tw8207831470162742035:1=1:=rfl
theorem tw10199874654664476236:1=1:=rfl
theorem tw8466321980469482115:1=1:=rfl
theorem tw5372645768047454471:1=1:=rfl
theorem tw1777545030009416734:1=1:=rfl
theorem tw11646826074482590764:1=1:=rfl
theorem tw3491332818749588091:1=1:=rfl
theorem tw7074144079889050967:1=1:=rfl
theorem tw1270039299266317192:1=1:=rfl
theorem tw8947760058931562597:1=1:=rfl
theorem tw18421580907717582127:1=1:=rfl
theorem tw12343854547171428336:1=1:=rfl
theorem tw14027531716089632829:1=1:=rfl
theorem tw9957550378297406723:1=1:=rfl
theorem tw7698036289167662538:1=1:=rfl
theorem tw341453280667917650:1=1:=rfl
theorem tw4452170602077327944:1=1:=rfl
theorem tw18058344117034437523:1=1:=rfl
theorem tw18190005008629794160:1=1:=rfl
theorem tw3613476055612923068:1=1:=rfl
theorem tw16641786646906312760:1=1:=rfl
theorem tw10669944970481658594:1=1:=rfl
theorem tw9897820754763898449:1=1:=rfl
theorem tw16480584520131690045:1=1:=rfl
theorem tw13224007501803129859:1=1:=rfl
theorem tw7699798408344515789:1=1:=rfl
theorem tw16826212616301561204:1=1:=rfl
theorem tw5436791530062809996:1=1:=rfl
theorem tw11261727412033496967:1=1:=rfl
theorem tw3454311308915712629:1=1:=rfl
theorem tw12885673836220544336:1=1:=rfl
theorem tw9268297945177815525:1=1:=rfl
theorem tw5473700226181020891:1=1:=rfl
theorem tw16922381011570985944:1=1:=rfl
theorem tw9069182735580402390:1=1:=rfl
theorem tw8729708805864041840:1=1:=rfl
theorem tw7076680042418089948:1=1:=rfl
theorem tw9265829497004654079:1=1:=rfl
theorem tw15955573374722617477:1=1:=rfl
theorem tw12941917028564957548:1=1:=rfl
theorem tw7186131708394509389:1=1:=rfl
theorem tw6075091234017535682:1=1:=rfl
theorem tw3934531018447913466:1=1:=rfl
theorem tw2110754180369666209:1=1:=rfl
theorem tw17561526911342447988:1=1:=rfl
theorem tw16629339528299215175:1=1:=rfl
theorem tw3557749057250611081:1=1:=rfl
theorem tw834873547066669988:1=1:=rfl
theorem tw14439473939278146460:1=1:=rfl
theorem tw6222487380544312443:1=1:=rfl
theorem tw1628013610222277130:1=1:=rfl
theorem tw3796207824708393856:1=1:=rfl
theorem tw11221353774195762014:1=1:=rfl
theorem tw9512817274939609580:1=1:=rfl
theorem tw12922898485456448571:1=1:=rfl
theorem tw6785657489111691699:1=1:=rfl
theorem tw9670510015898674028:1=1:=rfl
theorem tw13590572293223372214:1=1:=rfl
theorem tw1130211791997205004:1=1:=rfl
theorem tw16778611742570070204:1=1:=rfl
theorem tw17450470499104002142:1=1:=rfl
theorem tw6912675738884088206:1=1:=rfl
theorem tw10204856939554784155:1=1:=rfl
theorem tw18332899500509843999:1=1:=rfl
theorem tw1409966394225722968:1=1:=rfl
theorem tw5243159528196176124:1=1:=rfl
theorem tw13503263706703578961:1=1:=rfl
theorem tw16136984950599521427:1=1:=rfl
theorem tw10334261112615635914:1=1:=rfl
theorem tw12483276189755474720:1=1:=rfl
theorem tw1587290215689348708:1=1:=rfl
theorem tw5240536507193477226:1=1:=rfl
theorem tw3829396358689915599:1=1:=rfl
theorem tw13876859957761632879:1=1:=rfl
theorem tw6877560268529008848:1=1:=rfl
theorem tw8627561154394265716:1=1:=rfl
theorem tw10455743928339290457:1=1:=rfl
theorem tw9557352009045844224:1=1:=rfl
theorem tw3583811862363856187:1=1:=rfl
theorem tw14064073609400967072:1=1:=rfl
theorem tw12518504611687188807:1=1:=rfl
theorem tw12431731261707249289:1=1:=rfl
theorem tw8478376212529829071:1=1:=rfl
theorem tw11544348965984651327:1=1:=rfl
theorem tw16135426469972691074:1=1:=rfl
theorem tw13348322127785295214:1=1:=rfl
theorem tw11501822485730972192:1=1:=rfl
theorem tw9406782406253462049:1=1:=rfl
theorem tw3466206800631347469:1=1:=rfl
theorem tw18302796317244248524:1=1:=rfl
theorem tw11120327062377616369:1=1:=rfl
theorem tw3706830351922483016:1=1:=rfl
theorem tw13350764725976880583:1=1:=rfl
theorem tw9417822746687237092:1=1:=rfl
theorem tw12885385263037960081:1=1:=rfl
theorem tw13110577991587790113:1=1:=rfl
theorem tw4500915450034043215:1=1:=rfl
theorem tw14874008761501241426:1=1:=rfl
theorem tw1156462466702112376:1=1:=rfl
theorem tw2496676261509829067:1=1:=rfl
theorem tw3562595001068472590:1=1:=rfl
theorem tw6635558491612396129:1=1:=rfl
theorem tw3027586509356016917:1=1:=rfl
theorem tw13402765919934010277:1=1:=rfl
theorem tw10234815189450012239:1=1:=rfl
theorem tw2724176850512262202:1=1:=rfl
theorem tw8988871441479999982:1=1:=rfl
theorem tw17679725944135375923:1=1:=rfl
theorem tw6508729118710982530:1=1:=rfl
theorem tw2702614204127132176:1=1:=rfl
theorem tw330327031418712150:1=1:=rfl
theorem tw17510229520200029679:1=1:=rfl
theorem tw104360540948158410:1=1:=rfl
theorem tw15734660467963936456:1=1:=rfl
theorem tw5102693214775723256:1=1:=rfl
theorem tw3960113756560652017:1=1:=rfl
theorem tw11982392923317675503:1=1:=rfl
theorem tw7875838824674609581:1=1:=rfl
theorem tw17223442867436993403:1=1:=rfl
theorem tw14371149721154158424:1=1:=rfl
theorem tw12455012482086183272:1=1:=rfl
theorem tw6655696309031964122:1=1:=rfl
theorem tw15303317825217679618:1=1:=rfl
theorem tw12839114828313443825:1=1:=rfl
theorem tw16519101796099990279:1=1:=rfl
theorem tw9656510801202774680:1=1:=rfl
theorem tw13676971244355772609:1=1:=rfl
theorem tw12939479104171293914:1=1:=rfl
theorem tw16950194794029067938:1=1:=rfl
theorem tw7751025194823839400:1=1:=rfl
theorem tw2544328076492683441:1=1:=rfl
theorem tw9756827057097773860:1=1:=rfl
theorem tw15135354766812531094:1=1:=rfl
theorem tw52199770228462824:1=1:=rfl
theorem tw716429049611869786:1=1:=rfl
theorem tw1054321117371714560:1=1:=rfl
theorem tw9976160756891316704:1=1:=rfl
theorem tw1439166485080882:1=1:=rfl
theorem tw961187720498965250:1=1:=rfl
theorem tw223528310411579522:1=1:=rfl
theorem tw17353955331779342651:1=1:=rfl
theorem tw3779293765908593550:1=1:=rfl
theorem tw11987853993630220354:1=1:=rfl
theorem tw15595112118272840620:1=1:=rfl
theorem tw9360745474812902239:1=1:=rfl
theorem tw7411558596216406370:1=1:=rfl
theorem tw2895952525429962455:1=1:=rfl
theorem tw11815829001073249272:1=1:=rfl
theorem tw2759098988195820126:1=1:=rfl
theorem tw4039676971129161736:1=1:=rfl
theorem tw6418098437765475518:1=1:=rfl
theorem tw11710404883906591787:1=1:=rfl
theorem tw15514936471743626214:1=1:=rfl
theorem tw33456957511925785:1=1:=rfl
theorem tw2566753976717531306:1=1:=rfl
theorem tw1236483940969888574:1=1:=rfl
theorem tw14909365282108701170:1=1:=rfl
theorem tw4839478117068044826:1=1:=rfl
theorem tw17052023290607921161:1=1:=rfl
theorem tw7439787175107056256:1=1:=rfl
theorem tw65644731488775911:1=1:=rfl
theorem tw11003572833241299968:1=1:=rfl
theorem tw12927740378394474205:1=1:=rfl
theorem tw11785714552879321826:1=1:=rfl
theorem tw18063282731904131703:1=1:=rfl
theorem tw12702744160499308131:1=1:=rfl
theorem tw16251939892948500945:1=1:=rfl
theorem tw16008252555379753968:1=1:=rfl
theorem tw10665089971535097683:1=1:=rfl
theorem tw9272984997812220495:1=1:=rfl
theorem tw4900431672193113347:1=1:=rfl
theorem tw7222436019593261071:1=1:=rfl
theorem tw3532412968194664532:1=1:=rfl
theorem tw13591255225166038476:1=1:=rfl
theorem tw5270908104458285503:1=1:=rfl
theorem tw8467378866343419333:1=1:=rfl
theorem tw13777938177461255882:1=1:=rfl
theorem tw16952715711813285254:1=1:=rfl
theorem tw16049902774474827687:1=1:=rfl
theorem tw302440914744352476:1=1:=rfl
theorem tw17644181745481072423:1=1:=rfl
theorem tw8484041278411425421:1=1:=rfl
theorem tw1453356044741674121:1=1:=rfl
theorem tw2647654807098235363:1=1:=rfl
theorem tw17298425922696826006:1=1:=rfl
theorem tw6696893160125735727:1=1:=rfl
theorem tw2195194259037543316:1=1:=rfl
theorem tw17201416709059790184:1=1:=rfl
theorem tw12732289081945773324:1=1:=rfl
theorem tw2524017781993486291:1=1:=rfl
theorem tw13293747886898857621:1=1:=rfl
theorem tw13113777628852026922:1=1:=rfl
theorem tw10082525699882495855:1=1:=rfl
theorem tw13270728482189477470:1=1:=rfl
theorem tw9508770018378322450:1=1:=rfl
theorem tw2279707942289718827:1=1:=rfl
theorem tw5571399437266216444:1=1:=rfl
theorem tw15465920861327815835:1=1:=rfl
theorem tw12057704586751987240:1=1:=rfl
theorem tw15060185592220127646:1=1:=rfl
theorem tw17272174723667511238:1=1:=rfl
theorem tw15109750227778091905:1=1:=rfl
theorem tw7235775444256392728:1=1:=rfl
theorem tw1118068078248606362:1=1:=rfl
theorem tw17737603089517620647:1=1:=rfl
theorem tw10864377008497418100:1=1:=rfl
theorem tw9381277316556691805:1=1:=rfl
theorem tw9840939614602229412:1=1:=rfl
theorem tw387501639795913443:1=1:=rfl
theorem tw11181722664286889309:1=1:=rfl
theorem tw11403851563620829512:1=1:=rfl
theorem tw10345001823751887135:1=1:=rfl
theorem tw15017983477296125989:1=1:=rfl
theorem tw1504049600530537962:1=1:=rfl
theorem tw7846812961960373227:1=1:=rfl
theorem tw18315214858253571532:1=1:=rfl
theorem tw8557395850702784662:1=1:=rfl
theorem tw6541472054586571296:1=1:=rfl
theorem tw1513938828510530698:1=1:=rfl
theorem tw4365514962571936147:1=1:=rfl
theorem tw4038153913678941442:1=1:=rfl
theorem tw18280085339978019747:1=1:=rfl
theorem tw10821422270917381399:1=1:=rfl
theorem tw5160751907100791332:1=1:=rfl
theorem tw16320729459185622934:1=1:=rfl
theorem tw4397610999060964463:1=1:=rfl
theorem tw4333880214566435006:1=1:=rfl
theorem tw15806524323241146399:1=1:=rfl
theorem tw8079908401900000222:1=1:=rfl
theorem tw14218914174604095658:1=1:=rfl
theorem tw7939164064552038406:1=1:=rfl
theorem tw3810599057463578550:1=1:=rfl
theorem tw17974016328880235120:1=1:=rfl
theorem tw16153842264607907944:1=1:=rfl
theorem tw16046730324260685337:1=1:=rfl
theorem tw3394367416137920725:1=1:=rfl
theorem tw7761410557224570781:1=1:=rfl
theorem tw15643365686152983790:1=1:=rfl
theorem tw10825838108423173272:1=1:=rfl
theorem tw7153082081811710619:1=1:=rfl
theorem tw2921958311620399285:1=1:=rfl
theorem tw2287757881348798766:1=1:=rfl
theorem tw3234112476842188716:1=1:=rfl
theorem tw11595355409239048105:1=1:=rfl
theorem tw2190695567426971638:1=1:=rfl
theorem tw10913426047420270581:1=1:=rfl
theorem tw18442785490491869365:1=1:=rfl
theorem tw12205347405646519318:1=1:=rfl
theorem tw14788915703135433725:1=1:=rfl
theorem tw3627144658338631552:1=1:=rfl
theorem tw1157997071576566072:1=1:=rfl
theorem tw17402982504261768225:1=1:=rfl
theorem tw6162249291895867263:1=1:=rfl
theorem tw14009396871252706886:1=1:=rfl
theorem tw14639212616227390028:1=1:=rfl
theorem tw2821470743931037460:1=1:=rfl
theorem tw15768048840197415361:1=1:=rfl
theorem tw6053611964639427726:1=1:=rfl
theorem tw15325265745230064102:1=1:=rfl
theorem tw17091655785135471103:1=1:=rfl
theorem tw2921621734765799159:1=1:=rfl
theorem tw2225956059507018244:1=1:=rfl
theorem tw3299218664060906527:1=1:=rfl
theorem tw8663697691656813868:1=1:=rfl
theorem tw6511744376749373798:1=1:=rfl
theorem tw4104948283222511711:1=1:=rfl
theorem tw17725498274588495791:1=1:=rfl
theorem tw2906824675625879941:1=1:=rfl
theorem tw832900586485598795:1=1:=rfl
theorem tw12915833801598196605:1=1:=rfl
theorem tw17118054049896295152:1=1:=rfl
theorem tw13642826006792871662:1=1:=rfl
theorem tw12900284412222446716:1=1:=rfl
theorem tw9682133043923132273:1=1:=rfl
theorem tw4990475226369331113:1=1:=rfl
theorem tw4605139254293405059:1=1:=rfl
theorem tw5781596087445459943:1=1:=rfl
theorem tw66260789543402106:1=1:=rfl
theorem tw14662554035588321541:1=1:=rfl
theorem tw8228058824784995430:1=1:=rfl
theorem tw5649967823195072380:1=1:=rfl
theorem tw15485851114877660061:1=1:=rfl
theorem tw8211959896082780389:1=1:=rfl
theorem tw14097447854668400296:1=1:=rfl
theorem tw15554039934745177238:1=1:=rfl
theorem tw4126091431370883743:1=1:=rfl
theorem tw4458048076830672230:1=1:=rfl
end main
end Mine
open PySem PySem.W PyProof.Rows
set_option tactic.hygienic true
set_option Elab.async true
set_option maxRecDepth 100000 in
set_option maxHeartbeats 8000000 in
theorem Mine.main : PySem.Challenge.rw_uf030016_09.Holds := by
  w_on; o_law; k_head; (case hw => w_witness2)
  k_fill
  intro w s₀ s₁ mg mb G Y fa o pm cd doc dV kV ho hd hcd hD hmg hg args vals as hpre hlay hrd hwl hlo
  have KX := kIn_of Y
  have X := (Ground.X G).1
  have V := (Ground.X G).2
  try w_nolog (first | (have GL := glob_more (Ground.glob G (by first | k_qdec | decide +kernel) (by first | k_qdec | decide +kernel)) V) | (have GL := glob_more (Ground.glob G (by decide +kernel)) V))
  refine Ground.open G ?_
  intro T B D TE TW
  try (refine guard_noD D (by decide +kernel) ?_; clear D)
  obtain ⟨_, _, M⟩ := bmod_of_top T
  have TA := at_of_top T
  try (obtain ⟨_, _, he, B0⟩ := based_of_top T rfl hmg ho hd; have he' : cd = _ := he; subst he'; clear he)
  wrow_args hpre hlay hrd hwl hlo
  all_goals first | refine callC_kw (enter_call ?_) | refine enter_call ?_ | refine callC_kw (enter_callW ?_) | refine enter_callW ?_ | w_how
  all_goals w_top on
  all_goals try refine codeAny_mono ?_ (fun ξ ξ g => GoodW.toG g)
  rename_i hL _ _ _ hI _ hcond _
  refine Mine.Internal.run_law T _ KX Mine.Internal.gint09 Mine.fnA09 Mine.clA09 Mine.Internal.ancT Mine.Internal.tab09 rfl rfl (by with_unfolding_all rfl) rfl rfl rfl ?c7 ?fin (n := 9) rfl rfl (by decide +kernel) (by decide +kernel) hmg hL (by omega) (Mine.ints_of hI) (Mine.Internal.law9_spec (n := 0) fun ξ => rfl) fun h tk hk => ?_
  case c7 =>
    simp only [Mine.clA09, List.mem_cons, List.not_mem_nil, or_false]
    rintro d (rfl | rfl | rfl | rfl | rfl | rfl | rfl | rfl | rfl | rfl | rfl) <;> exact ⟨rfl, rfl, rfl, rfl, rfl, rfl, rfl, rfl, rfl⟩
  case fin =>
    clear GL TA
    refine ⟨rfl, ?_, rfl, ?_, rfl, ?_, rfl, ?_, rfl, ?_, rfl, ?_, rfl, ?_, rfl, ?_, rfl, ?_, rfl, ?_, rfl, ?_, rfl, ?_, rfl, ?_, rfl, ?_, rfl, ?_, rfl, ?_, rfl, ?_, rfl, ?_, rfl, ?_, rfl, ?_, rfl, ?_, rfl, ?_, rfl, ?_, rfl, ?_, rfl, ?_, rfl, ?_, rfl, ?_, rfl, ?_, rfl, ?_, rfl, ?_, rfl, ?_, rfl, ?_, rfl, ?_, rfl, ?_, rfl, ?_, rfl, ?_, rfl, ?_, rfl, ?_, rfl, ?_, rfl, ?_, rfl, ?_, rfl, ?_, rfl, ?_, rfl, ?_, trivial⟩
    all_goals exact ⟨by kernel_rfl, (by intro S; (repeat intro _); kernel_rfl), by kernel_rfl, by kernel_rfl⟩
  exact ⟨.inl ⟨_, _, _, rfl, fun ξ => rfl, .bool true, (by with_unfolding_all rfl), fun ξ => ⟨.nil, nofun⟩⟩, hk, rfl, hg⟩
set_option Elab.async false
theorem PySem.Challenge.cw_uf030016_09_holds : PySem.Challenge.rw_uf030016_09.Holds :=
  Mine.main
end
