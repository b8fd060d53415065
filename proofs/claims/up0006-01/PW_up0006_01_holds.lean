import PyProof.Rows.All
import Wide.All
import OpenK.AllK
import Wide.FinOn
import KE.KDictList
import KE.KSortTup
import Lean
import PySem.Challenge.RW_up0006_01
set_option Elab.async false
set_option linter.all false
set_option autoImplicit false
set_option genSizeOf false
set_option genInjectivity false
set_option genCtorIdx false
section
set_option maxRecDepth 100000
namespace Mine
set_option genCtorIdx true
variable{α β γ:Type}{c:Prop}
inductive MV where
 | none
 | bool (b:Bool)
 | int (i:Int)
 | str (s:List Nat)
 | ref (a:Nat)
 | tup (l:List MV)
mutual
noncomputable def MV.beq:MV->MV->Bool
 | .none,v=>@MV.casesOn (fun _=>Bool) v true (fun _=>false) (fun _=>false) (fun _=>false) (fun _=>false) (fun _=>false)
 | .bool a,v=>@MV.casesOn (fun _=>Bool) v false (fun b=>a == b) (fun _=>false) (fun _=>false) (fun _=>false) (fun _=>false)
 | .int a,v=>@MV.casesOn (fun _=>Bool) v false (fun _=>false) (fun b=>decide (a=b)) (fun _=>false) (fun _=>false) (fun _=>false)
 | .str a,v=>@MV.casesOn (fun _=>Bool) v false (fun _=>false) (fun _=>false) (fun b=>a == b) (fun _=>false) (fun _=>false)
 | .ref a,v=>@MV.casesOn (fun _=>Bool) v false (fun _=>false) (fun _=>false) (fun _=>false) (fun b=>Nat.beq a b) (fun _=>false)
 | .tup a,v=>@MV.casesOn (fun _=>Bool) v false (fun _=>false) (fun _=>false) (fun _=>false) (fun _=>false) (fun b=>MV.beqs a b)
noncomputable def MV.beqs:List MV->List MV->Bool
 | [],q=>@List.casesOn MV (fun _=>Bool) q true (fun _ _=>false)
 | a :: r,q=>@List.casesOn MV (fun _=>Bool) q false (fun b q=>MV.beq a b && MV.beqs r q)
end
variable{P:MV->Prop}{v:MV}
inductive za where
 | list (l:List MV)
 | dict (l:List (MV×MV))
 | inst (c:Nat) (l:List (Nat×MV))
 | hid
 | frz (l:List Int)
variable{o:Option za}
noncomputable abbrev Hp:=List za
noncomputable abbrev Loc:=Nat->Option MV
inductive BOp where | add | sub | mul | fdiv | mod | pow
inductive COp where | eq | ne | lt | le | gt | ge | is | isNot | isIn | yh
inductive IK where | val | range | enum | zip
inductive Bi where | len | min | max | abs | int | list | sorted | ord | chr | str | all
inductive Mb where | append | extend | pop | get | join | isalnum | upper | lower
set_option genCtorIdx false
inductive ME where
 | l (v:MV)
 | v (x:Nat)
 | and (es:List ME)
 | or (es:List ME)
 | not (e:ME)
 | neg (e:ME)
 | o (o:BOp) (a b:ME)
 | cmp (a:ME) (ops:List COp) (es:List ME)
 | ite (c a b:ME)
 | list (es:List ME)
 | tup (es:List ME)
 | dict (ks:List MV) (vs:List ME)
 | comp (elt:ME) (isTup:Bool) (tgt:List Nat) (ik:IK) (its:List ME) (ifs:List ME)
 | comp2 (elt:ME) (x:Nat) (it:ME) (isTup:Bool) (tgt:List Nat) (it2:ME) (ifs:List ME)
 | a (e:ME) (x:Nat)
 | sub (e i:ME)
 | slice (e lo hi:ME)
 | rev (e:ME)
 | f (f:Nat) (args:List ME)
 | c (c:Nat) (args:List ME)
 | b (b:Bi) (args:List ME)
 | m (e:ME) (x:Nat) (args:List ME)
 | n (e:ME) (m:Mb) (args:List ME)
inductive MT where
 | v (x:Nat)
 | tup (xs:List Nat)
 | a (e:ME) (x:Nat)
 | sub (e i:ME)
 | slice (e lo hi:ME)
inductive MS where
 | expr (e:ME)
 | ret (e:ME)
 | retNone
 | assign (t:MT) (e:ME)
 | ifs (c:ME) (a b:List MS)
 | whiles (c:ME) (b:List MS)
 | fors (isTup:Bool) (tgt:List Nat) (ik:IK) (its:List ME) (b:List MS)
 | raise
structure MF where
 params:List Nat
 dflts:List MV
 body:List MS
structure zfu where
 fn:Nat->Option MF
 meth:Nat->Nat->Option Nat
 init:Nat->Option Nat
 attr:Nat->Nat->Bool
theorem an {a b:Prop} (h:a) (k:b):a/\b:=⟨h,k⟩
theorem ff {P:Prop}(h:false=true):P:=Bool.noConfusion h
noncomputable def F1 {α:Type}:α->Bool:=fun _=>false
theorem G1{P:α->Prop}(x0:α):false=true->P x0:=ff
noncomputable def F2 {α β:Type}:α->β->Bool:=fun _ _=>false
theorem G2{P:α->β->Prop}(x0:α)(x1:β):false=true->P x0 x1:=ff
noncomputable def F3 {α β γ:Type}:α->β->γ->Bool:=fun _ _ _=>false
theorem G3{P:α->β->γ->Prop}(x0:α)(x1:β)(x2:γ):false=true->P x0 x1 x2:=ff
noncomputable def F4 {α β γ δ:Type}:α->β->γ->δ->Bool:=fun _ _ _ _=>false
theorem G4 {δ:Type}{P:α->β->γ->δ->Prop}(x0:α)(x1:β)(x2:γ)(x3:δ):false=true->P x0 x1 x2 x3:=ff
noncomputable def F5 {α β γ δ ε:Type}:α->β->γ->δ->ε->Bool:=fun _ _ _ _ _=>false
theorem G5 {δ ε:Type}{P:α->β->γ->δ->ε->Prop}(x0:α)(x1:β)(x2:γ)(x3:δ)(x4:ε):false=true->P x0 x1 x2 x3 x4:=ff
noncomputable def K2 {α β ζ:Type} (d:ζ):α->β->ζ:=fun _ _=>d
noncomputable def K3 {α β γ ζ:Type} (d:ζ):α->β->γ->ζ:=fun _ _ _=>d
noncomputable def K4 {α β γ δ ζ:Type} (d:ζ):α->β->γ->δ->ζ:=fun _ _ _ _=>d
noncomputable def K5 {α β γ δ ε ζ:Type} (d:ζ):α->β->γ->δ->ε->ζ:=fun _ _ _ _ _=>d
theorem nn{r:α}{P:Prop}(h:Option.none=some r):P:=by cases h
noncomputable def eN {α:Type} (v:MV) (f0:Option α):Option α:=@MV.casesOn (fun _=>Option α) v f0 (fun _=>.none) (fun _=>.none) (fun _=>.none) (fun _=>.none) (fun _=>.none)
@[elab_as_elim] theorem eNG {f0:Option α} {r:α} (h:eN v f0=some r) (k0:f0=some r->P (.none)):P v:=@MV.casesOn (fun v=>eN v f0=some r->P v) v k0 (fun _=>nn) (fun _=>nn) (fun _=>nn) (fun _=>nn) (fun _=>nn) h
noncomputable def eB {α:Type} (v:MV) (f0:Bool->Option α):Option α:=@MV.casesOn (fun _=>Option α) v (.none) f0 (fun _=>.none) (fun _=>.none) (fun _=>.none) (fun _=>.none)
@[elab_as_elim] theorem eBG {f0:Bool->Option α} {r:α} (h:eB v f0=some r) (k0:∀ x0,f0 x0=some r->P (.bool x0)):P v:=@MV.casesOn (fun v=>eB v f0=some r->P v) v (nn) k0 (fun _=>nn) (fun _=>nn) (fun _=>nn) (fun _=>nn) h
noncomputable def eI {α:Type} (v:MV) (f0:Int->Option α):Option α:=@MV.casesOn (fun _=>Option α) v (.none) (fun _=>.none) f0 (fun _=>.none) (fun _=>.none) (fun _=>.none)
@[elab_as_elim] theorem eIG {f0:Int->Option α} {r:α} (h:eI v f0=some r) (k0:∀ x0,f0 x0=some r->P (.int x0)):P v:=@MV.casesOn (fun v=>eI v f0=some r->P v) v (nn) (fun _=>nn) k0 (fun _=>nn) (fun _=>nn) (fun _=>nn) h
noncomputable def eS {α:Type} (v:MV) (f0:List Nat->Option α):Option α:=@MV.casesOn (fun _=>Option α) v (.none) (fun _=>.none) (fun _=>.none) f0 (fun _=>.none) (fun _=>.none)
@[elab_as_elim] theorem eSG {f0:List Nat->Option α} {r:α} (h:eS v f0=some r) (k0:∀ x0,f0 x0=some r->P (.str x0)):P v:=@MV.casesOn (fun v=>eS v f0=some r->P v) v (nn) (fun _=>nn) (fun _=>nn) k0 (fun _=>nn) (fun _=>nn) h
noncomputable def eR {α:Type} (v:MV) (f0:Nat->Option α):Option α:=@MV.casesOn (fun _=>Option α) v (.none) (fun _=>.none) (fun _=>.none) (fun _=>.none) f0 (fun _=>.none)
@[elab_as_elim] theorem eRG {f0:Nat->Option α} {r:α} (h:eR v f0=some r) (k0:∀ x0,f0 x0=some r->P (.ref x0)):P v:=@MV.casesOn (fun v=>eR v f0=some r->P v) v (nn) (fun _=>nn) (fun _=>nn) (fun _=>nn) k0 (fun _=>nn) h
noncomputable def eT {α:Type} (v:MV) (f0:List MV->Option α):Option α:=@MV.casesOn (fun _=>Option α) v (.none) (fun _=>.none) (fun _=>.none) (fun _=>.none) (fun _=>.none) f0
@[elab_as_elim] theorem eTG {f0:List MV->Option α} {r:α} (h:eT v f0=some r) (k0:∀ x0,f0 x0=some r->P (.tup x0)):P v:=@MV.casesOn (fun v=>eT v f0=some r->P v) v (nn) (fun _=>nn) (fun _=>nn) (fun _=>nn) (fun _=>nn) k0 h
noncomputable def eSR {α:Type} (v:MV) (f0:List Nat->Option α) (f1:Nat->Option α):Option α:=@MV.casesOn (fun _=>Option α) v (.none) (fun _=>.none) (fun _=>.none) f0 f1 (fun _=>.none)
@[elab_as_elim] theorem eSRG {f0:List Nat->Option α} {f1:Nat->Option α} {r:α} (h:eSR v f0 f1=some r) (k0:∀ x0,f0 x0=some r->P (.str x0)) (k1:∀ x0,f1 x0=some r->P (.ref x0)):P v:=@MV.casesOn (fun v=>eSR v f0 f1=some r->P v) v (nn) (fun _=>nn) (fun _=>nn) k0 k1 (fun _=>nn) h
noncomputable def eBI {α:Type} (v:MV) (f0:Bool->Option α) (f1:Int->Option α):Option α:=@MV.casesOn (fun _=>Option α) v (.none) f0 f1 (fun _=>.none) (fun _=>.none) (fun _=>.none)
@[elab_as_elim] theorem eBIG {f0:Bool->Option α} {f1:Int->Option α} {r:α} (h:eBI v f0 f1=some r) (k0:∀ x0,f0 x0=some r->P (.bool x0)) (k1:∀ x0,f1 x0=some r->P (.int x0)):P v:=@MV.casesOn (fun v=>eBI v f0 f1=some r->P v) v (nn) k0 k1 (fun _=>nn) (fun _=>nn) (fun _=>nn) h
noncomputable def eSRT {α:Type} (v:MV) (f0:List Nat->Option α) (f1:Nat->Option α) (f2:List MV->Option α):Option α:=@MV.casesOn (fun _=>Option α) v (.none) (fun _=>.none) (fun _=>.none) f0 f1 f2
@[elab_as_elim] theorem eSRTG {f0:List Nat->Option α} {f1:Nat->Option α} {f2:List MV->Option α} {r:α} (h:eSRT v f0 f1 f2=some r) (k0:∀ x0,f0 x0=some r->P (.str x0)) (k1:∀ x0,f1 x0=some r->P (.ref x0)) (k2:∀ x0,f2 x0=some r->P (.tup x0)):P v:=@MV.casesOn (fun v=>eSRT v f0 f1 f2=some r->P v) v (nn) (fun _=>nn) (fun _=>nn) k0 k1 k2 h
noncomputable def eISR {α:Type} (v:MV) (f0:Int->Option α) (f1:List Nat->Option α) (f2:Nat->Option α):Option α:=@MV.casesOn (fun _=>Option α) v (.none) (fun _=>.none) f0 f1 f2 (fun _=>.none)
@[elab_as_elim] theorem eISRG {f0:Int->Option α} {f1:List Nat->Option α} {f2:Nat->Option α} {r:α} (h:eISR v f0 f1 f2=some r) (k0:∀ x0,f0 x0=some r->P (.int x0)) (k1:∀ x0,f1 x0=some r->P (.str x0)) (k2:∀ x0,f2 x0=some r->P (.ref x0)):P v:=@MV.casesOn (fun v=>eISR v f0 f1 f2=some r->P v) v (nn) (fun _=>nn) k0 k1 k2 (fun _=>nn) h
noncomputable def eIR {α:Type} (v:MV) (f0:Int->Option α) (f1:Nat->Option α):Option α:=@MV.casesOn (fun _=>Option α) v (.none) (fun _=>.none) f0 (fun _=>.none) f1 (fun _=>.none)
@[elab_as_elim] theorem eIRG {f0:Int->Option α} {f1:Nat->Option α} {r:α} (h:eIR v f0 f1=some r) (k0:∀ x0,f0 x0=some r->P (.int x0)) (k1:∀ x0,f1 x0=some r->P (.ref x0)):P v:=@MV.casesOn (fun v=>eIR v f0 f1=some r->P v) v (nn) (fun _=>nn) k0 (fun _=>nn) k1 (fun _=>nn) h
noncomputable def eA {α:Type} (v:MV) (f0:Option α) (f1:Bool->Option α) (f2:Int->Option α) (f3:List Nat->Option α) (f4:Nat->Option α) (f5:List MV->Option α):Option α:=@MV.casesOn (fun _=>Option α) v f0 f1 f2 f3 f4 f5
@[elab_as_elim] theorem eAG {f0:Option α} {f1:Bool->Option α} {f2:Int->Option α} {f3:List Nat->Option α} {f4:Nat->Option α} {f5:List MV->Option α} {r:α} (h:eA v f0 f1 f2 f3 f4 f5=some r) (k0:f0=some r->P (.none)) (k1:∀ x0,f1 x0=some r->P (.bool x0)) (k2:∀ x0,f2 x0=some r->P (.int x0)) (k3:∀ x0,f3 x0=some r->P (.str x0)) (k4:∀ x0,f4 x0=some r->P (.ref x0)) (k5:∀ x0,f5 x0=some r->P (.tup x0)):P v:=@MV.casesOn (fun v=>eA v f0 f1 f2 f3 f4 f5=some r->P v) v k0 k1 k2 k3 k4 k5 h
noncomputable def eNI {α:Type} (v:MV) (f0:Option α) (f1:Int->Option α):Option α:=@MV.casesOn (fun _=>Option α) v f0 (fun _=>.none) f1 (fun _=>.none) (fun _=>.none) (fun _=>.none)
@[elab_as_elim] theorem eNIG {f0:Option α} {f1:Int->Option α} {r:α} (h:eNI v f0 f1=some r) (k0:f0=some r->P (.none)) (k1:∀ x0,f1 x0=some r->P (.int x0)):P v:=@MV.casesOn (fun v=>eNI v f0 f1=some r->P v) v k0 (fun _=>nn) k1 (fun _=>nn) (fun _=>nn) (fun _=>nn) h
noncomputable def eNB {α:Type} (v:MV) (f0:Option α) (f1:Bool->Option α):Option α:=@MV.casesOn (fun _=>Option α) v f0 f1 (fun _=>.none) (fun _=>.none) (fun _=>.none) (fun _=>.none)
@[elab_as_elim] theorem eNBG {f0:Option α} {f1:Bool->Option α} {r:α} (h:eNB v f0 f1=some r) (k0:f0=some r->P (.none)) (k1:∀ x0,f1 x0=some r->P (.bool x0)):P v:=@MV.casesOn (fun v=>eNB v f0 f1=some r->P v) v k0 k1 (fun _=>nn) (fun _=>nn) (fun _=>nn) (fun _=>nn) h
noncomputable def qL {α:Type} (o:Option za) (f0:List MV->Option α):Option α:=@Option.casesOn za (fun _=>Option α) o .none fun o=>@za.casesOn (fun _=>Option α) o f0 (fun _=>.none) (fun _ _=>.none) (.none) (fun _=>.none)
theorem qLG{f0:List MV->Option α}{r:α}{P:Prop}(h:qL o f0=some r)(k0:∀ x0,o=some (.list x0)->f0 x0=some r->P):P:=by
 cases o with
 | none=>exact nn h
 | some o=>cases o <;> first | exact nn h | exact k0 _ rfl h
noncomputable def qD {α:Type} (o:Option za) (f0:List (MV×MV)->Option α):Option α:=@Option.casesOn za (fun _=>Option α) o .none fun o=>@za.casesOn (fun _=>Option α) o (fun _=>.none) f0 (fun _ _=>.none) (.none) (fun _=>.none)
theorem qDG{f0:List (MV×MV)->Option α}{r:α}{P:Prop}(h:qD o f0=some r)(k0:∀ x0,o=some (.dict x0)->f0 x0=some r->P):P:=by
 cases o with
 | none=>exact nn h
 | some o=>cases o <;> first | exact nn h | exact k0 _ rfl h
noncomputable def qI {α:Type} (o:Option za) (f0:Nat->List (Nat×MV)->Option α):Option α:=@Option.casesOn za (fun _=>Option α) o .none fun o=>@za.casesOn (fun _=>Option α) o (fun _=>.none) (fun _=>.none) f0 (.none) (fun _=>.none)
theorem qIG{f0:Nat->List (Nat×MV)->Option α}{r:α}{P:Prop}(h:qI o f0=some r)(k0:∀ x0 x1,o=some (.inst x0 x1)->f0 x0 x1=some r->P):P:=by
 cases o with
 | none=>exact nn h
 | some o=>cases o <;> first | exact nn h | exact k0 _ _ rfl h
noncomputable def qLD {α:Type} (o:Option za) (f0:List MV->Option α) (f1:List (MV×MV)->Option α):Option α:=@Option.casesOn za (fun _=>Option α) o .none fun o=>@za.casesOn (fun _=>Option α) o f0 f1 (fun _ _=>.none) (.none) (fun _=>.none)
theorem zj6{f0:List MV->Option α}{f1:List (MV×MV)->Option α}{r:α}{P:Prop}(h:qLD o f0 f1=some r)(k0:∀ x0,o=some (.list x0)->f0 x0=some r->P)(k1:∀ x0,o=some (.dict x0)->f1 x0=some r->P):P:=by
 cases o with
 | none=>exact nn h
 | some o=>cases o <;> first | exact nn h | exact k0 _ rfl h | exact k1 _ rfl h
noncomputable def qLF {α:Type} (o:Option za) (f0:List MV->Option α) (f1:List Int->Option α):Option α:=@Option.casesOn za (fun _=>Option α) o .none fun o=>@za.casesOn (fun _=>Option α) o f0 (fun _=>.none) (fun _ _=>.none) (.none) f1
theorem zm3{f0:List MV->Option α}{f1:List Int->Option α}{r:α}{P:Prop}(h:qLF o f0 f1=some r)(k0:∀ x0,o=some (.list x0)->f0 x0=some r->P)(k1:∀ x0,o=some (.frz x0)->f1 x0=some r->P):P:=by
 cases o with
 | none=>exact nn h
 | some o=>cases o <;> first | exact nn h | exact k0 _ rfl h | exact k1 _ rfl h
noncomputable def aN {α β:Type} (l:List β) (f:Option α):Option α:=@List.casesOn β (fun _=>Option α) l f fun _ _=>.none
@[elab_as_elim] theorem aNG {l:List β} {f:Option α} {r:α} {P:List β->Prop} (h:aN l f=some r) (k:f=some r->P []):P l:=@List.casesOn β (fun l=>aN l f=some r->P l) l k (fun _ _=>nn) h
noncomputable def aC {α β:Type} (l:List β) (f:β->List β->Option α):Option α:=@List.casesOn β (fun _=>Option α) l .none f
@[elab_as_elim] theorem aCG {l:List β} {f:β->List β->Option α} {r:α} {P:List β->Prop} (h:aC l f=some r) (k:∀ v q,f v q=some r->P (v :: q)):P l:=@List.casesOn β (fun l=>aC l f=some r->P l) l nn k h
noncomputable def a1 {α β:Type} (l:List β) (f:β->Option α):Option α:=aC l fun v q=>aN q (f v)
@[elab_as_elim] theorem a1G {l:List β} {f:β->Option α} {r:α} {P:List β->Prop} (h:a1 l f=some r) (k:∀ v,f v=some r->P [v]):P l:=aCG h fun v _ h=>aNG (P:=fun q=>P (v :: q)) h (k v)
noncomputable def a2 {α β:Type} (l:List β) (f:β->β->Option α):Option α:=aC l fun v q=>a1 q (f v)
@[elab_as_elim] theorem a2G {l:List β} {f:β->β->Option α} {r:α} {P:List β->Prop} (h:a2 l f=some r) (k:∀ v w,f v w=some r->P [v,w]):P l:=aCG h fun v _ h=>a1G (P:=fun q=>P (v :: q)) h (k v)
noncomputable def aX {α β:Type} (l:List β) (x:Option α) (f:β->List β->Option α):Option α:=@List.casesOn β (fun _=>Option α) l x f
@[elab_as_elim] theorem aXG {l:List β} {x:Option α} {f:β->List β->Option α} {r:α} {P:List β->Prop} (h:aX l x f=some r) (k0:x=some r->P []) (k:∀ v q,f v q=some r->P (v :: q)):P l:=@List.casesOn β (fun l=>aX l x f=some r->P l) l k0 k h
noncomputable def oX {α β:Type} (o:Option β) (x:Option α) (f:β->Option α):Option α:=@Option.casesOn β (fun _=>Option α) o x f
@[elab_as_elim] theorem oXG {o:Option β} {x:Option α} {f:β->Option α} {r:α} {P:Option β->Prop} (h:oX o x f=some r) (k0:x=some r->P .none) (k:∀ v,f v=some r->P (some v)):P o:=@Option.casesOn β (fun o=>oX o x f=some r->P o) o k0 k h
theorem iG[Decidable c]{x:Option α}{r:α}{P:Prop}(h:(if c then x else .none)=some r)(k:c->x=some r->P):P:=if hc:c then k hc ((if_pos hc).symm.trans h) else nn ((if_neg hc).symm.trans h)
theorem iG2[Decidable c]{x y:Option α}{r:α}{P:Prop}(h:(if c then x else y)=some r)(k:c->x=some r->P)(k':¬ c->y=some r->P):P:=if hc:c then k hc ((if_pos hc).symm.trans h) else k' hc ((if_neg hc).symm.trans h)
@[elab_as_elim] theorem sG {a c:α} {P:α->Prop} (h:some a=some c) (k:P a):P c:=by cases h;exact k
@[elab_as_elim] theorem pG {a:α} {b:β} {c:α} {d:β} {P:α->β->Prop} (h:some (a,b)=some (c,d)) (k:P a b):P c d:=by cases h;exact k
theorem bG{x:Option α}{f:α->Option β}{r:β}{P:Prop}(h:x.bind f=some r)(k:∀ a,x=some a->f a=some r->P):P:=by
 cases x with
 | none=>exact nn h
 | some a=>exact k a rfl h
theorem bG2{x:Option (α×γ)}{f:α×γ->Option β}{r:β}{P:Prop}(h:x.bind f=some r)(k:∀ a c,x=some (a,c)->f (a,c)=some r->P):P:=bG h fun a=>k a.1 a.2
theorem bG3 {δ:Type}{x:Option (α×γ×δ)}{f:α×γ×δ->Option β}{r:β}{P:Prop}(h:x.bind f=some r)(k:∀ a c d,x=some (a,c,d)->f (a,c,d)=some r->P):P:=bG h fun a=>k a.1 a.2.1 a.2.2
@[elab_as_elim] theorem mG {x:Option α} {f:α->β} {r:β} {P:β->Prop} (h:x.map f=some r) (k:∀ a,x=some a->P (f a)):P r:=by
 cases x with
 | none=>exact nn h
 | some a=>cases h;exact k a rfl
noncomputable def upd (m:Loc) (x:Nat) (v:MV):Loc:=fun y=>if y=x then some v else m y
noncomputable def hide (xs:List Nat) (m:Loc):Loc:=fun y=>if xs.elem y then .none else m y
noncomputable def lk (x:Nat):List (Nat×MV)->Option MV
 | []=>.none
 | (y,v) :: r=>if y=x then some v else lk x r
noncomputable def st (x:Nat) (v:MV):List (Nat×MV)->List (Nat×MV)
 | []=>[(x,v)]
 | (y,w) :: r=>if y=x then (y,v) :: r else (y,w) :: st x v r
noncomputable def dlk (k:MV):List (MV×MV)->Option MV
 | []=>.none
 | (y,v) :: r=>if y.beq k then some v else dlk k r
theorem zgz (k y v:MV)(r:List (MV×MV)):dlk k ((y,v) :: r)=if y.beq k then some v else dlk k r:=rfl
theorem lkE (x y:Nat)(v:MV)(r:List (Nat×MV)):lk x ((y,v) :: r)=if y=x then some v else lk x r:=rfl
theorem stE (x:Nat)(v:MV)(y:Nat)(w:MV)(r:List (Nat×MV)):st x v ((y,w) :: r)=if y=x then (y,v) :: r else (y,w) :: st x v r:=rfl
noncomputable def dst (k v:MV) (l:List (MV×MV)):List (MV×MV):=
 if (dlk k l).isSome then l.map (fun p=>if p.1.beq k then (p.1,v) else p) else l ++ [(k,v)]
noncomputable def ddel (k:MV) (l:List (MV×MV)):List (MV×MV):=l.filter fun p=>!p.1.beq k
noncomputable def isS (v:MV):Bool:=@MV.casesOn (fun _=>Bool) v false F1 F1 (fun _=>true) F1 F1
noncomputable def isI (v:MV):Bool:=@MV.casesOn (fun _=>Bool) v false F1 (fun _=>true) F1 F1 F1
noncomputable def isN (v:MV):Bool:=@MV.casesOn (fun _=>Bool) v true F1 F1 F1 F1 F1
noncomputable def keyFits (k:MV) (l:List (MV×MV)):Bool:=@MV.casesOn (fun _=>Bool) k false F1 (fun _=>l.all fun p=>isI p.1) (fun _=>l.all fun p=>isS p.1) F1 F1
noncomputable def pyEqL (eq:MV->MV->Option Bool) (l:List MV):List MV->Option Bool:=
 @List.rec MV (fun _=>List MV->Option Bool) (fun q=>aX q (some true) fun _ _=>some false) (fun a _ ih q=>aX q (some false) fun b q=>(eq a b).bind fun t=>(ih q).bind fun u=>some (t && u)) l
noncomputable def pyEq (J:Hp) (n:Nat):MV->MV->Option Bool:=
 @Nat.rec (fun _=>MV->MV->Option Bool) (fun _ _=>.none) (fun _ ih a b=>eA a (eN b (some true)) (fun x=>eB b fun y=>some (x == y)) (fun x=>eI b fun y=>some (decide (x=y))) (fun x=>eS b fun y=>some (x == y))
  (fun i=>eR b fun j=>qL J[i]? fun x=>qL J[j]? fun y=>if x.length=y.length then pyEqL ih x y else some false) (fun x=>eT b fun y=>if x.length=y.length then pyEqL ih x y else .none)) n
noncomputable def small (i:Int):Bool:=decide (-(2 ^ 62:Int) < i) && decide (i < (2 ^ 62:Int))
noncomputable def binop (o:BOp) (a b:MV) (J:Hp):Option (MV×Hp):=@BOp.casesOn (fun _=>Option (MV×Hp)) o
 (eISR a (fun x=>eI b fun y=>some (.int (x+y),J)) (fun x=>eS b fun y=>if x.length+y.length<=1000000 then some (.str (x ++ y),J) else .none)
  (fun i=>eR b fun j=>qL J[i]? fun x=>qL J[j]? fun y=>if x.length+y.length<=1000000 then some (.ref J.length,J ++ [.list (x ++ y)]) else .none))
 (eI a fun x=>eI b fun y=>some (.int (x - y),J))
 (eIR a (fun x=>eI b fun y=>if small x || small y then some (.int (x * y),J) else .none)
  (fun i=>eI b fun n=>qL J[i]? fun l=>a1 l fun v=>if decide (0<=n) && decide (n<=1000000) then some (.ref J.length,J ++ [.list (List.replicate n.toNat v)]) else .none))
 (eI a fun x=>eI b fun y=>if decide (0 < y) && decide (y < 2000000) then some (.int (x.fdiv y),J) else .none)
 (eI a fun x=>eI b fun y=>if ¬ y=0 then some (.int (x.fmod y),J) else .none)
 (eI a fun x=>eI b fun y=>if decide (0<=y) && decide (y<=100) && small x then some (.int (x ^ y.toNat),J) else .none)
noncomputable def isIn (a b:MV) (J:Hp):Option Bool:=eS a fun k=>eSR b (fun s=>a1 k fun c=>some (s.elem c))
 (fun j=>qLD J[j]? (fun l=>if l.all isS then some (l.any (fun v=>v.beq (.str k))) else .none) (fun l=>if keyFits (.str k) l then some (dlk (.str k) l).isSome else .none))
noncomputable def isSame (a b:MV):Option Bool:=eNB b (eA a (some true) (fun _=>some false) (fun _=>some false) (fun _=>some false) (fun _=>some false) (fun _=>some false))
 fun y=>eA a (some false) (fun x=>some (x == y)) (fun _=>some false) (fun _=>some false) (fun _=>some false) (fun _=>some false)
noncomputable def cmpop (o:COp) (a b:MV) (J:Hp):Option Bool:=@COp.casesOn (fun _=>Option Bool) o (pyEq J 4 a b) ((pyEq J 4 a b).bind fun t=>some (!t))
 (eI a fun x=>eI b fun y=>some (decide (x < y))) (eI a fun x=>eI b fun y=>some (decide (x<=y))) (eI a fun x=>eI b fun y=>some (decide (y < x))) (eI a fun x=>eI b fun y=>some (decide (y<=x)))
 (isSame a b) ((isSame a b).bind fun t=>some (!t)) (isIn a b J) ((isIn a b J).bind fun t=>some (!t))
noncomputable def truth (v:MV):Option Bool:=eB v some
noncomputable def chrs (s:List Nat):List MV:=s.map fun c=>.str [c]
noncomputable abbrev ItT:=List MV×List (Nat×Option (List MV))×Hp
noncomputable def iterOf (k:IK) (vs:List MV) (J:Hp):Option ItT:=@IK.casesOn (fun _=>Option ItT) k
 (a1 vs fun v=>eSRT v (fun s=>some (chrs s,[],J)) (fun i=>qL J[i]? fun l=>some (l,[(i,some l)],J)) (fun l=>some (l,[],J)))
 (a1 vs fun v=>eI v fun n=>if 0<=n/\n<=1000000 then some ((List.range n.toNat).map fun (i:Nat)=>.int (i:Int),[],J) else .none)
 (a1 vs fun v=>eSR v (fun s=>some ((chrs s).zipIdx.map fun p=>.tup [.int (p.2:Int),p.1],[],J)) (fun i=>qL J[i]? fun l=>some (l.zipIdx.map fun p=>.tup [.int (p.2:Int),p.1],[(i,some l)],J)))
 (a2 vs fun v w=>eR v fun i=>eR w fun j=>qL J[i]? fun l=>qL J[j]? fun q=>if l.length=q.length then some (List.zipWith (fun a b=>MV.tup [a,b]) l q,[(i,some l),(j,some q),(J.length,.none)],J ++ [.hid]) else .none)
noncomputable def isHid (o:Option za):Bool:=@Option.casesOn za (fun _=>Bool) o false fun o=>@za.casesOn (fun _=>Bool) o F1 F1 F2 true F1
noncomputable def isLst (l':List MV) (o:Option za):Bool:=@Option.casesOn za (fun _=>Bool) o false fun o=>@za.casesOn (fun _=>Bool) o (fun l=>MV.beqs l l') F1 F2 false F1
noncomputable def chkOk (J:Hp) (chk:List (Nat×Option (List MV))):Bool:=chk.all fun p=>@Option.casesOn (List MV) (fun _=>Bool) p.2 (isHid J[p.1]?) fun l'=>isLst l' J[p.1]?
noncomputable def bindV (xs:List Nat):List MV->Loc->Option Loc:=@List.rec Nat (fun _=>List MV->Loc->Option Loc) (fun vs m=>aN vs (some m)) (fun x _ ih vs m=>aC vs fun v q=>ih q (upd m x v)) xs
noncomputable def bindT (isTup:Bool) (tgt:List Nat) (v:MV) (m:Loc):Option Loc:=@Bool.casesOn (fun _=>Option Loc) isTup (a1 tgt fun x=>some (upd m x v)) (eT v fun vs=>bindV tgt vs m)
noncomputable def compLoop (chk:List (Nat×Option (List MV))) (f:MV->Hp->Option (List MV×Hp)) (l:List MV):Hp->Option (List MV×Hp):=
 @List.rec MV (fun _=>Hp->Option (List MV×Hp)) (fun J=>if chkOk J chk then some ([],J) else .none) (fun v _ ih J=>if chkOk J chk then (f v J).bind fun p=>(ih p.2).bind fun q=>some (p.1 ++ q.1,q.2) else .none) l
noncomputable def rowO {α:Type} (v:MV) (f:List Nat->Int->Option α):Option α:=eT v fun l=>a2 l fun p q=>eS p fun s=>eI q fun i=>f s i
noncomputable def rowLt (v w:MV):Bool:=(rowO v fun a x=>rowO w fun b y=>some (if a=b then decide (x < y) else decide (a < b))).getD false
noncomputable def isRow (v:MV):Bool:=(rowO v fun _ _=>some ()).isSome
noncomputable def runT {α:Type} (n:Nat) (lt:Nat->Nat->Bool):PySem.W.KasT α->Option α
 | .ret a=>some a
 | .ask i j k=>if i < n/\j < n then runT n lt (k (lt i j)) else .none
noncomputable def sortRows (l:List MV):Option (List MV):=
 if l.length < 2 then some l else
  (runT l.length (fun i j=>rowLt (l.getD i .none) (l.getD j .none)) (PySem.W.kas_sort l.length)).bind fun p=>
   if p.toList.all (fun i=>decide (i < l.length)) then some (p.toList.map fun i=>l.getD i .none) else .none
noncomputable def digits:Nat->Nat->List Nat
 | 0,_=>[]
 | f+1,n=>if n < 10 then [48+n] else digits f (n / 10) ++ [48+n % 10]
noncomputable def isAlnumC (c:Nat):Bool:=(48<=c && c<=57) || (65<=c && c<=90) || (97<=c && c<=122)
noncomputable def upC (c:Nat):Nat:=if 97<=c && c<=122 then c - 32 else c
noncomputable def loC (c:Nat):Nat:=if 65<=c && c<=90 then c+32 else c
noncomputable def ascii (s:List Nat):Bool:=s.all fun c=>Nat.blt c 128
noncomputable def strsOf (l:List MV):Option (List (List Nat)):=@List.rec MV (fun _=>Option (List (List Nat))) (some []) (fun v _ ih=>eS v fun s=>ih.bind fun r=>some (s :: r)) l
noncomputable def joinS (sep:List Nat):List (List Nat)->List Nat
 | []=>[]
 | [s]=>s
 | s :: r=>s ++ sep ++ joinS sep r
theorem zj5 (sep s t:List Nat)(r:List (List Nat)):joinS sep (s :: t :: r)=s ++ sep ++ joinS sep (t :: r):=rfl
noncomputable def callB (b:Bi) (vs:List MV) (J:Hp):Option (MV×Hp):=@Bi.casesOn (fun _=>Option (MV×Hp)) b
 (a1 vs fun v=>eSR v (fun s=>if s.length<=1000000 then some (.int (s.length:Int),J) else .none) (fun i=>qL J[i]? fun l=>if l.length<=1000000 then some (.int (l.length:Int),J) else .none))
 (a2 vs fun v w=>eI v fun a=>eI w fun b=>some (.int (if b < a then b else a),J))
 (a2 vs fun v w=>eI v fun a=>eI w fun b=>some (.int (if a < b then b else a),J))
 (a1 vs fun v=>eI v fun a=>some (.int (a.natAbs:Int),J))
 (a1 vs fun v=>eBI v (fun a=>some (.int (if a then 1 else 0),J)) fun a=>some (.int a,J))
 (a1 vs fun v=>eR v fun i=>qLD J[i]? (fun l=>if l.length<=1000000 then some (.ref J.length,J ++ [.list l]) else .none) (fun l=>if l.length<=1000000 then some (.ref J.length,J ++ [.list (l.map (·.1))]) else .none))
 (a1 vs fun v=>eR v fun i=>qLD J[i]? (fun l=>if l.all isRow && decide (l.length<=16) then (sortRows l).bind fun r=>some (.ref J.length,J ++ [.list r]) else .none) (fun l=>aN l (some (.ref J.length,J ++ [.list []]))))
 (a1 vs fun v=>eS v fun s=>a1 s fun c=>some (.int (c:Int),J))
 (a1 vs fun v=>eI v fun i=>if decide (0<=i) && decide (i < 128) then some (.str [i.toNat],J) else .none)
 (a1 vs fun v=>eI v fun i=>if decide (0<=i) && decide (i < 128) then some (.str (digits 4 i.toNat),J) else .none)
 (a1 vs fun v=>eR v fun i=>qL J[i]? fun l=>aN l (some (.bool true,J)))
noncomputable def methB (m:Mb) (r:MV) (vs:List MV) (J:Hp):Option (MV×Hp):=@Mb.casesOn (fun _=>Option (MV×Hp)) m
 (eR r fun i=>a1 vs fun v=>qL J[i]? fun l=>if l.length<=1000000 then some (.none,J.set i (.list (l ++ [v]))) else .none)
 (eR r fun i=>a1 vs fun v=>eR v fun j=>qL J[i]? fun l=>qL J[j]? fun q=>if i≠j/\l.length+q.length<=1000000 then some (.none,J.set i (.list (l ++ q))) else .none)
 (eR r fun i=>aX vs (qL J[i]? fun l=>if l.length<=1000000 then l.getLast?.bind fun v=>some (v,J.set i (.list l.dropLast)) else .none) fun k rest=>
  aX rest (qD J[i]? fun l=>if keyFits k l && decide (l.length<=1000000) then (dlk k l).bind fun v=>some (v,J.set i (.dict (ddel k l))) else .none) fun d rest=>
   aN rest (eN d (qD J[i]? fun l=>if keyFits k l && decide (l.length<=1000000) then oX (dlk k l) (some (.none,J)) fun v=>some (v,J.set i (.dict (ddel k l))) else .none)))
 (eR r fun i=>a2 vs fun k d=>eN d (qD J[i]? fun l=>if keyFits k l then some ((dlk k l).getD .none,J) else .none))
 (eS r fun sep=>a1 vs fun v=>eR v fun i=>qL J[i]? fun l=>(strsOf l).bind fun ss=>if ss.foldl (fun n s=>n+s.length+sep.length) 0<=1000000 then some (.str (joinS sep ss),J) else .none)
 (eS r fun s=>aN vs (if ascii s then some (.bool (!s.isEmpty && s.all isAlnumC),J) else .none))
 (eS r fun s=>aN vs (if ascii s/\s.length<=1000000 then some (.str (s.map upC),J) else .none))
 (eS r fun s=>aN vs (if ascii s/\s.length<=1000000 then some (.str (s.map loC),J) else .none))
noncomputable def tyO (o:Option za):Nat:=@Option.casesOn za (fun _=>Nat) o 0 fun o=>@za.casesOn (fun _=>Nat) o (fun _=>2) (fun _=>3) (fun _ _=>0) 0 (fun _=>0)
noncomputable def tyOf (v:MV) (J:Hp):Nat:=@MV.casesOn (fun _=>Nat) v 0 (fun _=>0) (fun _=>0) (fun _=>1) (fun i=>tyO J[i]?) (fun _=>0)
noncomputable def subL (l:List MV) (i:MV):Option MV:=eI i fun k=>if 0<=k/\k < 1000000000 then l[k.toNat]? else .none
noncomputable def subGet (a i:MV) (J:Hp):Option MV:=eSRT a (fun s=>eI i fun k=>if 0<=k/\k < 1000000000 then (s[k.toNat]?).bind (fun c=>some (.str [c])) else .none)
 (fun j=>qLD J[j]? (fun l=>subL l i) fun l=>if keyFits i l then dlk i l else .none) (fun l=>subL l i)
noncomputable def bnd (n d:Nat) (v:MV):Option Nat:=eNI v (some d) fun i=>if 0<=i then some (min i.toNat n) else .none
noncomputable def listAt (J:Hp) (j:Nat):Option (List MV):=qLF J[j]? some fun f=>some (f.map .int)
noncomputable def sliceGet (a lo hi:MV) (J:Hp):Option (MV×Hp):=eSR a
 (fun s=>(bnd s.length s.length lo).bind fun l=>(bnd s.length s.length hi).bind fun h=>if isN lo=false/\s.length<=1000000 then some (.str ((s.take h).drop l),J) else .none)
 (fun j=>(listAt J j).bind fun s=>if s.length<=1000000 then (bnd s.length 0 lo).bind fun l=>(bnd s.length s.length hi).bind fun h=>some (.ref J.length,J ++ [.list ((s.take h).drop l)]) else .none)
noncomputable def setAttr (P:zfu) (a:MV) (x:Nat) (v:MV) (J:Hp):Option Hp:=eR a fun i=>qI J[i]? fun c l=>if P.attr c x && decide (l.length<=100) then some (J.set i (.inst c (st x v l))) else .none
noncomputable def setSub (a i v:MV) (J:Hp):Option Hp:=eR a fun j=>qLD J[j]?
 (fun l=>eI i fun k=>if decide (0<=k) && decide (k.toNat < l.length) && decide (k < 1000000000) then some (J.set j (.list (l.set k.toNat v))) else .none)
 (fun l=>if keyFits i l && decide (l.length<=1000000) then some (J.set j (.dict (dst i v l))) else .none)
noncomputable def setSlice (a lo hi v:MV) (J:Hp):Option Hp:=eR a fun j=>eI lo fun p=>eI hi fun q=>eR v fun k=>qL J[j]? fun l=>qL J[k]? fun w=>
 if decide (0<=p) && decide (p<=q) && decide (q.toNat<=l.length) && decide (j≠k) && decide (l.length+w.length<=1000000) then some (J.set j (.list (l.take p.toNat ++ w ++ l.drop q.toNat))) else .none
noncomputable def mkDict (ks:List MV):List MV->List (MV×MV)->Option (List (MV×MV)):=
 @List.rec MV (fun _=>List MV->List (MV×MV)->Option (List (MV×MV))) (fun vs d=>aN vs (some d)) (fun k _ ih vs d=>aC vs fun v vs=>if keyFits k d then ih vs (dst k v d) else .none) ks
noncomputable def noRef (v:MV):Bool:=@MV.casesOn (fun _=>Bool) v true (fun _=>true) (fun _=>true) (fun _=>true) F1 F1
noncomputable abbrev CallT:=Nat->List MV->Hp->Option (MV×Hp)
section
variable (P:zfu)(call:CallT)
mutual
noncomputable def evalE:ME->Loc->Hp->Option (MV×Hp)
 | .l v,_,J=>if noRef v then some (v,J) else .none
 | .v x,m,J=>(m x).bind fun v=>some (v,J)
 | .and es,m,J=>evalAnd es m J
 | .or es,m,J=>evalOr es m J
 | .not e,m,J=>(evalE e m J).bind fun p=>(truth p.1).bind fun b=>some (.bool (!b),p.2)
 | .neg e,m,J=>(evalE e m J).bind fun p=>eI p.1 fun i=>some (.int (-i),p.2)
 | .o o a b,m,J=>(evalE a m J).bind fun p=>(evalE b m p.2).bind fun q=>binop o p.1 q.1 q.2
 | .cmp a ops es,m,J=>(evalE a m J).bind fun p=>evalCmp p.1 ops es m p.2
 | .ite c a b,m,J=>(evalE c m J).bind fun p=>(truth p.1).bind fun t=>if t then evalE a m p.2 else evalE b m p.2
 | .list es,m,J=>(evalL es m J).bind fun p=>some (.ref p.2.length,p.2 ++ [.list p.1])
 | .tup es,m,J=>(evalL es m J).bind fun p=>some (.tup p.1,p.2)
 | .dict ks vs,m,J=>(evalL vs m J).bind fun p=>(mkDict ks p.1 []).bind fun d=>some (.ref p.2.length,p.2 ++ [.dict d])
 | .comp elt isTup tgt ik its ifs,m,J=>(evalL its m J).bind fun p=>(iterOf ik p.1 p.2).bind fun q=>
   (compLoop q.2.1 (fun v J=>(bindT isTup tgt v (hide tgt m)).bind fun m'=>(evalAll ifs m' J).bind fun t=>
    if t.1 then (evalE elt m' t.2).bind fun w=>some ([w.1],w.2) else some ([],t.2)) q.1 q.2.2).bind fun r=>
    if r.1.length<=1000000 then some (.ref r.2.length,r.2 ++ [.list r.1]) else .none
 | .comp2 elt x it isTup tgt it2 ifs,m,J=>(evalE it m J).bind fun p=>(iterOf .val [p.1] p.2).bind fun q=>
   (compLoop q.2.1 (fun v J=>(bindT false [x] v (hide (x :: tgt) m)).bind fun m1=>(some (true,J):Option (Bool×Hp)).bind fun t1=>
    if t1.1 then (evalE it2 m1 t1.2).bind fun p2=>(iterOf .val [p2.1] p2.2).bind fun q2=>
     compLoop q2.2.1 (fun u J=>(bindT isTup tgt u m1).bind fun m'=>(evalAll ifs m' J).bind fun t=>
      if t.1 then (evalE elt m' t.2).bind fun w=>some ([w.1],w.2) else some ([],t.2)) q2.1 q2.2.2
    else some ([],t1.2)) q.1 q.2.2).bind fun r=>
    if r.1.length<=1000000 then some (.ref r.2.length,r.2 ++ [.list r.1]) else .none
 | .a e x,m,J=>(evalE e m J).bind fun p=>eR p.1 fun i=>qI p.2[i]? fun c l=>if P.attr c x then (lk x l).bind fun v=>some (v,p.2) else .none
 | .sub e i,m,J=>(evalE e m J).bind fun p=>(evalE i m p.2).bind fun q=>(subGet p.1 q.1 q.2).bind fun v=>some (v,q.2)
 | .slice e lo hi,m,J=>(evalE e m J).bind fun p=>(evalE lo m p.2).bind fun q=>(evalE hi m q.2).bind fun r=>sliceGet p.1 q.1 r.1 r.2
 | .rev e,m,J=>(evalE e m J).bind fun p=>eR p.1 fun i=>qL p.2[i]? fun l=>if l.length<=1000000 then some (.ref p.2.length,p.2 ++ [.list l.reverse]) else .none
 | .f f args,m,J=>(evalL args m J).bind fun p=>call f p.1 p.2
 | .c c args,m,J=>(evalL args m J).bind fun p=>(P.init c).bind fun f=>(call f (.ref p.2.length :: p.1) (p.2 ++ [.inst c []])).bind fun q=>eN q.1 (some (.ref p.2.length,q.2))
 | .b b args,m,J=>(evalL args m J).bind fun p=>callB b p.1 p.2
 | .m e x args,m,J=>(evalE e m J).bind fun p=>eR p.1 fun i=>qI p.2[i]? fun c l=>(P.meth c x).bind fun f=>oX (lk x l) ((evalL args m p.2).bind fun q=>call f (.ref i :: q.1) q.2) fun _=>.none
 | .n e b args,m,J=>(evalE e m J).bind fun p=>(evalL args m p.2).bind fun q=>if tyOf p.1 p.2 == tyOf p.1 q.2 then methB b p.1 q.1 q.2 else .none
noncomputable def evalL:List ME->Loc->Hp->Option (List MV×Hp)
 | [],_,J=>some ([],J)
 | e :: r,m,J=>(evalE e m J).bind fun p=>(evalL r m p.2).bind fun q=>some (p.1 :: q.1,q.2)
noncomputable def evalAnd:List ME->Loc->Hp->Option (MV×Hp)
 | [],_,_=>.none
 | e :: r,m,J=>(evalE e m J).bind fun p=>aX r ((truth p.1).bind fun _=>some p) fun _ _=>(truth p.1).bind fun t=>if t then evalAnd r m p.2 else some p
noncomputable def evalOr:List ME->Loc->Hp->Option (MV×Hp)
 | [],_,_=>.none
 | e :: r,m,J=>(evalE e m J).bind fun p=>aX r ((truth p.1).bind fun _=>some p) fun _ _=>(truth p.1).bind fun t=>if t then some p else evalOr r m p.2
noncomputable def evalCmp:MV->List COp->List ME->Loc->Hp->Option (MV×Hp)
 | _,_,[],_,_=>.none
 | a,ops,e :: r,m,J=>(evalE e m J).bind fun p=>aC ops fun o os=>aX os (aN r ((cmpop o a p.1 p.2).bind fun t=>some (.bool t,p.2))) fun _ _=>aC r fun _ _=>(cmpop o a p.1 p.2).bind fun t=>if t then evalCmp p.1 os r m p.2 else some (.bool false,p.2)
noncomputable def evalAll:List ME->Loc->Hp->Option (Bool×Hp)
 | [],_,J=>some (true,J)
 | e :: r,m,J=>(evalE e m J).bind fun p=>(truth p.1).bind fun t=>if t then evalAll r m p.2 else some (false,p.2)
end
noncomputable def store (t:MT) (v:MV) (m:Loc) (J:Hp):Option (Loc×Hp):=match t with
 | .v x=>some (upd m x v,J)
 | .tup xs=>eT v fun vs=>(bindV xs vs m).bind fun m'=>some (m',J)
 | .a e x=>(evalE P call e m J).bind fun p=>(setAttr P p.1 x v p.2).bind fun J'=>some (m,J')
 | .sub e i=>(evalE P call e m J).bind fun p=>(evalE P call i m p.2).bind fun q=>(setSub p.1 q.1 v q.2).bind fun J'=>some (m,J')
 | .slice e lo hi=>(evalE P call e m J).bind fun p=>(evalE P call lo m p.2).bind fun q=>(evalE P call hi m q.2).bind fun r=>
   (setSlice p.1 q.1 r.1 v r.2).bind fun J'=>some (m,J')
noncomputable abbrev Res:=Option (Option MV×Loc×Hp)
noncomputable def whileL (t:Loc->Hp->Option (MV×Hp)) (b:Loc->Hp->Res):Nat->Loc->Hp->Res
 | 0,_,_=>.none
 | n+1,m,J=>(t m J).bind fun p=>(truth p.1).bind fun c=>if c then
   (b m p.2).bind fun r=>oX r.1 (whileL t b n r.2.1 r.2.2) fun v=>some (some v,r.2)
  else some (.none,m,p.2)
noncomputable def forL (chk:List (Nat×Option (List MV))) (isTup:Bool) (tgt:List Nat) (b:Loc->Hp->Res):List MV->Loc->Hp->Res
 | [],m,J=>if chkOk J chk then some (.none,m,J) else .none
 | v :: r,m,J=>if chkOk J chk then (bindT isTup tgt v m).bind fun m'=>(b m' J).bind fun q=>oX q.1 (forL chk isTup tgt b r q.2.1 q.2.2) fun v=>some (some v,q.2)
  else .none
noncomputable def turns:Nat:=100000
mutual
noncomputable def exec:MS->Loc->Hp->Res
 | .expr e,m,J=>(evalE P call e m J).bind fun p=>some (.none,m,p.2)
 | .ret e,m,J=>(evalE P call e m J).bind fun p=>some (some p.1,m,p.2)
 | .retNone,m,J=>some (some .none,m,J)
 | .assign t e,m,J=>(evalE P call e m J).bind fun p=>(store P call t p.1 m p.2).bind fun q=>some (.none,q.1,q.2)
 | .ifs c a b,m,J=>(evalE P call c m J).bind fun p=>(truth p.1).bind fun t=>if t then execs a m p.2 else execs b m p.2
 | .whiles c b,m,J=>whileL (evalE P call c) (execs b) turns m J
 | .fors isTup tgt ik its b,m,J=>(evalL P call its m J).bind fun p=>(iterOf ik p.1 p.2).bind fun q=>forL q.2.1 isTup tgt (execs b) q.1 m q.2.2
 | .raise,_,_=>.none
noncomputable def execs:List MS->Loc->Hp->Res
 | [],m,J=>some (.none,m,J)
 | s :: r,m,J=>(exec s m J).bind fun p=>oX p.1 (execs r p.2.1 p.2.2) fun v=>some (some v,p.2)
end
end
noncomputable def bindP:List Nat->List MV->Loc
 | x :: r,v :: q=>upd (bindP r q) x v
 | _,_=>fun _=>.none
noncomputable def fullArgs (F:MF) (args:List MV):Option (List MV):=
 if F.params.length - F.dflts.length<=args.length/\args.length<=F.params.length then
  some (args ++ F.dflts.drop (args.length+F.dflts.length - F.params.length)) else .none
noncomputable def callN (P:zfu):Nat->CallT
 | 0,_,_,_=>.none
 | k+1,f,args,J=>oX (P.fn f) .none fun F=>(fullArgs F args).bind fun full=>(execs P (callN P k) F.body (bindP F.params full) J).bind fun r=>
    some ((r.1).getD .none,r.2.2)
noncomputable def f0:MF:=⟨[0],[],
  [.ifs (.or [.cmp (.l (.int 65)) [.le,.le] [.v 0,.l (.int 90)],.and [.cmp (.l (.int 192)) [.le,.le] [.v 0,.l (.int 222)],.cmp (.v 0) [.ne] [.l (.int 215)]]]) [.ret (.o .add (.v 0) (.l (.int 32)))] [],
  .ret (.v 0)]⟩
noncomputable def f1:MF:=⟨[0],[],
  [.ifs (.or [.cmp (.l (.int 97)) [.le,.le] [.v 0,.l (.int 122)],.and [.cmp (.l (.int 224)) [.le,.le] [.v 0,.l (.int 254)],.cmp (.v 0) [.ne] [.l (.int 247)]]]) [.ret (.o .sub (.v 0) (.l (.int 32)))] [],
  .ret (.v 0)]⟩
noncomputable def f2:MF:=⟨[0],[],
  [.ret (.cmp (.f 0 [.v 0]) [.ne] [.v 0])]⟩
noncomputable def f3:MF:=⟨[0],[],
  [.ret (.cmp (.f 1 [.v 0]) [.ne] [.v 0])]⟩
noncomputable def f4:MF:=⟨[1],[],
  [.ret (.comp (.f 1 [.v 0]) false [0] .val [.v 1] [])]⟩
noncomputable def f5:MF:=⟨[1],[],
  [.ret (.comp (.f 0 [.v 0]) false [0] .val [.v 1] [])]⟩
noncomputable def f6:MF:=⟨[1,2],[],
  [.assign (.tup [3,4]) (.tup [.list [],.l (.bool false)]),
  .fors false [0] .val [.v 1] [.expr (.n (.v 3) .append [.ite (.v 4) (.v 0) (.f 1 [.v 0])]),
   .assign (.v 4) (.cmp (.m (.v 2) 5 [.v 0]) [.eq] [.l (.str [119])])],
  .ret (.v 3)]⟩
noncomputable def f7:MF:=⟨[6,7,1,8],[],
  [.assign (.a (.v 6) 7) (.v 7),
  .assign (.a (.v 6) 1) (.v 1),
  .assign (.a (.v 6) 8) (.v 8),
  .assign (.a (.v 6) 9) (.l (.int 0))]⟩
noncomputable def f8:MF:=⟨[6,10,11],[],
  [.assign (.a (.v 6) 10) (.v 10),
  .assign (.a (.v 6) 11) (.v 11),
  .assign (.a (.v 6) 12) (.dict [] []),
  .assign (.a (.v 6) 13) (.l (.bool false))]⟩
noncomputable def f9:MF:=⟨[1],[],
  [.ret (.n (.l (.str [44])) .join [.comp (.b .str [.v 0]) false [0] .val [.v 1] []])]⟩
noncomputable def f10:MF:=⟨[2,7,1,8],[],
  [.assign (.v 14) (.ite (.v 8) (.v 7) (.f 5 [.v 7])),
  .expr (.f 11 [.v 2,.v 7]),
  .assign (.sub (.a (.v 2) 12) (.f 9 [.v 14])) (.c 0 [.v 14,.v 1,.v 8])]⟩
noncomputable def f11:MF:=⟨[2,7],[],
  [.fors false [15] .val [.tup [.f 9 [.v 7],.f 9 [.f 5 [.v 7]]]] [.ifs (.cmp (.v 15) [.isIn] [.a (.v 2) 12]) [.expr (.n (.a (.v 2) 12) .pop [.v 15])] []]]⟩
noncomputable def f12:MF:=⟨[2,7],[],
  [.assign (.v 3) (.n (.a (.v 2) 12) .get [.f 9 [.v 7],.l (.none)]),
  .ifs (.cmp (.v 3) [.isNot] [.l (.none)]) [.ret (.v 3)] [],
  .assign (.v 3) (.n (.a (.v 2) 12) .get [.f 9 [.f 5 [.v 7]],.l (.none)]),
  .ifs (.and [.cmp (.v 3) [.isNot] [.l (.none)],.a (.v 3) 8]) [.ret (.l (.none))] [],
  .ret (.v 3)]⟩
noncomputable def f13:MF:=⟨[2],[],
  [.assign (.v 3) (.list []),
  .assign (.v 16) (.list []),
  .assign (.v 17) (.list [.v 2]),
  .whiles (.and [.cmp (.b .len [.v 17]) [.gt] [.l (.int 0)],.cmp (.b .len [.v 3]) [.lt] [.l (.int 20)]]) [.assign (.v 18) (.n (.v 17) .pop []),
   .ifs (.cmp (.a (.v 18) 10) [.yh] [.v 16]) [.expr (.n (.v 16) .append [.a (.v 18) 10]),
    .expr (.n (.v 3) .append [.v 18]),
    .expr (.n (.v 17) .extend [.rev (.a (.v 18) 11)])] []],
  .ret (.v 3)]⟩
noncomputable def f14:MF:=⟨[2,7],[],
  [.fors false [14] .val [.f 13 [.v 2]] [.assign (.v 3) (.f 12 [.v 14,.v 7]),
   .ifs (.cmp (.v 3) [.isNot] [.l (.none)]) [.ret (.v 3)] []],
  .ret (.l (.none))]⟩
noncomputable def f15:MF:=⟨[0,19],[],
  [.ret (.cmp (.m (.v 19) 5 [.v 0]) [.eq] [.l (.str [119])])]⟩
noncomputable def f16:MF:=⟨[1,19],[],
  [.assign (.v 20) (.l (.int 0)),
  .assign (.v 21) (.l (.bool false)),
  .fors false [0] .val [.v 1] [.ifs (.and [.f 15 [.v 0,.v 19],.not (.v 21)]) [.assign (.v 20) (.o .add (.v 20) (.l (.int 1)))] [],
   .assign (.v 21) (.f 15 [.v 0,.v 19])],
  .ret (.v 20)]⟩
noncomputable def f17:MF:=⟨[1],[],
  [.ret (.cmp (.b .len [.comp (.v 0) false [0] .val [.v 1] [.f 2 [.v 0]]]) [.gt] [.l (.int 0)])]⟩
noncomputable def f18:MF:=⟨[1],[],
  [.ret (.cmp (.b .len [.comp (.v 0) false [0] .val [.v 1] [.f 3 [.v 0]]]) [.gt] [.l (.int 0)])]⟩
noncomputable def f19:MF:=⟨[1,19],[],
  [.fors false [22] .range [.b .len [.v 1]] [.ifs (.f 15 [.sub (.v 1) (.v 22),.v 19]) [.ret (.o .add (.o .add (.slice (.v 1) (.l .none) (.v 22)) (.f 4 [.slice (.v 1) (.v 22) (.o .add (.v 22) (.l (.int 1)))])) (.slice (.v 1) (.o .add (.v 22) (.l (.int 1))) (.l .none)))] []],
  .ret (.v 1)]⟩
noncomputable def f20:MF:=⟨[2,23,7,19],[],
  [.assign (.v 1) (.a (.v 23) 1),
  .ifs (.or [.a (.v 23) 8,.not (.f 17 [.v 7])]) [.ret (.v 1)] [],
  .ifs (.f 18 [.v 7]) [.ret (.f 19 [.v 1,.v 19])] [],
  .ifs (.and [.cmp (.f 16 [.v 1,.v 19]) [.gt] [.l (.int 1)],.not (.a (.v 2) 13)]) [.ret (.f 6 [.v 1,.v 19])] [],
  .ret (.f 4 [.v 1])]⟩
noncomputable def f21:MF:=⟨[2,7,19],[],
  [.assign (.v 23) (.f 14 [.v 2,.v 7]),
  .ifs (.or [.cmp (.v 23) [.is] [.l (.none)],.cmp (.b .len [.v 7]) [.eq] [.l (.int 0)]]) [.ret (.l (.none))] [],
  .assign (.a (.v 23) 9) (.o .add (.a (.v 23) 9) (.l (.int 1))),
  .ret (.f 20 [.v 2,.v 23,.v 7,.v 19])]⟩
noncomputable def f22:MF:=⟨[2,7],[],
  [.assign (.v 23) (.f 14 [.v 2,.v 7]),
  .ifs (.and [.cmp (.v 23) [.isNot] [.l (.none)],.cmp (.a (.v 23) 9) [.gt] [.l (.int 0)]]) [.assign (.a (.v 23) 9) (.o .sub (.a (.v 23) 9) (.l (.int 1)))] [],
  .ret (.v 7)]⟩
noncomputable def f23:MF:=⟨[24],[],
  [.ifs (.a (.v 24) 25) [.raise] []]⟩
noncomputable def f24:MF:=⟨[24,26],[],
  [.ifs (.cmp (.o .add (.m (.v 24) 27 []) (.v 26)) [.gt] [.l (.int 4194304)]) [.raise] []]⟩
noncomputable def f25:MF:=⟨[24,28,29],[],
  [.assign (.tup [30,31]) (.tup [.b .min [.v 28,.v 29],.b .max [.v 28,.v 29]]),
  .ifs (.or [.cmp (.v 30) [.lt] [.a (.v 24) 32],.cmp (.v 31) [.gt] [.a (.v 24) 33]]) [.raise] [],
  .ret (.tup [.v 30,.v 31])]⟩
noncomputable def f26:MF:=⟨[24,28,29],[],
  [.fors false [34] .val [.b .list [.a (.v 24) 35]] [.expr (.m (.v 34) 36 [.v 24,.v 28,.v 29])]]⟩
noncomputable def f27:MF:=⟨[24,28,29,37],[],
  [.expr (.m (.v 24) 38 [.l (.bool true)]),
  .fors false [34] .val [.b .list [.a (.v 24) 35]] [.expr (.m (.v 34) 39 [.v 24,.v 28,.v 29,.v 37])]]⟩
noncomputable def f28:MF:=⟨[24,28,29],[],
  [.ifs (.cmp (.a (.v 24) 40) [.isNot] [.l (.none)]) [.expr (.m (.a (.v 24) 40) 41 [.v 24,.v 28,.v 29])] [],
  .assign (.v 42) (.m (.a (.v 24) 43) 44 [.o .sub (.v 28) (.l (.int 1)),.o .sub (.v 29) (.l (.int 1))]),
  .assign (.a (.v 24) 33) (.o .sub (.a (.v 24) 33) (.o .sub (.v 29) (.v 28))),
  .ifs (.cmp (.a (.v 24) 45) [.gt] [.v 28]) [.assign (.a (.v 24) 45) (.b .max [.v 28,.o .sub (.a (.v 24) 45) (.o .sub (.v 29) (.v 28))])] [],
  .ret (.v 42)]⟩
noncomputable def f29:MF:=⟨[24,22,1],[],
  [.ifs (.cmp (.a (.v 24) 40) [.isNot] [.l (.none)]) [.expr (.m (.a (.v 24) 40) 46 [.v 24,.v 22,.b .len [.v 1]])] [],
  .expr (.m (.a (.v 24) 43) 47 [.o .sub (.v 22) (.l (.int 1)),.v 1]),
  .assign (.a (.v 24) 33) (.o .add (.a (.v 24) 33) (.b .len [.v 1])),
  .ifs (.cmp (.a (.v 24) 45) [.gt] [.v 22]) [.assign (.a (.v 24) 45) (.o .add (.a (.v 24) 45) (.b .len [.v 1]))] []]⟩
noncomputable def f30:MF:=⟨[24,28,29],[],
  [.ifs (.cmp (.a (.v 24) 48) [.isNot] [.l (.none)]) [.expr (.m (.a (.v 24) 48) 49 [.o .sub (.v 28) (.l (.int 1)),.o .sub (.v 29) (.l (.int 1))])] [],
  .ifs (.cmp (.a (.v 24) 50) [.isNot] [.l (.none)]) [.expr (.m (.a (.v 24) 50) 49 [.o .sub (.v 28) (.l (.int 1)),.o .sub (.v 29) (.l (.int 1))])] []]⟩
noncomputable def f31:MF:=⟨[24,22,20,51],[],
  [.ifs (.cmp (.a (.v 24) 48) [.isNot] [.l (.none)]) [.expr (.m (.a (.v 24) 48) 52 [.o .sub (.v 22) (.l (.int 1)),.v 20])] [],
  .ifs (.cmp (.a (.v 24) 50) [.isNot] [.l (.none)]) [.expr (.m (.a (.v 24) 50) 52 [.o .sub (.v 22) (.l (.int 1)),.v 20,.v 51])] []]⟩
noncomputable def f32:MF:=⟨[24,22,1,51,53],[],
  [.expr (.f 23 [.v 24]),
  .expr (.f 25 [.v 24,.v 22,.v 22]),
  .ifs (.cmp (.b .len [.v 1]) [.eq] [.l (.int 0)]) [.retNone] [],
  .expr (.f 24 [.v 24,.b .len [.v 1]]),
  .expr (.f 26 [.v 24,.v 22,.v 22]),
  .expr (.f 29 [.v 24,.v 22,.v 1]),
  .ifs (.v 53) [.assign (.a (.v 24) 45) (.o .add (.v 22) (.b .len [.v 1]))] [],
  .expr (.m (.a (.v 24) 54) 55 [.v 22,.o .add (.v 22) (.b .len [.v 1]),.v 51]),
  .expr (.f 31 [.v 24,.v 22,.b .len [.v 1],.v 51]),
  .expr (.f 27 [.v 24,.v 22,.o .add (.v 22) (.b .len [.v 1]),.l (.int 0)])]⟩
noncomputable def f33:MF:=⟨[24,22,1,51],[.bool false],
  [.expr (.f 32 [.v 24,.v 22,.v 1,.v 51,.l (.bool false)])]⟩
noncomputable def f34:MF:=⟨[24,1,51],[.bool false],
  [.expr (.f 32 [.v 24,.a (.v 24) 45,.v 1,.v 51,.l (.bool true)])]⟩
noncomputable def f35:MF:=⟨[24,28,29],[],
  [.expr (.f 23 [.v 24]),
  .assign (.tup [30,31]) (.f 25 [.v 24,.v 28,.v 29]),
  .ifs (.cmp (.v 30) [.eq] [.v 31]) [.ret (.list [])] [],
  .expr (.f 26 [.v 24,.v 30,.v 31]),
  .assign (.v 42) (.f 28 [.v 24,.v 30,.v 31]),
  .expr (.m (.a (.v 24) 54) 56 [.v 30,.v 31]),
  .expr (.f 30 [.v 24,.v 30,.v 31]),
  .expr (.f 27 [.v 24,.v 30,.v 30,.o .sub (.v 31) (.v 30)]),
  .ret (.v 42)]⟩
noncomputable def f36:MF:=⟨[24,28,29,1,57],[.none],
  [.expr (.f 23 [.v 24]),
  .assign (.tup [30,31]) (.f 25 [.v 24,.v 28,.v 29]),
  .ifs (.cmp (.v 30) [.eq] [.v 31]) [.expr (.f 33 [.v 24,.v 30,.v 1]),
   .ret (.list [])] [],
  .ifs (.cmp (.b .len [.v 1]) [.eq] [.l (.int 0)]) [.ret (.f 35 [.v 24,.v 30,.v 31])] [],
  .expr (.f 24 [.v 24,.o .sub (.b .len [.v 1]) (.o .sub (.v 31) (.v 30))]),
  .assign (.v 45) (.a (.v 24) 45),
  .expr (.f 26 [.v 24,.v 30,.v 31]),
  .assign (.v 42) (.f 28 [.v 24,.v 30,.v 31]),
  .expr (.f 29 [.v 24,.v 30,.v 1]),
  .ifs (.cmp (.v 45) [.ge] [.v 31]) [.assign (.a (.v 24) 45) (.o .sub (.o .add (.v 45) (.b .len [.v 1])) (.o .sub (.v 31) (.v 30)))] [],
  .expr (.m (.a (.v 24) 54) 58 [.v 30,.v 31,.b .len [.v 1]]),
  .expr (.f 31 [.v 24,.v 31,.b .len [.v 1],.l (.bool true)]),
  .expr (.f 30 [.v 24,.v 30,.v 31]),
  .ifs (.cmp (.v 57) [.isNot] [.l (.none)]) [.expr (.m (.a (.v 24) 48) 59 [.v 57])] [],
  .expr (.f 27 [.v 24,.v 30,.o .add (.v 30) (.b .len [.v 1]),.o .sub (.v 31) (.v 30)]),
  .ret (.v 42)]⟩
noncomputable def f37:MF:=⟨[60,2,22],[],
  [.assign (.v 0) (.m (.v 60) 61 [.v 22]),
  .ret (.ite (.cmp (.v 0) [.lt] [.l (.int 0)]) (.l (.none)) (.m (.v 2) 18 [.v 0]))]⟩
noncomputable def f38:MF:=⟨[60,2,22,62,63],[.bool false],
  [.assign (.v 19) (.f 37 [.v 60,.v 2,.v 22]),
  .ret (.and [.cmp (.v 19) [.isNot] [.l (.none)],.cmp (.cmp (.a (.v 19) 64) [.isIn] [.v 62]) [.ne] [.v 63]])]⟩
noncomputable def f39:MF:=⟨[60,2,18,65,62,63],[.bool false],
  [.whiles (.and [.cmp (.v 18) [.lt] [.v 65],.f 38 [.v 60,.v 2,.v 18,.v 62,.v 63]]) [.assign (.v 18) (.o .add (.v 18) (.l (.int 1)))],
  .ret (.v 18)]⟩
noncomputable def f40:MF:=⟨[60,2,18,65,62,63],[.bool false],
  [.whiles (.and [.cmp (.v 18) [.gt] [.v 65],.f 38 [.v 60,.v 2,.o .sub (.v 18) (.l (.int 1)),.v 62,.v 63]]) [.assign (.v 18) (.o .sub (.v 18) (.l (.int 1)))],
  .ret (.v 18)]⟩
noncomputable def f41:MF:=⟨[6,64,66,67],[],
  [.assign (.a (.v 6) 64) (.v 64),
  .assign (.a (.v 6) 66) (.v 66),
  .assign (.a (.v 6) 67) (.v 67)]⟩
noncomputable def f42:MF:=⟨[6,68],[],
  [.ret (.cmp (.v 68) [.isIn] [.a (.v 6) 67])]⟩
noncomputable def f43:MF:=⟨[43],[],
  [.ret (.n (.l (.str [])) .join [.comp (.v 68) false [68] .val [.l (.str [49,50,51,52,98,99,110,112])] [.cmp (.v 68) [.isIn] [.v 43]]])]⟩
noncomputable def f44:MF:=⟨[43],[],
  [.ifs (.cmp (.v 43) [.eq] [.l (.str [])]) [.raise] [],
  .assign (.v 64) (.ite (.cmp (.sub (.v 43) (.l (.int 0))) [.eq] [.l (.str [45])]) (.l (.str [32])) (.sub (.v 43) (.l (.int 0)))),
  .assign (.v 66) (.ite (.or [.cmp (.b .len [.v 43]) [.lt] [.l (.int 2)],.cmp (.sub (.v 43) (.l (.int 1))) [.eq] [.l (.str [32])]]) (.l (.none)) (.b .ord [.sub (.v 43) (.l (.int 1))])),
  .assign (.v 67) (.slice (.v 43) (.l (.int 2)) (.l .none)),
  .ifs (.or [.cmp (.v 64) [.yh] [.l (.str [32,119,95,46,40,41,39,34,92,47,36,60,62,64,33,124])],.not (.b .all [.comp (.or [.cmp (.v 68) [.isIn] [.l (.str [49,50,51,52,98,99,110,112])],.cmp (.v 68) [.eq] [.l (.str [32])]]) false [68] .val [.v 67] []])]) [.raise] [],
  .ret (.c 3 [.v 64,.v 66,.f 43 [.v 67]])]⟩
noncomputable def f45:MF:=⟨[6,69],[.none],
  [.assign (.a (.v 6) 69) (.v 69),
  .assign (.a (.v 6) 57) (.dict [] [])]⟩
noncomputable def f46:MF:=⟨[6,43,70],[],
  [.assign (.v 19) (.f 44 [.v 70]),
  .fors false [71] .val [.v 43] [.assign (.sub (.a (.v 6) 57) (.b .ord [.v 71])) (.v 19)]]⟩
noncomputable def f47:MF:=⟨[6,0],[],
  [.assign (.v 3) (.n (.a (.v 6) 57) .get [.v 0,.l (.none)]),
  .ret (.ite (.or [.cmp (.v 3) [.is] [.l (.none)],.cmp (.a (.v 3) 64) [.eq] [.l (.str [64])]]) (.l (.none)) (.v 3))]⟩
noncomputable def f48:MF:=⟨[6,0],[],
  [.assign (.v 2) (.v 6),
  .whiles (.cmp (.v 2) [.isNot] [.l (.none)]) [.assign (.v 3) (.m (.v 2) 14 [.v 0]),
   .ifs (.cmp (.v 3) [.isNot] [.l (.none)]) [.ret (.v 3)] [],
   .assign (.v 2) (.a (.v 2) 69)],
  .ret (.c 3 [.ite (.cmp (.v 0) [.gt] [.l (.int 127)]) (.l (.str [119])) (.l (.str [46])),.l (.none),.l (.str [])])]⟩
noncomputable def f49:MF:=⟨[6,0],[],
  [.ret (.a (.m (.v 6) 18 [.v 0]) 64)]⟩
noncomputable def f50:MF:=⟨[],[],
  [.ret (.l (.str [97,98,99,100,101,102,103,104,105,106,107,108,109,110,111,112,113,114,115,116,117,118,119,120,121,122,65,66,67,68,69,70,71,72,73,74,75,76,77,78,79,80,81,82,83,84,85,86,87,88,89,90,48,49,50,51,52,53,54,55,56,57]))]⟩
noncomputable def f51:MF:=⟨[],[],
  [.assign (.v 2) (.c 4 []),
  .expr (.m (.v 2) 72 [.o .add (.f 50 []) (.l (.str [36,37])),.l (.str [119])]),
  .expr (.m (.v 2) 72 [.l (.str [32,9,10,13,12]),.l (.str [32])]),
  .expr (.m (.v 2) 72 [.l (.str [95,45,43,42,47,38,124,60,62,61]),.l (.str [95])]),
  .expr (.m (.v 2) 72 [.l (.str [46,44,59,58,63,33,35,64,126,94,39,96]),.l (.str [46])]),
  .fors true [73,74] .val [.tup [.tup [.l (.str [40]),.l (.str [41])],.tup [.l (.str [91]),.l (.str [93])],.tup [.l (.str [123]),.l (.str [125])]]] [.expr (.m (.v 2) 72 [.v 73,.o .add (.l (.str [40])) (.v 74)]),
   .expr (.m (.v 2) 72 [.v 74,.o .add (.l (.str [41])) (.v 73)])],
  .expr (.m (.v 2) 72 [.l (.str [34]),.l (.str [34])]),
  .expr (.m (.v 2) 72 [.l (.str [92]),.l (.str [92])]),
  .ret (.v 2)]⟩
noncomputable def f52:MF:=⟨[60,2,18,75,62],[],
  [.whiles (.cmp (.v 75) [.gt] [.l (.int 0)]) [.assign (.v 28) (.f 39 [.v 60,.v 2,.v 18,.m (.v 60) 29 [],.v 62,.l (.bool true)]),
   .ifs (.cmp (.v 28) [.ge] [.m (.v 60) 29 []]) [.ret (.tup [.m (.v 60) 29 [],.l (.bool false)])] [],
   .assign (.v 18) (.f 39 [.v 60,.v 2,.v 28,.m (.v 60) 29 [],.v 62]),
   .assign (.v 75) (.o .sub (.v 75) (.l (.int 1)))],
  .whiles (.cmp (.v 75) [.lt] [.l (.int 0)]) [.assign (.v 29) (.f 40 [.v 60,.v 2,.v 18,.m (.v 60) 76 [],.v 62,.l (.bool true)]),
   .ifs (.cmp (.v 29) [.le] [.m (.v 60) 76 []]) [.ret (.tup [.m (.v 60) 76 [],.l (.bool false)])] [],
   .assign (.v 18) (.f 40 [.v 60,.v 2,.v 29,.m (.v 60) 76 [],.v 62]),
   .assign (.v 75) (.o .add (.v 75) (.l (.int 1)))],
  .ret (.tup [.v 18,.l (.bool true)])]⟩
noncomputable def f53:MF:=⟨[60,2,18,75],[],
  [.ret (.f 52 [.v 60,.v 2,.v 18,.v 75,.l (.str [119])])]⟩
noncomputable def f54:MF:=⟨[6,22,7,1],[],
  [.assign (.a (.v 6) 22) (.v 22),
  .assign (.a (.v 6) 7) (.v 7),
  .assign (.a (.v 6) 1) (.v 1)]⟩
noncomputable def f55:MF:=⟨[24,19],[],
  [.assign (.tup [28,77]) (.f 53 [.v 24,.v 19,.a (.v 24) 45,.neg (.l (.int 1))]),
  .ifs (.not (.v 77)) [.ret (.tup [.a (.v 24) 45,.a (.v 24) 45])] [],
  .assign (.tup [29,78]) (.f 53 [.v 24,.v 19,.v 28,.l (.int 1)]),
  .ret (.tup [.v 28,.b .min [.v 29,.a (.v 24) 45]])]⟩
noncomputable def f56:MF:=⟨[24,2,19],[],
  [.assign (.tup [28,29]) (.f 55 [.v 24,.v 19]),
  .assign (.v 7) (.m (.v 24) 1 [.v 28,.v 29]),
  .ifs (.or [.cmp (.b .len [.v 7]) [.eq] [.l (.int 0)],.cmp (.f 14 [.v 2,.v 7]) [.is] [.l (.none)]]) [.ret (.l (.none))] [],
  .assign (.v 1) (.f 21 [.v 2,.v 7,.v 19]),
  .expr (.f 36 [.v 24,.v 28,.v 29,.v 1]),
  .assign (.a (.v 24) 45) (.o .add (.v 28) (.b .len [.v 1])),
  .ret (.c 5 [.v 28,.v 7,.v 1])]⟩
noncomputable def f57:MF:=⟨[24,2,79],[],
  [.assign (.v 29) (.o .add (.a (.v 79) 22) (.b .len [.a (.v 79) 1])),
  .ifs (.or [.cmp (.a (.v 79) 22) [.lt] [.a (.v 24) 32],.cmp (.v 29) [.gt] [.a (.v 24) 33],.cmp (.m (.v 24) 1 [.a (.v 79) 22,.v 29]) [.ne] [.a (.v 79) 1]]) [.ret (.l (.bool false))] [],
  .expr (.f 36 [.v 24,.a (.v 79) 22,.v 29,.f 22 [.v 2,.a (.v 79) 7]]),
  .assign (.a (.v 24) 45) (.o .add (.a (.v 79) 22) (.b .len [.a (.v 79) 7])),
  .ret (.l (.bool true))]⟩
noncomputable def f58:MF:=⟨[24,2,19,28,29],[],
  [.assign (.v 80) (.o .sub (.a (.v 24) 33) (.v 29)),
  .assign (.a (.v 24) 45) (.v 28),
  .assign (.v 20) (.l (.int 0)),
  .whiles (.cmp (.a (.v 24) 45) [.lt] [.o .sub (.a (.v 24) 33) (.v 80)]) [.assign (.tup [22,77]) (.f 53 [.v 24,.v 19,.a (.v 24) 45,.l (.int 1)]),
   .ifs (.or [.not (.v 77),.cmp (.v 22) [.gt] [.o .sub (.a (.v 24) 33) (.v 80)],.cmp (.v 22) [.le] [.a (.v 24) 45]]) [.ret (.v 20)] [],
   .assign (.a (.v 24) 45) (.v 22),
   .ifs (.cmp (.f 56 [.v 24,.v 2,.v 19]) [.isNot] [.l (.none)]) [.assign (.v 20) (.o .add (.v 20) (.l (.int 1)))] []],
  .ret (.v 20)]⟩
noncomputable def f59:MF:=⟨[6,1,81],[],
  [.assign (.a (.v 6) 81) (.v 81),
  .assign (.a (.v 6) 82) (.o .add (.b .list [.v 1]) (.o .mul (.list [.l (.int 0)]) (.v 81))),
  .assign (.a (.v 6) 83) (.b .len [.v 1]),
  .assign (.a (.v 6) 84) (.o .add (.b .len [.v 1]) (.v 81))]⟩
noncomputable def f60:MF:=⟨[6],[],
  [.ret (.o .add (.o .sub (.b .len [.a (.v 6) 82]) (.a (.v 6) 84)) (.a (.v 6) 83))]⟩
noncomputable def f61:MF:=⟨[6,18],[],
  [.ifs (.cmp (.v 18) [.lt] [.a (.v 6) 83]) [.ret (.sub (.a (.v 6) 82) (.v 18))] [],
  .ret (.sub (.a (.v 6) 82) (.o .add (.o .sub (.v 18) (.a (.v 6) 83)) (.a (.v 6) 84)))]⟩
noncomputable def f62:MF:=⟨[6,28,29],[],
  [.assign (.v 85) (.o .sub (.a (.v 6) 84) (.a (.v 6) 83)),
  .ifs (.cmp (.v 29) [.le] [.a (.v 6) 83]) [.ret (.slice (.a (.v 6) 82) (.v 28) (.v 29))] [],
  .ifs (.cmp (.v 28) [.ge] [.a (.v 6) 83]) [.ret (.slice (.a (.v 6) 82) (.o .add (.v 28) (.v 85)) (.o .add (.v 29) (.v 85)))] [],
  .ret (.o .add (.slice (.a (.v 6) 82) (.v 28) (.a (.v 6) 83)) (.slice (.a (.v 6) 82) (.a (.v 6) 84) (.o .add (.v 29) (.v 85))))]⟩
noncomputable def f63:MF:=⟨[6,18],[],
  [.ifs (.cmp (.v 18) [.lt] [.a (.v 6) 83]) [.assign (.v 86) (.slice (.a (.v 6) 82) (.v 18) (.a (.v 6) 83)),
   .assign (.slice (.a (.v 6) 82) (.o .sub (.a (.v 6) 84) (.b .len [.v 86])) (.a (.v 6) 84)) (.v 86),
   .assign (.a (.v 6) 84) (.o .sub (.a (.v 6) 84) (.b .len [.v 86]))] [.assign (.v 86) (.slice (.a (.v 6) 82) (.a (.v 6) 84) (.o .sub (.o .add (.a (.v 6) 84) (.v 18)) (.a (.v 6) 83))),
   .assign (.slice (.a (.v 6) 82) (.a (.v 6) 83) (.o .add (.a (.v 6) 83) (.b .len [.v 86]))) (.v 86),
   .assign (.a (.v 6) 84) (.o .add (.a (.v 6) 84) (.b .len [.v 86]))],
  .assign (.a (.v 6) 83) (.v 18)]⟩
noncomputable def f64:MF:=⟨[6,87],[],
  [.assign (.v 88) (.o .sub (.v 87) (.o .sub (.a (.v 6) 84) (.a (.v 6) 83))),
  .ifs (.cmp (.v 88) [.gt] [.l (.int 0)]) [.assign (.slice (.a (.v 6) 82) (.a (.v 6) 84) (.a (.v 6) 84)) (.o .mul (.list [.l (.int 0)]) (.o .add (.v 88) (.a (.v 6) 81))),
   .assign (.a (.v 6) 84) (.o .add (.o .add (.a (.v 6) 84) (.v 88)) (.a (.v 6) 81))] []]⟩
noncomputable def f65:MF:=⟨[6,18,1],[],
  [.expr (.m (.v 6) 89 [.b .len [.v 1]]),
  .expr (.m (.v 6) 90 [.v 18]),
  .assign (.slice (.a (.v 6) 82) (.v 18) (.o .add (.v 18) (.b .len [.v 1]))) (.v 1),
  .assign (.a (.v 6) 83) (.o .add (.v 18) (.b .len [.v 1]))]⟩
noncomputable def f66:MF:=⟨[6,28,29],[],
  [.assign (.v 42) (.m (.v 6) 1 [.v 28,.v 29]),
  .ifs (.cmp (.v 29) [.lt] [.a (.v 6) 83]) [.expr (.m (.v 6) 90 [.v 29])] [],
  .ifs (.cmp (.v 28) [.gt] [.a (.v 6) 83]) [.expr (.m (.v 6) 90 [.v 28])] [],
  .assign (.a (.v 6) 84) (.o .sub (.o .add (.a (.v 6) 84) (.v 29)) (.a (.v 6) 83)),
  .assign (.a (.v 6) 83) (.v 28),
  .ret (.v 42)]⟩
noncomputable def f67:MF:=⟨[6,18,0],[],
  [.assign (.sub (.a (.v 6) 82) (.ite (.cmp (.v 18) [.lt] [.a (.v 6) 83]) (.v 18) (.o .add (.o .sub (.v 18) (.a (.v 6) 83)) (.a (.v 6) 84)))) (.v 0)]⟩
noncomputable def f68:MF:=⟨[6],[],
  [.ret (.l (.str [116,104,105,110,103]))]⟩
noncomputable def f69:MF:=⟨[6],[],
  [.assign (.a (.v 6) 57) (.dict [] [])]⟩
noncomputable def f70:MF:=⟨[6],[],
  [.ret (.b .sorted [.a (.v 6) 57])]⟩
noncomputable def f71:MF:=⟨[6,91,92],[],
  [.assign (.sub (.a (.v 6) 57) (.a (.v 91) 93)) (.v 91),
  .assign (.a (.v 91) 92) (.v 92)]⟩
noncomputable def f72:MF:=⟨[6,28,29],[],
  [.assign (.v 3) (.list []),
  .fors false [93] .val [.m (.v 6) 94 []] [.ifs (.cmp (.v 28) [.le,.le] [.a (.sub (.a (.v 6) 57) (.v 93)) 92,.v 29]) [.expr (.n (.v 3) .append [.sub (.a (.v 6) 57) (.v 93)])] []],
  .ret (.v 3)]⟩
noncomputable def f73:MF:=⟨[6,28,29,95],[],
  [.fors false [93] .val [.m (.v 6) 94 []] [.assign (.v 91) (.sub (.a (.v 6) 57) (.v 93)),
   .ifs (.or [.cmp (.a (.v 91) 92) [.gt] [.v 28],.and [.cmp (.a (.v 91) 92) [.eq] [.v 28],.or [.v 95,.a (.v 91) 96]]]) [.assign (.a (.v 91) 92) (.o .sub (.o .add (.a (.v 91) 92) (.v 29)) (.v 28))] []]]⟩
noncomputable def f74:MF:=⟨[6,28,29],[],
  [.fors false [93] .val [.m (.v 6) 94 []] [.assign (.v 91) (.sub (.a (.v 6) 57) (.v 93)),
   .ifs (.cmp (.a (.v 91) 92) [.gt] [.v 29]) [.assign (.a (.v 91) 92) (.o .sub (.a (.v 91) 92) (.o .sub (.v 29) (.v 28)))] [.ifs (.cmp (.a (.v 91) 92) [.gt] [.v 28]) [.assign (.a (.v 91) 92) (.v 28)] []]]]⟩
noncomputable def f75:MF:=⟨[6,28,29,20],[],
  [.fors false [93] .val [.m (.v 6) 94 []] [.assign (.v 91) (.sub (.a (.v 6) 57) (.v 93)),
   .ifs (.cmp (.a (.v 91) 92) [.ge] [.v 29]) [.assign (.a (.v 91) 92) (.o .sub (.o .add (.a (.v 91) 92) (.v 20)) (.o .sub (.v 29) (.v 28)))] [.ifs (.cmp (.a (.v 91) 92) [.gt] [.v 28]) [.assign (.a (.v 91) 92) (.v 28)] []]]]⟩
noncomputable def f76:MF:=⟨[6,93,10,81],[.int 8],
  [.assign (.a (.v 6) 93) (.v 93),
  .assign (.a (.v 6) 10) (.v 10),
  .assign (.a (.v 6) 43) (.c 6 [.list [],.v 81]),
  .assign (.a (.v 6) 54) (.c 8 []),
  .assign (.a (.v 6) 45) (.l (.int 1)),
  .assign (.a (.v 6) 32) (.l (.int 1)),
  .assign (.a (.v 6) 33) (.l (.int 1)),
  .assign (.a (.v 6) 97) (.l (.none)),
  .assign (.a (.v 6) 98) (.l (.bool true)),
  .assign (.a (.v 6) 25) (.l (.bool false)),
  .assign (.a (.v 6) 99) (.l (.int 1)),
  .assign (.a (.v 6) 100) (.l (.int 1)),
  .assign (.a (.v 6) 101) (.l (.int 1)),
  .assign (.a (.v 6) 35) (.list []),
  .assign (.a (.v 6) 40) (.l (.none)),
  .assign (.a (.v 6) 48) (.l (.none)),
  .assign (.a (.v 6) 50) (.l (.none)),
  .assign (.a (.v 6) 102) (.l (.none)),
  .assign (.a (.v 6) 19) (.l (.none)),
  .assign (.a (.v 6) 103) (.l (.none))]⟩
noncomputable def f77:MF:=⟨[6],[],
  [.ret (.l (.str [98,117,102,102,101,114]))]⟩
noncomputable def f78:MF:=⟨[6],[],
  [.ret (.a (.v 6) 32)]⟩
noncomputable def f79:MF:=⟨[6],[],
  [.ret (.a (.v 6) 33)]⟩
noncomputable def f80:MF:=⟨[6],[],
  [.ret (.m (.a (.v 6) 43) 27 [])]⟩
noncomputable def f81:MF:=⟨[6,22],[],
  [.ifs (.or [.cmp (.v 22) [.lt] [.a (.v 6) 32],.cmp (.v 22) [.ge] [.a (.v 6) 33]]) [.ret (.neg (.l (.int 1)))] [],
  .ret (.m (.a (.v 6) 43) 0 [.o .sub (.v 22) (.l (.int 1))])]⟩
noncomputable def f82:MF:=⟨[6,28,29],[],
  [.ret (.m (.a (.v 6) 43) 1 [.o .sub (.v 28) (.l (.int 1)),.o .sub (.v 29) (.l (.int 1))])]⟩
noncomputable def f83:MF:=⟨[6,104],[],
  [.assign (.a (.v 6) 99) (.o .add (.a (.v 6) 99) (.l (.int 1))),
  .ifs (.v 104) [.assign (.a (.v 6) 100) (.a (.v 6) 99)] []]⟩
noncomputable def f84:MF:=⟨[6],[],
  [.assign (.a (.v 6) 57) (.dict [] []),
  .assign (.a (.v 6) 105) (.list []),
  .assign (.a (.v 6) 106) (.l (.int 0)),
  .assign (.a (.v 6) 107) (.l (.int 0)),
  .assign (.a (.v 6) 108) (.l (.int 0)),
  .assign (.a (.v 6) 35) (.list [])]⟩
noncomputable def f85:MF:=⟨[6,10],[],
  [.fors false [93] .val [.a (.v 6) 105] [.ifs (.cmp (.a (.sub (.a (.v 6) 57) (.v 93)) 10) [.eq] [.v 10]) [.ret (.sub (.a (.v 6) 57) (.v 93))] []],
  .ret (.l (.none))]⟩
noncomputable def f86:MF:=⟨[6,10],[],
  [.ifs (.or [.cmp (.v 10) [.eq] [.l (.str [])],.cmp (.m (.v 6) 109 [.v 10]) [.isNot] [.l (.none)]]) [.raise] [],
  .assign (.a (.v 6) 107) (.o .add (.a (.v 6) 107) (.l (.int 1))),
  .assign (.v 24) (.c 9 [.a (.v 6) 107,.v 10]),
  .expr (.n (.a (.v 24) 35) .extend [.a (.v 6) 35]),
  .assign (.sub (.a (.v 6) 57) (.a (.v 24) 93)) (.v 24),
  .expr (.n (.a (.v 6) 105) .append [.a (.v 24) 93]),
  .ret (.v 24)]⟩
noncomputable def f87:MF:=⟨[6,24],[],
  [.fors false [93] .val [.a (.v 6) 105] [.ifs (.and [.cmp (.v 93) [.ne] [.a (.v 24) 93],.not (.m (.a (.sub (.a (.v 6) 57) (.v 93)) 10) 110 [.l (.str [32])])]) [.ret (.sub (.a (.v 6) 57) (.v 93))] []],
  .ret (.l (.none))]⟩
noncomputable def f88:MF:=⟨[111],[],
  [.assign (.v 112) (.dict [.str [100,101,101,112],.str [115,116,97,116,101]] [.list [],.o .add (.l (.int 594)) (.b .len [.slice (.v 111) (.l .none) (.l (.int 40))])]),
  .fors false [113] .val [.slice (.v 111) (.l .none) (.l (.int 40))] [.assign (.v 114) (.o .add (.o .mul (.l (.int 2)) (.b .abs [.v 113])) (.b .int [.cmp (.v 113) [.lt] [.l (.int 0)]])),
   .ifs (.cmp (.b .abs [.v 113]) [.ge] [.o .pow (.l (.int 10)) (.l (.int 18))]) [.assign (.sub (.v 112) (.l (.str [100,101,101,112]))) (.o .add (.list [.b .abs [.v 113]]) (.sub (.v 112) (.l (.str [100,101,101,112]))))] [],
   .assign (.sub (.v 112) (.l (.str [115,116,97,116,101]))) (.o .mod (.b .int [.o .add (.o .mul (.o .add (.o .add (.sub (.v 112) (.l (.str [115,116,97,116,101]))) (.v 114)) (.l (.int 1))) (.l (.int 1181783497276652981))) (.l (.int 521288629))]) (.l (.int 2305843009213693951)))],
  .ret (.v 112)]⟩
noncomputable def f89:MF:=⟨[112,20],[],
  [.ifs (.cmp (.sub (.v 112) (.l (.str [100,101,101,112]))) [.ne] [.list []]) [.assign (.v 114) (.n (.sub (.v 112) (.l (.str [100,101,101,112]))) .pop []),
   .ifs (.cmp (.v 114) [.ge] [.v 20]) [.expr (.n (.sub (.v 112) (.l (.str [100,101,101,112]))) .append [.o .fdiv (.v 114) (.v 20)])] [],
   .ret (.o .mod (.b .int [.v 114]) (.v 20))] [],
  .assign (.v 115) (.o .mod (.b .int [.o .add (.o .mul (.sub (.v 112) (.l (.str [115,116,97,116,101]))) (.l (.int 1181783497276652981))) (.l (.int 88172645463325))]) (.l (.int 2305843009213693951))),
  .assign (.sub (.v 112) (.l (.str [115,116,97,116,101]))) (.v 115),
  .assign (.v 116) (.o .mod (.b .int [.o .add (.o .add (.o .mul (.v 115) (.v 115)) (.o .mul (.l (.int 374761393)) (.v 115))) (.l (.int 11))]) (.l (.int 2305843009213693921))),
  .ret (.o .mod (.b .int [.o .fdiv (.v 116) (.l (.int 1048576))]) (.v 20))]⟩
noncomputable def f90:MF:=⟨[43],[],
  [.ret (.comp (.b .ord [.v 71]) false [71] .val [.v 43] [])]⟩
noncomputable def f91:MF:=⟨[24],[],
  [.ret (.n (.l (.str [])) .join [.comp (.b .chr [.v 0]) false [0] .val [.m (.v 24) 1 [.l (.int 1),.o .add (.m (.v 24) 27 []) (.l (.int 1))]] []])]⟩
noncomputable def f92:MF:=⟨[57],[],
  [.assign (.v 69) (.c 1 [.l (.str [112,97,114,101,110,116]),.list []]),
  .assign (.tup [2,117]) (.tup [.c 1 [.l (.str [111,119,110]),.list [.v 69]],.list [.dict [] [],.dict [] []]]),
  .fors true [22,7,43,8] .val [.v 57] [.expr (.f 10 [.sub (.tup [.v 2,.v 69]) (.v 22),.f 90 [.v 7],.f 90 [.v 43],.v 8]),
   .expr (.n (.sub (.v 117) (.v 22)) .pop [.v 7,.l (.none)]),
   .expr (.n (.sub (.v 117) (.v 22)) .pop [.n (.v 7) .lower [],.l (.none)]),
   .assign (.sub (.sub (.v 117) (.v 22)) (.ite (.v 8) (.v 7) (.n (.v 7) .lower []))) (.tup [.v 43,.v 8])],
  .ret (.o .add (.list [.v 2,.v 69]) (.v 117))]⟩
noncomputable def f93:MF:=⟨[117,7],[],
  [.fors false [14] .val [.v 117] [.ifs (.cmp (.v 7) [.isIn] [.v 14]) [.ret (.sub (.v 14) (.v 7))] [],
   .ifs (.and [.cmp (.n (.v 7) .lower []) [.isIn] [.v 14],.not (.sub (.sub (.v 14) (.n (.v 7) .lower [])) (.l (.int 1)))]) [.ret (.sub (.v 14) (.n (.v 7) .lower []))] []],
  .ret (.l (.none))]⟩
noncomputable def f94:MF:=⟨[43,118],[],
  [.assign (.tup [3,4,119]) (.tup [.l (.str []),.l (.bool false),.l (.bool false)]),
  .fors false [71] .val [.v 43] [.assign (.v 120) (.and [.n (.v 71) .isalnum [],.not (.v 4),.not (.v 119)]),
   .assign (.v 3) (.o .add (.v 3) (.ite (.v 120) (.n (.v 71) .upper []) (.v 71))),
   .assign (.v 119) (.or [.v 119,.and [.v 120,.not (.v 118)]]),
   .assign (.v 4) (.n (.v 71) .isalnum [])],
  .ret (.v 3)]⟩
noncomputable def f95:MF:=⟨[117,7],[],
  [.assign (.v 23) (.f 93 [.v 117,.v 7]),
  .ifs (.cmp (.v 23) [.is] [.l (.none)]) [.ret (.l (.none))] [],
  .assign (.tup [43,8]) (.v 23),
  .ifs (.or [.v 8,.cmp (.v 7) [.eq] [.n (.v 7) .lower []]]) [.ret (.v 43)] [],
  .ifs (.cmp (.v 7) [.ne] [.n (.v 7) .upper []]) [.ret (.f 94 [.v 43,.l (.bool false)])] [],
  .assign (.v 121) (.comp (.v 18) true [18,71] .enum [.v 43] [.and [.n (.v 71) .isalnum [],.or [.cmp (.v 18) [.eq] [.l (.int 0)],.not (.n (.sub (.v 43) (.o .sub (.v 18) (.l (.int 1)))) .isalnum [])]]]),
  .ret (.ite (.cmp (.b .len [.v 121]) [.gt] [.l (.int 1)]) (.f 94 [.v 43,.l (.bool true)]) (.n (.v 43) .upper []))]⟩
noncomputable def f96:MF:=⟨[122],[],
  [.assign (.v 3) (.list []),
  .fors false [2] .val [.v 122] [.expr (.n (.v 3) .append [.b .sorted [.comp (.tup [.v 15,.a (.sub (.a (.v 2) 12) (.v 15)) 9]) false [15] .val [.b .list [.a (.v 2) 12]] []]])],
  .ret (.v 3)]⟩
noncomputable def f97:MF:=⟨[123,2,19],[],
  [.assign (.tup [24,124]) (.tup [.m (.c 10 []) 125 [.l (.str [97])],.list []]),
  .fors true [22,126] .enum [.v 123] [.ifs (.cmp (.v 126) [.ne] [.l (.str [])]) [.expr (.f 34 [.v 24,.f 90 [.v 126]])] [],
   .ifs (.cmp (.o .mod (.v 22) (.l (.int 2))) [.eq] [.l (.int 1)]) [.assign (.v 3) (.f 56 [.v 24,.v 2,.v 19]),
    .ifs (.cmp (.v 3) [.isNot] [.l (.none)]) [.expr (.n (.v 124) .append [.v 3])] []] []],
  .ret (.tup [.v 24,.v 124])]⟩
noncomputable def f98:MF:=⟨[24,2,124,43],[],
  [.fors false [3] .val [.rev (.v 124)] [.ifs (.cmp (.f 57 [.v 24,.v 2,.v 3]) [.isNot] [.l (.bool true)]) [.ret (.l (.bool false))] []],
  .ret (.cmp (.f 91 [.v 24]) [.eq] [.v 43])]⟩
noncomputable def f99:MF:=⟨[111],[],
  [.assign (.tup [112,19]) (.tup [.f 88 [.v 111],.f 51 []]),
  .assign (.tup [127,128]) (.tup [.list [.l (.str [97]),.l (.str [97,98]),.l (.str [98,49]),.l (.str [65,98]),.l (.str [98,97])],.list [.l (.str [120]),.l (.str [102,111,111,32,98,97,114]),.l (.str [98,97]),.l (.str [97,98,32,98,97]),.l (.str []),.l (.str [120,45,121,32,122]),.l (.str [98,49])]]),
  .assign (.v 57) (.comp (.tup [.f 89 [.v 112,.l (.int 2)],.sub (.v 127) (.f 89 [.v 112,.l (.int 5)]),.sub (.v 128) (.f 89 [.v 112,.l (.int 7)]),.cmp (.f 89 [.v 112,.l (.int 4)]) [.eq] [.l (.int 0)]]) false [129] .range [.o .add (.l (.int 1)) (.f 89 [.v 112,.l (.int 4)])] []),
  .assign (.tup [130,131]) (.tup [.list [.l (.str [97]),.l (.str [65]),.l (.str [97,98]),.l (.str [65,98]),.l (.str [65,66]),.l (.str [98,49]),.l (.str [66,49]),.l (.str [98,97]),.l (.str [98,65]),.l (.str [99]),.l (.str [120])],.list [.l (.str [32]),.l (.str [10]),.l (.str [45]),.l (.str [44,32]),.l (.str [32,32])]]),
  .assign (.v 123) (.list [.sub (.list [.l (.str []),.l (.str [32]),.l (.str [45,45])]) (.f 89 [.v 112,.l (.int 3)])]),
  .fors false [129] .range [.o .add (.l (.int 1)) (.f 89 [.v 112,.l (.int 7)])] [.assign (.v 123) (.o .add (.v 123) (.list [.sub (.v 130) (.f 89 [.v 112,.l (.int 11)]),.sub (.v 131) (.f 89 [.v 112,.l (.int 5)])]))],
  .ifs (.cmp (.f 89 [.v 112,.l (.int 2)]) [.eq] [.l (.int 0)]) [.expr (.n (.v 123) .pop [])] [],
  .assign (.tup [43,14]) (.tup [.n (.l (.str [])) .join [.v 123],.f 92 [.v 57]]),
  .assign (.v 132) (.comp (.ite (.cmp (.o .mod (.v 22) (.l (.int 2))) [.eq] [.l (.int 1)]) (.f 95 [.slice (.v 14) (.l (.int 2)) (.l .none),.v 126]) (.l (.none))) true [22,126] .enum [.v 123] []),
  .assign (.v 87) (.n (.l (.str [])) .join [.comp (.ite (.cmp (.v 133) [.is] [.l (.none)]) (.v 126) (.v 133)) true [126,133] .zip [.v 123,.v 132] []]),
  .assign (.tup [24,124]) (.f 97 [.v 123,.sub (.v 14) (.l (.int 0)),.v 19]),
  .ifs (.or [.cmp (.f 91 [.v 24]) [.ne] [.v 87],.cmp (.b .len [.v 124]) [.ne] [.b .len [.comp (.l (.int 1)) false [133] .val [.v 132] [.cmp (.v 133) [.isNot] [.l (.none)]]]]]) [.ret (.l (.bool false))] [],
  .assign (.tup [134,114]) (.tup [.f 92 [.v 57],.m (.c 10 []) 125 [.l (.str [98])]]),
  .expr (.f 34 [.v 114,.f 90 [.v 43]]),
  .assign (.v 20) (.f 58 [.v 114,.sub (.v 134) (.l (.int 0)),.v 19,.l (.int 1),.o .add (.m (.v 114) 27 []) (.l (.int 1))]),
  .ifs (.or [.cmp (.f 91 [.v 114]) [.ne] [.v 87],.cmp (.v 20) [.ne] [.b .len [.v 124]],.cmp (.f 96 [.slice (.v 134) (.l .none) (.l (.int 2))]) [.ne] [.f 96 [.slice (.v 14) (.l .none) (.l (.int 2))]]]) [.ret (.l (.bool false))] [],
  .ifs (.not (.f 98 [.v 24,.sub (.v 14) (.l (.int 0)),.v 124,.v 43])) [.ret (.l (.bool false))] [],
  .ret (.cmp (.comp2 (.l (.int 1)) 135 (.f 96 [.slice (.v 14) (.l .none) (.l (.int 2))]) true [15,9] (.v 135) [.cmp (.v 9) [.ne] [.l (.int 0)]]) [.eq] [.list []])]⟩
noncomputable def fns:List MF:=[f0,f1,f2,f3,f4,f5,f6,f7,f8,f9,f10,f11,f12,f13,f14,f15,f16,f17,f18,f19,f20,f21,f22,f23,f24,f25,f26,f27,f28,f29,f30,f31,f32,f33,f34,f35,f36,f37,f38,f39,f40,f41,f42,f43,f44,f45,f46,f47,f48,f49,f50,f51,f52,f53,f54,f55,f56,f57,f58,f59,f60,f61,f62,f63,f64,f65,f66,f67,f68,f69,f70,f71,f72,f73,f74,f75,f76,f77,f78,f79,f80,f81,f82,f83,f84,f85,f86,f87,f88,f89,f90,f91,f92,f93,f94,f95,f96,f97,f98,f99]
noncomputable def names:List String:=["code", "codes", "table", "found", "is_inside", "kind_of", "self", "word", "is_exact", "used", "name", "parents", "entries", "is_all_great", "own", "key", "names", "waiting", "at", "syntax", "many", "is_within", "place", "entry", "buffer", "is_read_only", "growth", "size", "start", "end", "low", "high", "begv", "zv", "listener", "listeners", "before_change", "old_length", "touch", "after_change", "undo", "text_goes", "gone", "text", "delete", "point", "text_comes", "insert", "props", "text_gone", "overlays", "before_markers", "text_came", "is_point_behind", "markers", "inserted", "deleted", "rows", "replaced", "put_rows", "view", "code_at", "kinds", "is_negated", "kind", "limit", "match", "flags", "flag", "parent", "description", "sign", "modify_all", "opens", "closes", "count", "begin", "is_there", "is_so", "last", "bound", "room", "cells", "gap_start", "gap_end", "shift", "moved", "wanted", "lack", "widen_gap", "move_gap", "marker", "position", "number", "numbers", "is_before", "advances", "mark", "is_live", "ticks", "codes_ticks", "saved_ticks", "locals", "file", "are_codes", "order", "current", "last_number", "last_marker", "by_name", "startswith", "script", "deck", "cell", "whole_here", "one", "two", "known", "is_each", "is_over", "is_first", "starts", "tables", "pieces", "done", "create", "piece", "words", "texts", "turn", "typed", "between", "due", "made_here", "other", "row", "__init__", "has", "put", "within"]
noncomputable def meths:List (List (Nat×Nat)):=[[(136,7)],[(136,8)],[],[(136,41),(137,42)],[(136,45),(72,46),(14,47),(18,48),(5,49)],[(136,54)],[(136,59),(27,60),(0,61),(1,62),(90,63),(89,64),(47,65),(44,66),(138,67)],[(64,68)],[(136,69),(94,70),(138,71),(139,72),(55,73),(56,74),(58,75)],[(136,76),(64,77),(76,78),(29,79),(27,80),(61,81),(1,82),(38,83)],[(136,84),(109,85),(125,86),(134,87)]]
noncomputable def nInit:Nat:=136
noncomputable def attrs:List (List Nat):=[[7,1,8,9],[10,11,12,13],[],[64,66,67],[69,57],[22,7,1],[81,82,83,84],[],[57],[93,10,43,54,45,32,33,97,98,25,99,100,101,35,40,48,50,102,19,103],[57,105,106,107,108,35]]
noncomputable def prog:zfu:=⟨fun f=>fns[f]?,fun c x=>(meths[c]?).bind fun r=>r.lookup x,fun c=>(meths[c]?).bind fun r=>r.lookup nInit,fun c x=>(attrs[c]?).any fun r=>r.elem x⟩
theorem LG:(True/\True)=True:=and_self True
end Mine
end
section
open PySem PySem.W PySem.Calls PyProof.Rows
set_option maxRecDepth 100000
namespace Mine
variable{P:Value->Prop}{res:List Expr}{h h' hO:Heap}{W W':Addr->Prop}{Q E:Value->Shared->Prop}{s s':Shared}{α:Type}{p:Addr×Addr}{es:List ME}{y v x val:Value}{pos:Pos}{vals vs':List Value}{l l':List MV}{A:Around}{J J':Hp}{a c:Addr}{m:Str->Option Value}{re:Expr}{ts:List (Bool×Sem Value)}{kk k:Nat}{o:za}{ml:Loc}{tk1 tk:Tok}{e:ME}
noncomputable abbrev Rho:=List (Addr×Addr)
variable{O O' O1:Rho}
noncomputable def inR (O:Rho) (b:Addr):Prop:=∃ p∈O,b=p.1∨b=p.2
noncomputable def toS (s:List Nat):Str:=⟨s.toArray⟩
mutual
inductive zp (O:Rho)(h:Heap):MV->Value->Prop
 | none:zp O h .none .none
 | bool (b:Bool):zp O h (.bool b) (.bool b)
 | int (i:Int) (t:Tok):zp O h (.int i) (.int i t)
 | str (s:List Nat) (t:Tok):zp O h (.str s) (.str (toS s) t)
 | ref {i:Nat} {a d:Addr} (e:O[i]?=some (a,d)):zp O h (.ref i) (.ref a)
 | tup {l:List MV} {a:Addr} {vs:List Value} (e:h.IsTuple a vs.toArray) (hn:¬ inR O a) (r:zc O h l vs):zp O h (.tup l) (.ref a)
inductive zc (O:Rho)(h:Heap):List MV->List Value->Prop
 | nil:zc O h [] []
 | cons {m:MV} {v:Value} {ms:List MV} {vs:List Value} (a:zp O h m v) (r:zc O h ms vs):zc O h (m :: ms) (v :: vs)
end
section
variable {O O':Rho}{h h':Heap}{l:List MV}{vs:List Value}
theorem zc.ind {P:List MV->List Value->Prop}(r:zc O h l vs)(n:P [] [])(c:∀ {m v ms vs},zp O h m v->zc O h ms vs->P ms vs->P (m :: ms) (v :: vs)):P l vs:=
 @zc.rec O h (fun _ _ _=>True) (fun l vs _=>P l vs) trivial (fun _=>trivial) (fun _ _=>trivial) (fun _ _=>trivial) (fun _=>trivial) (fun _ _ _ _=>trivial) n (fun a r _ i=>c a r i) l vs r
theorem zc.length (r:zc O h l vs):l.length=vs.length:=r.ind (P:=fun l vs=>l.length=vs.length) rfl fun _ _ e=>congrArg (·+1) e
theorem zc.get (r:zc O h l vs):∀ {i:Nat} {m:MV},l[i]?=some m->∃ v,vs[i]?=some v/\zp O h m v:=
 r.ind (P:=fun l vs=>∀ {i:Nat} {m:MV},l[i]?=some m->∃ v,vs[i]?=some v/\zp O h m v) (fun e=>nn e) fun a _ ih i=>Nat.casesOn i (fun e=>⟨_,rfl,Option.some.inj e ▸ a⟩) (fun _ e=>ih e)
theorem zc.append (r:zc O h l vs)(r':zc O h l' vs'):zc O h (l ++ l') (vs ++ vs'):=r.ind (P:=fun l vs=>zc O h (l ++ l') (vs ++ vs')) r' fun a _ i=>.cons a i
theorem zc.take (r:zc O h l vs):∀ n:Nat,zc O h (l.take n) (vs.take n):=
 r.ind (P:=fun l vs=>∀ n:Nat,zc O h (l.take n) (vs.take n)) (fun n=>Nat.casesOn n .nil fun _=>.nil) fun a _ ih n=>Nat.casesOn n .nil fun n=>.cons a (ih n)
theorem zc.drop (r:zc O h l vs):∀ n:Nat,zc O h (l.drop n) (vs.drop n):=
 r.ind (P:=fun l vs=>∀ n:Nat,zc O h (l.drop n) (vs.drop n)) (fun n=>Nat.casesOn n .nil fun _=>.nil) fun a r ih n=>Nat.casesOn n (.cons a r) ih
theorem zc.reverse (r:zc O h l vs):zc O h l.reverse vs.reverse:=
 r.ind (P:=fun l vs=>zc O h l.reverse vs.reverse) .nil fun a _ ih=>by rw[List.reverse_cons,List.reverse_cons];exact ih.append (.cons a .nil)
theorem zc.set {m:MV}(x:zp O h m v)(r:zc O h l vs):∀ n:Nat,zc O h (l.set n m) (vs.set n v):=
 r.ind (P:=fun l vs=>∀ n:Nat,zc O h (l.set n m) (vs.set n v)) (fun _=>.nil) fun a r ih n=>Nat.casesOn n (.cons x r) fun n=>.cons a (ih n)
theorem zc.replicate {m:MV}(x:zp O h m v)(n:Nat):zc O h (List.replicate n m) (List.replicate n v):=Nat.rec .nil (fun _ i=>.cons x i) n
theorem zc.zh2 (r:zc O h l vs):∀ v∈vs,∃ m∈l,zp O h m v:=
 r.ind (P:=fun l vs=>∀ v∈vs,∃ m∈l,zp O h m v) (fun _ hv=>absurd hv List.not_mem_nil) fun {m _ _ _} a _ ih u hu=>(List.mem_cons.mp hu).elim (fun e=>⟨m,.head _,e ▸ a⟩) fun hu=>(ih u hu).elim fun m x=>⟨m,.tail _ x.1,x.2⟩
noncomputable def Grow (O O':Rho) (h h':Heap):Prop:=(∀ {i:Nat} {p:Addr×Addr},O[i]?=some p->O'[i]?=some p)/\∀ a vs,h.IsTuple a vs->¬ inR O a->h'.IsTuple a vs/\¬ inR O' a
theorem zp.grow (g:Grow O O' h h'){m:MV}(r:zp O h m v):zp O' h' m v:=
 @zp.rec O h (fun m v _=>zp O' h' m v) (fun l vs _=>zc O' h' l vs) .none .bool .int .str (fun e=>.ref (g.1 e)) (fun e n _ i=>.tup (g.2 _ _ e n).1 (g.2 _ _ e n).2 i) .nil (fun _ _ a i=>.cons a i) m v r
theorem zc.grow (g:Grow O O' h h')(r:zc O h l vs):zc O' h' l vs:=r.ind (P:=fun l vs=>zc O' h' l vs) .nil fun a _ i=>.cons (a.grow g) i
end
structure Ext (O:Rho)(h:Heap)(W:Addr->Prop)(O':Rho)(h':Heap):Prop where
 pre:∃ more,O'=O ++ more
 keep:∀ b o,h.get? b=some o->¬ inR O b->¬ W b->h'.get? b=some o
 new:∀ b,inR O' b->inR O b∨h.objs.size<=b
 size:h.objs.size<=h'.objs.size
noncomputable def W0:Addr->Prop:=fun _=>False
theorem ziR {more:Rho}{b:Addr}(x:inR O b):inR (O ++ more) b:=x.elim fun p y=>⟨p,List.mem_append_left _ y.1,y.2⟩
theorem Ext.at(x:Ext O h W O' h'){i:Nat}(e:O[i]?=some p):O'[i]?=some p:=by
 obtain⟨more,rfl⟩:=x.pre
 have:i < O.length:=(List.getElem?_eq_some_iff.mp e).1
 rw[List.getElem?_append_left this];exact e
theorem Ext.inR(x:Ext O h W O' h'){b:Addr}(q:inR O b):inR O' b:=by obtain⟨more,rfl⟩:=x.pre;exact ziR q
theorem Ext.yh(x:Ext O h W O' h'){b:Addr}{o:Obj}(e:h.get? b=some o)(n:¬ Mine.inR O b):¬ Mine.inR O' b:=fun q=>by
 rcases x.new b q with q | q
 ·exact n q
 ·exact Nat.lt_irrefl _ (Nat.lt_of_lt_of_le (Heap.lt_size e) q)
theorem Ext.refl (O:Rho)(h:Heap)(W:Addr->Prop):Ext O h W O h:=⟨⟨[],by simp⟩,fun _ _ e _ _=>e,fun _ q=>.inl q,Nat.le_refl _⟩
theorem Ext.trans {O2:Rho}{hS:Heap}(x:Ext O h W O1 hO)(y:Ext O1 hO W O2 hS):Ext O h W O2 hS:=by
 obtain⟨m1,e1⟩:=x.pre
 obtain⟨m2,e2⟩:=y.pre
 refine⟨⟨m1 ++ m2,by rw[e2,e1,List.append_assoc]⟩,fun b o e n w=>y.keep b o (x.keep b o e n w) (x.yh e n) w,fun b q=>?_,Nat.le_trans x.size y.size⟩
 rcases y.new b q with q | q
 ·exact x.new b q
 ·exact .inr (Nat.le_trans x.size q)
theorem Ext.weaken(x:Ext O h W O' h')(w:∀ b,W b->W' b):Ext O h W' O' h':=
 ⟨x.pre,fun b o e n q=>x.keep b o e n fun z=>q (w b z),x.new,x.size⟩
theorem Ext.narrow(x:Ext O h W O' h')(w:∀ b,W b->W' b∨h.get? b=none):Ext O h W' O' h':=
 ⟨x.pre,fun b o e n q=>x.keep b o e n fun z=>(w b z).elim q fun y=>by (rw[y] at e;cases e),x.new,x.size⟩
theorem IsTuple.stay{vs:Array Value}(x:h.IsTuple a vs)(k:∀ o,h.get? a=some o->h'.get? a=some o):h'.IsTuple a vs:=x.elim fun o y=>⟨o,k o y.1,y.2⟩
noncomputable def ym (h:Heap) (b:Addr):Prop:=∀ vs,¬ h.IsTuple b vs
theorem zM{b:Addr}{o:Obj}(e:h.get? b=some o)(c:o.cls≠.type "tuple"):ym h b:=fun _ t=>t.elim fun _ y=>c (Option.some.inj (e.symm.trans y.1) ▸ y.2.1)
noncomputable def WOk (h:Heap) (W:Addr->Prop):Prop:=∀ b,W b->ym h b
theorem WOk.w0 (h:Heap):WOk h W0:=fun _ w=>w.elim
theorem Ext.gr(x:Ext O h W O' h')(w:WOk h W):Grow O O' h h':=⟨fun e=>x.at e,fun _ _ t n=>⟨IsTuple.stay t fun o q=>x.keep _ o q n fun z=>w _ z _ t,t.elim fun _ y=>x.yh y.1 n⟩⟩
theorem zp.mono(x:Ext O h W O' h')(w:WOk h W){m:MV}(r:zp O h m v):zp O' h' m v:=r.grow (x.gr w)
theorem zc.mono(x:Ext O h W O' h')(w:WOk h W){vs:List Value}(r:zc O h l vs):zc O' h' l vs:=r.grow (x.gr w)
structure Cx where
 prog:Program
 w:World
 K:Frag
 hJ:Heap
 N:Nat->Str
 P:zfu
 fa:Nat->Addr
 ca:Nat->Addr
variable{cx:Cx}
noncomputable def encS (x:Str):MV:=.str x.cps.toList
noncomputable def encI (x:Int):MV:=.int x
inductive z8 {K:Type}(enc:K->MV)(O:Rho)(h:Heap):List (MV×MV)->List (K×Value)->Prop
 | nil:z8 enc O h [] []
 | cons {k:K} {m:MV} {v:Value} {l:List (MV×MV)} {kvs:List (K×Value)} (b:zp O h m v) (r:z8 enc O h l kvs):z8 enc O h ((enc k,m) :: l) ((k,v) :: kvs)
noncomputable def xU (cx:Cx) (O:Rho) (h:Heap) (a:Addr) (l:List (MV×MV)):Prop:=
 (∃ kvs,h.DictOf (strKind cx.prog cx.w) a kvs/\z8 encS O h l kvs)∨(∃ kvs,h.DictOf (intKind cx.prog cx.w) a kvs/\z8 encI O h l kvs)
inductive wG (cx:Cx)(O:Rho)(h:Heap):List (Nat×MV)->List DictEntry->Prop
 | nil:wG cx O h [] []
 | cons {x:Nat} {m:MV} {e:DictEntry} {l:List (Nat×MV)} {es:List DictEntry} (a:∃ t,e.key=.str (cx.N x) t) (b:zp O h m e.val) (r:wG cx O h l es):wG cx O h ((x,m) :: l) (e :: es)
noncomputable def ze2 (cx:Cx) (O:Rho) (h:Heap) (p:Addr×Addr):za->Prop
 | .list l=>∃ vs n,h.get? p.1=some { cls:=.type "list", data:=.seq (List.toArray vs) n }/\zc O h l vs/\p.2=p.1
 | .dict l=>p.2=p.1/\xU cx O h p.1 l
 | .inst c l=>p.2≠p.1/\(∃ sl,h.get? p.1=some ⟨.ref (cx.ca c),some p.2,.plain,sl⟩)/\∃ es n,h.get? p.2=some (dictOf es n)/\wG cx O h l es
 | .hid=>p.2=p.1/\∃ a b,h.get? p.1=some { cls:=.type "tuple", data:=.seq #[a,b] }
 | .frz f=>∃ vs,h.IsList p.1 (List.toArray vs)/\zc O h (f.map .int) vs/\p.2=p.1
noncomputable def notFrz (o:za):Prop:=∀ l,o≠.frz l
structure Sim (cx:Cx)(O:Rho)(J:Hp)(h:Heap):Prop where
 len:O.length=J.length
 obj:∀ (i:Nat) (o:za) (p:Addr×Addr),J[i]?=some o->O[i]?=some p->ze2 cx O h p o
 apart:∀ (i j:Nat) (p q:Addr×Addr),O[i]?=some p->O[j]?=some q->i≠j->p.1≠q.1/\p.1≠q.2/\p.2≠q.1/\p.2≠q.2
 fresh:∀ (i:Nat) (o:za) (p:Addr×Addr),J[i]?=some o->O[i]?=some p->notFrz o->cx.hJ.objs.size<=p.1/\cx.hJ.objs.size<=p.2
 base:∀ b o,cx.hJ.get? b=some o->h.get? b=some o
 size:cx.hJ.objs.size<=h.objs.size
theorem z8.grow {K:Type}{enc:K->MV}(g:Grow O O' h h'){l:List (MV×MV)}{es:List (K×Value)}(r:z8 enc O h l es):z8 enc O' h' l es:=
 @z8.rec K enc O h (fun l es _=>z8 enc O' h' l es) .nil (fun b _ i=>.cons (b.grow g) i) l es r
theorem DictOf.stay {prog:Program}{w:World}{K:Type}[DecidableEq K]{knd:KeyKind prog w K}{kvs:List (K×Value)}(x:h.DictOf knd a kvs)(k:∀ o,h.get? a=some o->h'.get? a=some o):h'.DictOf knd a kvs:=by obtain⟨o,es,ep,e,r⟩:=x;exact⟨o,es,ep,k o e,r⟩
theorem xU.grow(g:Grow O O' h h'){l:List (MV×MV)}(k:∀ o,h.get? a=some o->h'.get? a=some o)(r:xU cx O h a l):xU cx O' h' a l:=
 r.imp (Exists.imp fun _ y=>⟨DictOf.stay y.1 k,y.2.grow g⟩) (Exists.imp fun _ y=>⟨DictOf.stay y.1 k,y.2.grow g⟩)
theorem xU.obj{l:List (MV×MV)}(r:xU cx O h a l):∃ es n,h.get? a=some (dictOf es n):=by
 rcases r with⟨kvs,⟨⟨c,d,dt,sl⟩,es,ep,e,⟨h1,h2,h3⟩,h4,_⟩,p⟩ | ⟨kvs,⟨⟨c,d,dt,sl⟩,es,ep,e,⟨h1,h2,h3⟩,h4,_⟩,p⟩ <;> (dsimp only at h1 h2 h3 h4;subst h1 h2 h3 h4;exact⟨es.toList,ep,by simpa[dictOf] using e⟩)
theorem wG.grow(g:Grow O O' h h'){l:List (Nat×MV)}{es:List DictEntry}(r:wG cx O h l es):wG cx O' h' l es:=
 @wG.rec cx O h (fun l es _=>wG cx O' h' l es) .nil (fun a b _ i=>.cons a (b.grow g) i) l es r
theorem Sim.lt(S:Sim cx O J h){b:Addr}(q:inR O b):b < h.objs.size:=by
 obtain⟨p,hp,e⟩:=q
 obtain⟨i,hi,ei⟩:=List.getElem_of_mem hp
 have e1:O[i]?=some p:=by rw[List.getElem?_eq_getElem hi,ei]
 have hi':i < J.length:=S.len ▸ hi
 have:=S.obj i _ p (List.getElem?_eq_getElem hi') e1
 cases ho:J[i] with
 | list l=>rw[ho] at this;obtain⟨vs,n,g,_,e2⟩:=this;rcases e with rfl | rfl;exact Heap.lt_size g;rw[e2];exact Heap.lt_size g
 | dict l=>rw[ho] at this;obtain⟨e2,r⟩:=this;obtain⟨es,n,g⟩:=r.obj;rcases e with rfl | rfl;exact Heap.lt_size g;rw[e2];exact Heap.lt_size g
 | inst c l=>rw[ho] at this;obtain⟨_,⟨sl,g⟩,es,n,g2,_⟩:=this;rcases e with rfl | rfl;exact Heap.lt_size g;exact Heap.lt_size g2
 | hid=>rw[ho] at this;obtain⟨e2,_,_,g⟩:=this;rcases e with rfl | rfl;exact Heap.lt_size g;rw[e2];exact Heap.lt_size g
 | frz l=>rw[ho] at this;obtain⟨vs,⟨_,g,_⟩,_,e2⟩:=this;rcases e with rfl | rfl;exact Heap.lt_size g;rw[e2];exact Heap.lt_size g
theorem z9{i:Nat}(e:O[i]?=some p):inR O p.1/\inR O p.2:=⟨⟨p,List.mem_of_getElem? e,.inl rfl⟩,⟨p,List.mem_of_getElem? e,.inr rfl⟩⟩
theorem ze2.grow(g:Grow O O' h h')(k1:∀ ob,h.get? p.1=some ob->h'.get? p.1=some ob)
  (k2:∀ ob,h.get? p.2=some ob->h'.get? p.2=some ob) (r:ze2 cx O h p o):ze2 cx O' h' p o:=by
 cases o with
 | list l=>exact Exists.imp (fun vs=>Exists.imp fun n y=>⟨k1 _ y.1,y.2.1.grow g,y.2.2⟩) r
 | dict l=>exact⟨r.1,r.2.grow g k1⟩
 | inst c l=>exact⟨r.1,r.2.1.imp fun _ y=>k1 _ y,Exists.imp (fun es=>Exists.imp fun n y=>⟨k2 _ y.1,y.2.grow g⟩) r.2.2⟩
 | hid=>exact⟨r.1,Exists.imp (fun a=>Exists.imp fun b y=>k1 _ y) r.2⟩
 | frz l=>exact Exists.imp (fun vs y=>⟨Exists.imp (fun o z=>⟨k1 _ z.1,z.2⟩) y.1,y.2.1.grow g,y.2.2⟩) r
theorem Sim.other(S:Sim cx O J h)(w:WOk h W)(k:∀ b o,h.get? b=some o->¬ W b->h'.get? b=some o)(wn:∀ b,W b->¬ inR O b/\cx.hJ.get? b=none)(hs:h.objs.size<=h'.objs.size):
  Sim cx O J h'/\Ext O h W O h':=by
 have x:Ext O h W O h':=⟨⟨[],by simp⟩,fun b o e _ q=>k b o e q,fun _ q=>.inl q,hs⟩
 refine⟨⟨S.len,fun i o p e1 e2=>(S.obj i o p e1 e2).grow (x.gr w) (fun ob g=>k _ _ g fun z=>(wn _ z).1 (z9 e2).1) (fun ob g=>k _ _ g fun z=>(wn _ z).1 (z9 e2).2),S.apart,S.fresh,fun b o e=>k b o (S.base b o e) (fun z=>by rw[(wn b z).2] at e;cases e),Nat.le_trans S.size hs⟩,x⟩
theorem qy{b:Addr}(q:inR (O ++ [p]) b):inR O b∨b=p.1∨b=p.2:=by
 obtain⟨r,hr,e⟩:=q
 rcases List.mem_append.mp hr with hr | hr
 ·exact .inl ⟨r,hr,e⟩
 ·rw[List.mem_singleton] at hr;subst hr;exact .inr e
theorem jm(k:∀ a vs,h.IsTuple a vs->h'.IsTuple a vs/\a≠p.1/\a≠p.2):Grow O (O ++ [p]) h h':=
 ⟨fun e=>(List.getElem?_append_left (List.getElem?_eq_some_iff.mp e).1).trans e,fun a vs t n=>⟨(k a vs t).1,fun q=>(qy q).elim n fun z=>z.elim (k a vs t).2.1 (k a vs t).2.2⟩⟩
theorem wy{l:List α}{p q:α}{i n:Nat}(hn:l.length=n)(e:(l ++ [p])[i]?=some q):l[i]?=some q∨i=n/\q=p:=by
 by_cases hi:i < l.length
 ·exact .inl ((List.getElem?_append_left hi).symm.trans e)
 ·obtain⟨j,rfl⟩:=Nat.exists_eq_add_of_le (Nat.le_of_not_lt hi)
  rw[List.getElem?_append_right (Nat.le_add_right _ _),Nat.add_sub_cancel_left] at e
  cases j with
  | zero=>exact .inr ⟨hn,(Option.some.inj e).symm⟩
  | succ j=>exact nn e
theorem ze2.ym(r:ze2 cx O h p o)(nh:o≠.hid):ym h p.1/\Mine.ym h p.2:=by
 cases o with
 | list l=>obtain⟨vs,n,g,r,e⟩:=r;exact⟨zM g (by simp),e ▸ zM g (by simp)⟩
 | dict l=>obtain⟨e,r⟩:=r;obtain⟨es,n,g⟩:=r.obj;exact⟨zM g (by simp),e ▸ zM g (by simp)⟩
 | inst c l=>obtain⟨ne,⟨sl,g⟩,es,n,g2,r⟩:=r;exact⟨zM g (by simp),zM g2 (by simp)⟩
 | hid=>exact absurd rfl nh
 | frz l=>obtain⟨vs,⟨o,g,c,_⟩,r,e⟩:=r;exact⟨zM g (by rw[c];simp),e ▸ zM g (by rw[c];simp)⟩
theorem Sim.join{O0:Rho}{hJ:Heap}(S:Sim cx O J h)(hh:∀ b o,h.get? b=some o->h'.get? b=some o)(hs:h.objs.size<=h'.objs.size)(X:Ext O0 hJ W O h')(k:Grow O (O ++ [p]) h h')(r:ze2 cx (O ++ [p]) h' p o)(n1:¬ inR O p.1)(n2:¬ inR O p.2)(z1:hJ.objs.size<=p.1)(z2:hJ.objs.size<=p.2)
  (hz:cx.hJ.objs.size<=hJ.objs.size):Sim cx (O ++ [p]) (J ++ [o]) h'/\Ext O0 hJ W (O ++ [p]) h'/\(O ++ [p])[J.length]?=some p:=by
 have L:=S.len
 have nw:(O ++ [p])[J.length]?=some p:=by rw[<- L];exact List.getElem?_concat_length
 have I:∀ {i:Nat} {q:Addr×Addr},O[i]?=some q->p.1≠q.1/\p.1≠q.2/\p.2≠q.1/\p.2≠q.2:=fun e=>⟨fun z=>n1 (z ▸ (z9 e).1),fun z=>n1 (z ▸ (z9 e).2),fun z=>n2 (z ▸ (z9 e).1),fun z=>n2 (z ▸ (z9 e).2)⟩
 have both:∀ {i:Nat} {o':za} {q:Addr×Addr},(J ++ [o])[i]?=some o'->(O ++ [p])[i]?=some q->(J[i]?=some o'/\O[i]?=some q)∨(o'=o/\q=p):=fun e1 e2=>by
  rcases wy rfl e1 with f1 | ⟨i1,f1⟩
  ·rcases wy L e2 with f2 | ⟨i2,f2⟩
   ·exact .inl ⟨f1,f2⟩
   ·exact absurd (i2 ▸ (List.getElem?_eq_some_iff.mp f1).1) (Nat.lt_irrefl _)
  ·exact .inr ⟨f1,(Option.some.inj (nw.symm.trans (i1 ▸ e2))).symm⟩
 refine⟨⟨by rw[List.length_append,List.length_append,L];rfl,fun i o' q e1 e2=>(both e1 e2).elim (fun y=>(S.obj i o' q y.1 y.2).grow k (fun _=>hh _ _) fun _=>hh _ _) fun y=>?_,fun i j q q' e1 e2 ne=>?_,fun i o' q e1 e2 nf=>(both e1 e2).elim (fun y=>S.fresh i o' q y.1 y.2 nf) fun y=>?_,fun b o e=>hh b o (S.base b o e),Nat.le_trans S.size hs⟩,⟨X.pre.imp' (· ++ [p]) fun m e=>?_,X.keep,fun b q=>(qy q).elim (X.new b) fun y=>.inr (y.elim (fun y=>y ▸ z1) fun y=>y ▸ z2),X.size⟩,nw⟩
 ·rw[y.1,y.2];exact r
 ·rcases wy L e1 with f1 | ⟨i1,f1⟩
  ·rcases wy L e2 with f2 | ⟨_,f2⟩
   ·exact S.apart i j q q' f1 f2 ne
   ·have:=I f1
    rw[f2];exact⟨this.1.symm,this.2.2.1.symm,this.2.1.symm,this.2.2.2.symm⟩
  ·rcases wy L e2 with f2 | ⟨i2,_⟩
   ·rw[f1];exact I f2
   ·exact absurd (i1.trans i2.symm) ne
 ·rw[y.2];exact⟨Nat.le_trans hz z1,Nat.le_trans hz z2⟩
 ·rw[e,List.append_assoc]
theorem Sim.adopt{O0:Rho}{hJ:Heap}(S:Sim cx O J h)(X:Ext O0 hJ W O h)(r:ze2 cx O h p o)(n1:¬ inR O p.1)(n2:¬ inR O p.2)(z1:hJ.objs.size<=p.1)(z2:hJ.objs.size<=p.2)
  (hz:cx.hJ.objs.size<=hJ.objs.size) (nh:o≠.hid:=by simp):Sim cx (O ++ [p]) (J ++ [o]) h/\Ext O0 hJ W (O ++ [p]) h/\(O ++ [p])[J.length]?=some p/\(∀ m v,zp O h m v->zp (O ++ [p]) h m v):=by
 have k:Grow O (O ++ [p]) h h:=jm fun a vs t=>⟨t,fun z=>(r.ym nh).1 vs (z ▸ t),fun z=>(r.ym nh).2 vs (z ▸ t)⟩
 have Jj:=S.join (fun _ _ e=>e) (Nat.le_refl _) X k (r.grow k (fun _ e=>e) fun _ e=>e) n1 n2 z1 z2 hz
 exact⟨Jj.1,Jj.2.1,Jj.2.2,fun _ _ v=>v.grow k⟩
theorem Sim.update(S:Sim cx O J h){i:Nat}{o':za}(e1:J[i]?=some o)(e2:O[i]?=some p)(hs:h'.objs.size=h.objs.size)
  (k:∀ b,b≠p.1->b≠p.2->h'.get? b=h.get? b) (r:Ext O h W0 O h'->ze2 cx O h' p o') (nf:notFrz o:=by intro l h;cases h):Sim cx O (J.set i o') h'/\Ext O h W0 O h':=by
 have I:=z9 e2
 have x:Ext O h W0 O h':=⟨⟨[],by simp⟩,fun b o e n _=>(k b (fun z=>n (z ▸ I.1)) (fun z=>n (z ▸ I.2))).trans e,fun _ q=>.inl q,Nat.le_of_eq hs.symm⟩
 refine⟨⟨by simp[S.len],fun j q pj f1 f2=>?_,S.apart,fun j q pj f1 f2 nf'=>?_,fun b ob e=>?_,hs ▸ S.size⟩,x⟩
 ·by_cases hj:i=j
  ·subst hj
   rw[e2] at f2;cases f2
   rw[List.getElem?_set_self (List.getElem?_eq_some_iff.mp e1).1] at f1
   cases f1;exact r x
  ·rw[List.getElem?_set_ne hj] at f1
   have A:=S.apart i j p pj e2 f2 hj
   exact (S.obj j q pj f1 f2).grow (x.gr (WOk.w0 h)) (fun ob g=>(k _ (Ne.symm A.1) (Ne.symm A.2.2.1)).trans g) (fun ob g=>(k _ (Ne.symm A.2.1) (Ne.symm A.2.2.2)).trans g)
 ·by_cases hj:i=j
  ·subst hj
   rw[e2] at f2;cases f2
   exact S.fresh i o p e1 e2 nf
  ·rw[List.getElem?_set_ne hj] at f1
   exact S.fresh j q pj f1 f2 nf'
 ·have F:=S.fresh i o p e1 e2 nf
  exact (k b (fun z=>Nat.lt_irrefl _ (Nat.lt_of_lt_of_le (Heap.lt_size e) (z ▸ F.1))) (fun z=>Nat.lt_irrefl _ (Nat.lt_of_lt_of_le (Heap.lt_size e) (z ▸ F.2)))).trans (S.base b ob e)
theorem Ext.push (O:Rho)(h:Heap)(W:Addr->Prop)(o:Obj):Ext O h W O (h.push o):=⟨⟨[],by simp⟩,fun _ _ e _ _=>Heap.get?_push_of_some _ e,fun _ q=>.inl q,by rw[Heap.size_push];exact Nat.le_succ _⟩
theorem Sim.push(S:Sim cx O J h)(o:Obj):Sim cx O J (h.push o):=
 (S.other (W:=W0) (WOk.w0 h) (fun _ _ e _=>Heap.get?_push_of_some _ e) (fun _ z=>z.elim) (by rw[Heap.size_push];exact Nat.le_succ _)).1
theorem Sim.alloc(S:Sim cx O J h){ob:Obj}(r:ze2 cx O (h.push ob) (h.objs.size,h.objs.size) o)(nh:o≠.hid:=by simp):
  Sim cx (O ++ [(h.objs.size,h.objs.size)]) (J ++ [o]) (h.push ob)/\Ext O h W0 (O ++ [(h.objs.size,h.objs.size)]) (h.push ob)/\zp (O ++ [(h.objs.size,h.objs.size)]) (h.push ob) (.ref J.length) (.ref h.objs.size):=by
 have n:¬ inR O h.objs.size:=fun q=>Nat.lt_irrefl _ (S.lt q)
 obtain⟨a,b,c,_⟩:=(S.push ob).adopt (Ext.push O h W0 ob) r n n (Nat.le_refl _) (Nat.le_refl _) S.size nh
 exact⟨a,b,.ref c⟩
theorem Sim.hidden(S:Sim cx O J h)(k:∀ b o,h.get? b=some o->h'.get? b=some o){T:Addr}{va vb:Value}(g:h'.get? T=some { cls:=.type "tuple", data:=.seq #[va,vb] }) (hT:h.objs.size<=T):
  Sim cx (O ++ [(T,T)]) (J ++ [.hid]) h'/\Ext O h W0 (O ++ [(T,T)]) h':=by
 have hs:h.objs.size<=h'.objs.size:=Nat.le_trans hT (Nat.le_of_lt (Heap.lt_size g))
 have n:¬ inR O T:=fun q=>Nat.lt_irrefl _ (Nat.lt_of_lt_of_le (S.lt q) hT)
 have ne:∀ a vs,h.IsTuple a vs->h'.IsTuple a vs/\a≠T/\a≠T:=fun a vs t=>
  have q:a≠T:=fun z=>t.elim fun o y=>Nat.lt_irrefl _ (Nat.lt_of_lt_of_le (Heap.lt_size y.1) (z ▸ hT))
  ⟨IsTuple.stay t (k a),q,q⟩
 have Jj:=S.join k hs ⟨⟨[],(List.append_nil _).symm⟩,fun b o e _ _=>k b o e,fun _ q=>.inl q,hs⟩ (W:=W0) (jm ne) (p:=(T,T)) (o:=.hid) ⟨rfl,va,vb,g⟩ n n hT hT S.size
 exact⟨Jj.1,Jj.2.1⟩
theorem Ext.yR(x:Ext O h W0 O' h'){m:MV}(r:zp O h m v):zp O' h' m v:=r.mono x (WOk.w0 h)
theorem Ext.qi(x:Ext O h W0 O' h'){m:List MV}{v:List Value}(r:zc O h m v):zc O' h' m v:=r.mono x (WOk.w0 h)
section
variable {O:Rho}{h:Heap}
@[elab_as_elim] theorem rN {b:MV} {f0:Option α} {t:α} (q:eN b f0=some t) (r:zp O h b y) (k0:f0=some t->P .none):P y:=
 eNG (P:=fun b=>zp O h b y->P y) q (fun q r=>by cases r;exact k0 q) r
@[elab_as_elim] theorem rB {b:MV} {f0:Bool->Option α} {t:α} (q:eB b f0=some t) (r:zp O h b y) (k0:∀ x,f0 x=some t->P (.bool x)):P y:=
 eBG (P:=fun b=>zp O h b y->P y) q (fun x q r=>by cases r;exact k0 x q) r
@[elab_as_elim] theorem rI {b:MV} {f0:Int->Option α} {t:α} (q:eI b f0=some t) (r:zp O h b y) (k0:∀ x tk,f0 x=some t->P (.int x tk)):P y:=
 eIG (P:=fun b=>zp O h b y->P y) q (fun x q r=>by cases r;exact k0 x _ q) r
@[elab_as_elim] theorem rS {b:MV} {f0:List Nat->Option α} {t:α} (q:eS b f0=some t) (r:zp O h b y) (k0:∀ x tk,f0 x=some t->P (.str (toS x) tk)):P y:=
 eSG (P:=fun b=>zp O h b y->P y) q (fun x q r=>by cases r;exact k0 x _ q) r
@[elab_as_elim] theorem rR {b:MV} {f0:Nat->Option α} {t:α} (q:eR b f0=some t) (r:zp O h b y) (k0:∀ x a d,O[x]?=some (a,d)->f0 x=some t->P (.ref a)):P y:=
 eRG (P:=fun b=>zp O h b y->P y) q (fun x q r=>by cases r with | ref e=>exact k0 x _ _ e q) r
@[elab_as_elim] theorem rT {b:MV} {f0:List MV->Option α} {t:α} (q:eT b f0=some t) (r:zp O h b y) (k0:∀ x a vs,h.IsTuple a (List.toArray vs)->¬ inR O a->zc O h x vs->f0 x=some t->P (.ref a)):P y:=
 eTG (P:=fun b=>zp O h b y->P y) q (fun x q r=>by cases r with | tup e n z=>exact k0 x _ _ e n z q) r
@[elab_as_elim] theorem rSR {b:MV} {f0:List Nat->Option α} {f1:Nat->Option α} {t:α} (q:eSR b f0 f1=some t) (r:zp O h b y) (k0:∀ x tk,f0 x=some t->P (.str (toS x) tk)) (k1:∀ x a d,O[x]?=some (a,d)->f1 x=some t->P (.ref a)):P y:=
 eSRG (P:=fun b=>zp O h b y->P y) q (fun x q r=>by cases r;exact k0 x _ q) (fun x q r=>by cases r with | ref e=>exact k1 x _ _ e q) r
@[elab_as_elim] theorem rBI {b:MV} {f0:Bool->Option α} {f1:Int->Option α} {t:α} (q:eBI b f0 f1=some t) (r:zp O h b y) (k0:∀ x,f0 x=some t->P (.bool x)) (k1:∀ x tk,f1 x=some t->P (.int x tk)):P y:=
 eBIG (P:=fun b=>zp O h b y->P y) q (fun x q r=>by cases r;exact k0 x q) (fun x q r=>by cases r;exact k1 x _ q) r
@[elab_as_elim] theorem rSRT {b:MV} {f0:List Nat->Option α} {f1:Nat->Option α} {f2:List MV->Option α} {t:α} (q:eSRT b f0 f1 f2=some t) (r:zp O h b y) (k0:∀ x tk,f0 x=some t->P (.str (toS x) tk)) (k1:∀ x a d,O[x]?=some (a,d)->f1 x=some t->P (.ref a)) (k2:∀ x a vs,h.IsTuple a (List.toArray vs)->¬ inR O a->zc O h x vs->f2 x=some t->P (.ref a)):P y:=
 eSRTG (P:=fun b=>zp O h b y->P y) q (fun x q r=>by cases r;exact k0 x _ q) (fun x q r=>by cases r with | ref e=>exact k1 x _ _ e q) (fun x q r=>by cases r with | tup e n z=>exact k2 x _ _ e n z q) r
@[elab_as_elim] theorem rISR {b:MV} {f0:Int->Option α} {f1:List Nat->Option α} {f2:Nat->Option α} {t:α} (q:eISR b f0 f1 f2=some t) (r:zp O h b y) (k0:∀ x tk,f0 x=some t->P (.int x tk)) (k1:∀ x tk,f1 x=some t->P (.str (toS x) tk)) (k2:∀ x a d,O[x]?=some (a,d)->f2 x=some t->P (.ref a)):P y:=
 eISRG (P:=fun b=>zp O h b y->P y) q (fun x q r=>by cases r;exact k0 x _ q) (fun x q r=>by cases r;exact k1 x _ q) (fun x q r=>by cases r with | ref e=>exact k2 x _ _ e q) r
@[elab_as_elim] theorem rIR {b:MV} {f0:Int->Option α} {f1:Nat->Option α} {t:α} (q:eIR b f0 f1=some t) (r:zp O h b y) (k0:∀ x tk,f0 x=some t->P (.int x tk)) (k1:∀ x a d,O[x]?=some (a,d)->f1 x=some t->P (.ref a)):P y:=
 eIRG (P:=fun b=>zp O h b y->P y) q (fun x q r=>by cases r;exact k0 x _ q) (fun x q r=>by cases r with | ref e=>exact k1 x _ _ e q) r
@[elab_as_elim] theorem rNI {b:MV} {f0:Option α} {f1:Int->Option α} {t:α} (q:eNI b f0 f1=some t) (r:zp O h b y) (k0:f0=some t->P .none) (k1:∀ x tk,f1 x=some t->P (.int x tk)):P y:=
 eNIG (P:=fun b=>zp O h b y->P y) q (fun q r=>by cases r;exact k0 q) (fun x q r=>by cases r;exact k1 x _ q) r
@[elab_as_elim] theorem rNB {b:MV} {f0:Option α} {f1:Bool->Option α} {t:α} (q:eNB b f0 f1=some t) (r:zp O h b y) (k0:f0=some t->P .none) (k1:∀ x,f1 x=some t->P (.bool x)):P y:=
 eNBG (P:=fun b=>zp O h b y->P y) q (fun q r=>by cases r;exact k0 q) (fun x q r=>by cases r;exact k1 x q) r
@[elab_as_elim] theorem vNo (r:zp O h .none x) (k:P .none):P x:=by cases r;exact k
@[elab_as_elim] theorem vBo {b:Bool} (r:zp O h (.bool b) x) (k:P (.bool b)):P x:=by cases r;exact k
@[elab_as_elim] theorem vIn {i:Int} (r:zp O h (.int i) x) (k:∀ t,P (.int i t)):P x:=by cases r;exact k _
@[elab_as_elim] theorem vSt {s:List Nat} (r:zp O h (.str s) x) (k:∀ t,P (.str (toS s) t)):P x:=by cases r;exact k _
@[elab_as_elim] theorem vRe {i:Nat} (r:zp O h (.ref i) x) (k:∀ a d,O[i]?=some (a,d)->P (.ref a)):P x:=by cases r with | ref e=>exact k _ _ e
@[elab_as_elim] theorem vTu (r:zp O h (.tup l) x) (k:∀ a vs,h.IsTuple a (List.toArray vs)->¬ inR O a->zc O h l vs->P (.ref a)):P x:=by cases r with | tup e n r=>exact k _ _ e n r
@[elab_as_elim] theorem wNil {P:List Value->Prop} (r:zc O h [] vals) (k:P []):P vals:=by cases r;exact k
@[elab_as_elim] theorem wCons {m:MV} {P:List Value->Prop} (r:zc O h (m :: l) vals) (k:∀ x vs,zp O h m x->zc O h l vs->P (x :: vs)):P vals:=by cases r with | cons a r=>exact k _ _ a r
@[elab_as_elim] theorem w0R {vs:List MV} {f:Option α} {t:α} {P:List Value->Prop} (q:aN vs f=some t) (r:zc O h vs vals) (k:f=some t->P []):P vals:=
 aNG (P:=fun vs=>zc O h vs vals->P vals) q (fun q r=>wNil r (k q)) r
@[elab_as_elim] theorem w1R {vs:List MV} {f:MV->Option α} {t:α} {P:List Value->Prop} (q:a1 vs f=some t) (r:zc O h vs vals) (k:∀ v x,zp O h v x->f v=some t->P [x]):P vals:=
 a1G (P:=fun vs=>zc O h vs vals->P vals) q (fun v q r=>wCons r fun x _ a r=>wNil r (k v x a q)) r
@[elab_as_elim] theorem w2R {vs:List MV} {f:MV->MV->Option α} {t:α} {P:List Value->Prop} (q:a2 vs f=some t) (r:zc O h vs vals) (k:∀ v w x y,zp O h v x->zp O h w y->f v w=some t->P [x,y]):P vals:=
 a2G (P:=fun vs=>zc O h vs vals->P vals) q (fun v w q r=>wCons r fun x _ a r=>wCons r fun y _ b r=>wNil r (k v w x y a b q)) r
@[elab_as_elim] theorem wXR {vs:List MV} {z:Option α} {f:MV->List MV->Option α} {t:α} {P:List Value->Prop} (q:aX vs z f=some t) (r:zc O h vs vals) (k0:z=some t->P []) (k:∀ v l x xs,zp O h v x->zc O h l xs->f v l=some t->P (x :: xs)):P vals:=
 aXG (P:=fun vs=>zc O h vs vals->P vals) q (fun q r=>wNil r (k0 q)) (fun v l q r=>wCons r fun x xs a r=>k v l x xs a r q) r
variable {cx:Cx}{J:Hp}
theorem Sim.pL (S:Sim cx O J h){i:Nat}{d:Addr}(m:J[i]?=some (.list l))(e:O[i]?=some (a,d)){P:Prop}(k:∀ vs n,d=a->h.get? a=some { cls:=.type "list", data:=.seq (List.toArray vs) n }->zc O h l vs->P):P:=by
 obtain⟨vs,n,g,r,e⟩:=S.obj i _ _ m e;exact k vs n e g r
theorem Sim.pD (S:Sim cx O J h){i:Nat}{d:Addr}{l:List (MV×MV)}(m:J[i]?=some (.dict l))(e:O[i]?=some (a,d)){P:Prop}(k:d=a->xU cx O h a l->P):P:=by
 obtain⟨e,r⟩:=S.obj i _ _ m e;exact k e r
end
noncomputable abbrev FF:Value->Shared->Prop:=fun _ _=>False
structure xd (A:Around)(k:Nat):Prop where
 hd:A.handled=none
 depth:A.depth+3 * k<=900
 units:A.units+20 * k+60 < cLine
theorem xd.mark(r:xd A k):xd (A.mark none) k:=r
theorem xd.in1(r:xd A k){j:Nat}(h:j < k):xd A.in1 j:=⟨r.hd,by have:=r.depth;show A.depth+_<=_;lia,by have:=r.units;show A.units+1+_+_ < _;lia⟩
theorem xd.deeper(r:xd A (k+1))(env:Env):xd (A.deeper env) k:=⟨r.hd,by have:=r.depth;show A.depth+1+_<=_;lia,by have:=r.units;show A.units+3+_+_ < _;lia⟩
structure Base (cx:Cx):Prop where
 big:16<=cx.hJ.objs.size
 X:cx.K.In cx.hJ
 g:∃ mg,cx.hJ.Ns mainGlobals mg
 b:∃ mb,cx.hJ.Ns builtinsNs mb/\∀ x:Str,x ≠ "__name__" -> mb x=bootBuiltins x
 lim:cx.hJ.NoLimit
 inj:∀ x y,cx.N x=cx.N y->x=y
 nd:∀ x,(cx.N x == ("__debug__" : Str))=false
 nc:∀ x,(cx.N x == ("__classdict__" : Str))=false
 nz:∀ x,cx.N x ≠ ".0"
structure zL (cx:Cx)(env:Env)(O:Rho)(h:Heap)(ml:Loc):Prop where
 kind:env.scope.kind=.function
 glob:env.globals=mainGlobals
 bn:env.builtins=builtinsNs
 loc:∃ m,h.Ns env.locals m/\∀ x v,ml x=some v->env.kindOf (cx.N x)=some .local->∃ val,m (cx.N x)=some val/\zp O h v val
 cell:∀ x v,ml x=some v->env.kindOf (cx.N x)=some .cell∨env.kindOf (cx.N x)=some .free->∃ c val,env.cells.lookup (cx.N x)=some c/\h.IsCell c (some val)/\zp O h v val
 cells:∀ n c,env.cells.lookup n=some c->¬ inR O c/\c≠env.locals/\cx.hJ.objs.size<=c/\∃ v,h.IsCell c v
 inj:∀ n m c,env.cells.lookup n=some c->env.cells.lookup m=some c->n=m
 locN:¬ inR O env.locals/\cx.hJ.objs.size<=env.locals
noncomputable def Wenv (env:Env):Addr->Prop:=fun b=>b=env.locals∨∃ n,env.cells.lookup n=some b
theorem qU{v:Option Value}(x:h.IsCell c v):ym h c:=fun vs w=>by
 obtain⟨o',e',_,n,hd⟩:=w
 obtain⟨o,e,q⟩:=x
 rw[e] at e';cases e';rw[q] at hd;cases hd
theorem yr(x:h.Ns c m):ym h c:=fun vs w=>by
 obtain⟨o',e',_,n,hd⟩:=w
 obtain⟨o,es,ep,e,q,_⟩:=x
 rw[e] at e';cases e';rw[q] at hd;cases hd
structure EPost (cx:Cx)(O:Rho)(s:Shared)(J':Hp)(v:MV)(val:Value)(s':Shared):Prop where
 ex:∃ O' h' tk,s'={ s with heap:=h',toks:=tk }/\Sim cx O' J' h'/\Ext O s.heap W0 O' h'/\zp O' h' v val
structure zc3 (cx:Cx)(O:Rho)(s:Shared)(J':Hp)(vs:List MV)(vals:List Value)(s':Shared):Prop where
 ex:∃ O' h' tk,s'={ s with heap:=h',toks:=tk }/\Sim cx O' J' h'/\Ext O s.heap W0 O' h'/\zc O' h' vs vals
theorem Ns.stay(x:h.Ns a m)(k:∀ o,h.get? a=some o->h'.get? a=some o):h'.Ns a m:=by obtain⟨o,es,ep,e,r⟩:=x;exact⟨o,es,ep,k o e,r⟩
theorem IsCell.stay{v:Option Value}(x:h.IsCell a v)(k:∀ o,h.get? a=some o->h'.get? a=some o):h'.IsCell a v:=x.elim fun o y=>⟨o,k o y.1,y.2⟩
theorem zL.ext{env:Env}(E:zL cx env O h ml)(x:Ext O h W0 O' h'):zL cx env O' h' ml:=by
 have k:∀ a,¬ inR O a->∀ o,h.get? a=some o->h'.get? a=some o:=fun a n o e=>x.keep a o e n fun z=>z
 refine⟨E.kind,E.glob,E.bn,?_,fun y v e1 e2=>?_,fun n c e=>?_,E.inj,?_,E.locN.2⟩
 ·obtain⟨m,hm,r⟩:=E.loc
  exact⟨m,Ns.stay hm (k _ E.locN.1),fun y v e1 e2=>(r y v e1 e2).imp fun _ z=>⟨z.1,x.yR z.2⟩⟩
 ·obtain⟨c,val,a,b,d⟩:=E.cell y v e1 e2
  exact⟨c,val,a,IsCell.stay b (k _ (E.cells _ _ a).1),x.yR d⟩
 ·obtain⟨a,b,d,v,i⟩:=E.cells n c e
  refine⟨?_,b,d,v,IsCell.stay i (k _ a)⟩
  obtain⟨o,q,_⟩:=i
  exact x.yh q a
 ·obtain⟨m,⟨o,_,_,q,_⟩,r⟩:=E.loc
  exact x.yh q E.locN.1
section
variable {cx:Cx}{A:Around}{O:Rho}{s:Shared}{J:Hp}{env:Env}{ml:Loc}
theorem EPost.here{v:MV}(S:Sim cx O' J' h')(x:Ext O s.heap W0 O' h')(r:zp O' h' v val):EPost cx O s J' v val { s with heap:=h',toks:=tk }:=⟨O',h',tk,rfl,S,x,r⟩
theorem EPost.now {v:MV}(S:Sim cx O J s.heap)(r:zp O s.heap v val):EPost cx O s J v val { s with toks:=tk }:=⟨O,s.heap,tk,rfl,S,Ext.refl ..,r⟩
theorem EPost.same {v:MV}(S:Sim cx O J s.heap)(r:zp O s.heap v val):EPost cx O s J v val s:=⟨O,s.heap,s.toks,rfl,S,Ext.refl ..,r⟩
theorem EPost.after{v:MV}(x:Ext O s.heap W0 O1 hO)(p:EPost cx O1 { s with heap:=hO,toks:=tk1 } J' v val s'):EPost cx O s J' v val s':=by
 obtain⟨O',h',tk,rfl,S,y,r⟩:=p
 exact⟨O',h',tk,rfl,S,x.trans y,r⟩
theorem zc3.after{v:List MV}{val:List Value}(x:Ext O s.heap W0 O1 hO)(p:zc3 cx O1 { s with heap:=hO,toks:=tk1 } J' v val s'):zc3 cx O s J' v val s':=by
 obtain⟨O',h',tk,rfl,S,y,r⟩:=p
 exact⟨O',h',tk,rfl,S,x.trans y,r⟩
end
noncomputable abbrev wpM (cx:Cx) {α:Type} (A:Around) (t:Sem α) (Q:α->Shared->Prop) (s:Shared):Prop:=wpAny (model cx.prog cx.w) A t Q FF s
theorem wpE{v:MV}{t:Sem Value}(h:wpM cx A t (EPost cx O s J' v) s)
  (k:∀ val O' h' tk,Sim cx O' J' h'->Ext O s.heap W0 O' h'->zp O' h' v val->Q val { s with heap:=h',toks:=tk }):wpAny (model cx.prog cx.w) A t Q E s:=
 wpAny_mono h (fun val s' p=>p.ex.elim fun O' p=>p.elim fun h' p=>p.elim fun tk p=>Eq.symm p.1 ▸ k val O' h' tk p.2.1 p.2.2.1 p.2.2.2) fun _ _ z=>z.elim
theorem wpL{vs:List MV}{t:Sem (List Value)}{Q:List Value->Shared->Prop}(h:wpM cx A t (zc3 cx O s J' vs) s)
  (k:∀ vals O' h' tk,Sim cx O' J' h'->Ext O s.heap W0 O' h'->zc O' h' vs vals->Q vals { s with heap:=h',toks:=tk }):wpAny (model cx.prog cx.w) A t Q E s:=
 wpAny_mono h (fun val s' p=>p.ex.elim fun O' p=>p.elim fun h' p=>p.elim fun tk p=>Eq.symm p.1 ▸ k val O' h' tk p.2.1 p.2.2.1 p.2.2.2) fun _ _ z=>z.elim
noncomputable def SndE (cx:Cx) (k:Nat) (A:Around) (env:Env) (e:ME) (t:Sem Value):Prop:=
 ∀ ml J v J' O s,zL cx env O s.heap ml->Sim cx O J s.heap->evalE cx.P (callN cx.P k) e ml J=some (v,J')->wpM cx A t (EPost cx O s J' v) s
theorem zek{t:Sem α}{Q:α->Shared->Prop}(h:wpM cx A t Q s):wpAny (model cx.prog cx.w) A t Q E s:=wpAny_mono h (fun _ _ x=>x) fun _ _ x=>x.elim
section
variable {cx:Cx}{k:Nat}{A:Around}{env:Env}
theorem zfq:SndE cx k A env (.l .none) (PySem.eval (.Constant .none kk pos) env):=fun ml J v J' O s E S e=>by
 exact pG e (wpAny_pure (EPost.same S .none))
theorem zfC {b:Bool}:SndE cx k A env (.l (.bool b)) (PySem.eval (.Constant (.bool b) kk pos) env):=fun ml J v J' O s E S e=>by
 exact pG e (wpAny_pure (EPost.same S (.bool b)))
theorem zh1 {i:Int}:SndE cx k A env (.l (.int i)) (PySem.eval (.Constant (.int i) kk pos) env):=fun ml J v J' O s E S e=>by
 exact pG e (wpAny_Constant_int (EPost.now S (.int i _)))
theorem zhv {x:List Nat}{y:Str}(hy:y=toS x):SndE cx k A env (.l (.str x)) (PySem.eval (.Constant (.str y) kk pos) env):=fun ml J v J' O s E S e=>by
 subst hy
 exact pG e (Calls.Constant_str (EPost.now S (.str x _)))
theorem ziQ (B:Base cx){x:Nat}(hk:env.kindOf (cx.N x)=some .local∨env.kindOf (cx.N x)=some .cell∨env.kindOf (cx.N x)=some .free):SndE cx k A env (.v x) (PySem.eval (.Name (cx.N x) pos) env):=fun ml J v J' O s E S e=>by
 refine bG e fun v' e2 e3=>pG e3 (wpAny_Name ?_ (B.nd x))
 rcases hk with hk | hk
 ·obtain⟨m,hm,r⟩:=E.loc
  obtain⟨val,a,b⟩:=r x _ e2 hk
  exact wpAny_loadName_local E.kind hk hm a (EPost.same S b)
 ·obtain⟨c,val,a,b,d⟩:=E.cell x _ e2 hk
  rcases hk with hk | hk
  ·exact wpAny_loadName_cell E.kind hk a b (EPost.same S d)
  ·exact wpAny_loadName_free E.kind hk a b (EPost.same S d) (B.nc x)
noncomputable def onV (v:Value) (i:Int->Bool) (s:Str->Bool):Bool:=@Value.casesOn (fun _=>Bool) v false false false F1 (fun x _=>i x) F2 (fun x _=>s x) F2 F1 F1 F1
@[elab_as_elim] theorem onV_go {i:Int->Bool} {s:Str->Bool} (h:onV v i s=true) (k:∀ x t,i x=true->P (.int x t)) (k':∀ x t,s x=true->P (.str x t)):P v:=@Value.casesOn (fun v=>onV v i s=true->P v) v ff ff ff G1 k G2 k' G2 G1 G1 G1 h
noncomputable def constOk (m:MV) (v:Value):Bool:=@MV.casesOn (fun _=>Bool) m (decide (v=.none)) (fun b=>decide (v=.bool b)) (fun i=>onV v (fun j=>decide (j=i)) fun _=>false) (fun x=>onV v F1 fun y=>decide (y=toS x)) F1 F1
theorem qY{m:MV}:constOk m v=true->zp O h m v:=
 @MV.casesOn (fun m=>constOk m v=true->zp O h m v) m (fun e=>(of_decide_eq_true e).symm ▸ .none) (fun b e=>(of_decide_eq_true e).symm ▸ .bool b) (fun i e=>onV_go e (fun j t e=>of_decide_eq_true e ▸ .int j t) fun _ _=>ff) (fun x e=>onV_go e G2 fun y t e=>(of_decide_eq_true e).symm ▸ .str x t) G1 G1
theorem wO (B:Base cx){x:Str}(E:zL cx env O s.heap ml)(S:Sim cx O J s.heap)(hx:env.kindOf x=some .globalImplicit)(hd:(x == ("__debug__" : Str))=false)
  (hv:nsIn cx.K mainGlobals x=some (some v)) (h:Q v s):wpM cx A (PySem.eval (.Name x pos) env) Q s:=by
 obtain⟨mg,hg⟩:=B.g
 refine Calls.Name_function_global E.kind hx (Calls.loadGlobal_global (env:=env) (mg:=mg) ?_ (mg_of B.X hg hv) h) hd
 rw[E.glob];exact hg.keeps S.base
theorem xZ (B:Base cx){x:Str}(E:zL cx env O s.heap ml)(S:Sim cx O J s.heap)(hx:env.kindOf x=some .globalImplicit)(hd:(x == ("__debug__" : Str))=false)
  (hn:x ≠ "__name__") (hv:nsIn cx.K mainGlobals x=some none) (hb:bootBuiltins x=some v) (h:Q v s):wpM cx A (PySem.eval (.Name x pos) env) Q s:=by
 obtain⟨mg,hg⟩:=B.g
 obtain⟨mb,hmb,hbb⟩:=B.b
 refine Calls.Name_function_global E.kind hx (Calls.loadGlobal_builtin (env:=env) (mg:=mg) (mb:=mb) ?_ (mg_none_of B.X hg hv) ?_ ((hbb x hn).trans hb) h) hd
 ·rw[E.glob];exact hg.keeps S.base
 ·rw[E.bn];exact hmb.keeps S.base
theorem zcB (B:Base cx){m:MV}{x:Str}(hx:env.kindOf x=some .globalImplicit)(hd:(x == ("__debug__" : Str))=false) (hv:nsIn cx.K mainGlobals x=some (some v)) (hc:constOk m v=true):
  SndE cx k A env (.l m) (PySem.eval (.Name x pos) env):=fun ml J v' J' O s E S e=>by
 exact iG e fun _ e=>pG e (wO B E S hx hd hv (EPost.same S (qY hc)))
end
theorem wz {M:Model}{Γ:Ctx}{p:Pos}{t:Sem Fin}{fs:List Frame}{e:End}(h:Runs M Γ p t fs s e s'):s.heap.objs.size<=s'.heap.objs.size:=by
 induction h <;> (try simp only[Shared.setGen,Heap.size_after_update,Heap.size_push] at *) <;> lia
theorem zal {M:Model}{Γ:Ctx}{p:Pos}{r:Result}(h:Returns M Γ p s r s'):s.heap.objs.size<=s'.heap.objs.size:=wz h
theorem zcE {M:Model}{Γ:Ctx}{p:Pos}{g:Nat}{r:Resume}{res:GenResult}(h:Wakes M Γ p g r s res s'):s.heap.objs.size<=s'.heap.objs.size:=by
 unfold Wakes at h
 split at h
 ·exact h.elim
 ·split at h
  ·obtain⟨eg,se,hr,_,_,rfl⟩:=h;exact (wz hr:(s.setGen g .running).heap.objs.size<=se.heap.objs.size)
  ·rw[h.2];exact Nat.le_refl _
  ·rw[h.2];exact Nat.le_refl _
 ·obtain⟨eg,se,hr,_,_,rfl⟩:=h;exact (wz hr:(s.setGen g .running).heap.objs.size<=se.heap.objs.size)
 ·rw[h.2];exact Nat.le_refl _
 ·rw[h.2];exact Nat.le_refl _
theorem zhy(M:Model)(Γ:Ctx)(n:Nat)(t:Sem α):∀ (Q:α->Pos->Shared->Prop) (E:Value->Pos->Shared->Prop) (p:Pos) (s:Shared),n<=s.heap.objs.size->Sem.wp M Γ t Q E p s->
  Sem.wp M Γ t (fun a p' s'=>n<=s'.heap.objs.size/\Q a p' s') (fun e p' s'=>n<=s'.heap.objs.size/\E e p' s') p s:=by
 induction t with
 | pure a=>intro Q E p s hn h;exact⟨hn,h⟩
 | raise e=>intro Q E p s hn h;exact⟨hn,h⟩
 | unsupported _=>intro Q E p s _ h;exact h
 | finish _=>intro Q E p s _ h;exact h
 | rule _ k ih=>intro Q E p s hn h;exact ih () Q E p s hn h
 | «at» p' k ih=>intro Q E p s hn h;exact ih () Q E p' s hn h
 | load a _ k ih=>intro Q E p s hn h;obtain⟨o,ho,h⟩:=h;exact⟨o,ho,ih o Q E p s hn h⟩
 | update a _ f k ih=>intro Q E p s hn h;exact⟨h.1,ih () Q E p _ (by rw[Heap.size_after_update];exact hn) h.2⟩
 | loadIfAlive a k ih=>intro Q E p s hn h;exact ih _ Q E p s hn h
 | point _ k ih=>intro Q E p s hn h;exact ih () Q E p s hn h
 | register _ _=>intro Q E p s _ h;exact h
 | alloc o k ih=>intro Q E p s hn h;exact ih _ Q E p _ (by rw[Heap.size_push];exact Nat.le_succ_of_le hn) h
 | fresh k ih=>intro Q E p s hn h;exact ih _ Q E p _ hn h
 | ask k ih=>intro Q E p s hn h;exact ih _ Q E p s hn h
 | choose src m k ih=>intro Q E p s hn h;exact⟨h.1,ih _ Q E p _ hn h.2⟩
 | os q _ k ih=>intro Q E p s hn h;exact ih _ Q E p _ hn h
 | call c hd _ _ k ih=>intro Q E p s hn h;obtain⟨r,s',hr,h⟩:=h;exact⟨r,s',hr,ih r Q E p s' (Nat.le_trans hn (zal hr)) h⟩
 | handled own k ih=>intro Q E p s hn h;exact ih _ Q E p s hn h
 | genState g k ih=>intro Q E p s hn h;obtain⟨st,hs,h⟩:=h;exact⟨st,hs,ih _ Q E p s hn h⟩
 | newGen c k ih=>intro Q E p s hn h;exact ih _ Q E p _ hn h
 | resume g r _ k ih=>intro Q E p s hn h;obtain⟨res,s',hw,h⟩:=h;exact⟨res,s',hw,ih res Q E p s' (Nat.le_trans hn (zcE hw)) h⟩
 | yield _ _ _ _=>intro Q E p s _ h;exact h
 | stack k ih=>intro Q E p s hn h;exact ih _ Q E p s hn h
 | fork _ _=>intro Q E p s _ h;exact h
 | thread k ih=>intro Q E p s hn h;exact ih _ Q E p s hn h
 | await _ _ _ _ _=>intro Q E p s _ h;exact h
theorem zy{M:Model}{t:Sem α}{Q:α->Shared->Prop}{n:Nat}(hn:n<=s.heap.objs.size)
  (h:wpAny M A t (fun a s'=>n<=s'.heap.objs.size->Q a s') (fun e s'=>n<=s'.heap.objs.size->E e s') s):wpAny M A t Q E s:=
 wpAny_mono (fun Γ p hΓ=>zhy M Γ n t _ _ p s hn (h Γ p hΓ):wpAny M A t (fun a s'=>n<=s'.heap.objs.size/\(n<=s'.heap.objs.size->Q a s')) (fun a s'=>n<=s'.heap.objs.size/\(n<=s'.heap.objs.size->E a s')) s) (fun _ _ x=>x.2 x.1) (fun _ _ x=>x.2 x.1)
structure Kept (s s':Shared):Prop where
 ex:∃ h' tk,s'={ s with heap:=h',toks:=tk }/\(∀ b o,s.heap.get? b=some o->h'.get? b=some o)
theorem Kept.refl (s:Shared):Kept s s:=⟨s.heap,s.toks,rfl,fun _ _ e=>e⟩
theorem Kept.toks (s:Shared)(tk:Tok):Kept s { s with toks:=tk }:=⟨s.heap,tk,rfl,fun _ _ e=>e⟩
theorem Kept.push (s:Shared)(o:Obj):Kept s { s with heap:=s.heap.push o }:=⟨_,s.toks,rfl,fun _ _ e=>Heap.get?_push_of_some _ e⟩
theorem Kept.trans {a b c:Shared}(x:Kept a b)(y:Kept b c):Kept a c:=by
 obtain⟨h1,t1,rfl,k1⟩:=x
 obtain⟨h2,t2,rfl,k2⟩:=y
 exact⟨h2,t2,rfl,fun b o e=>k2 b o (k1 b o e)⟩
theorem zZ(S:Sim cx O J h)(k:∀ b o,h.get? b=some o->h'.get? b=some o)(hs:h.objs.size<=h'.objs.size):Sim cx O J h'/\Ext O h W0 O h':=
 S.other (WOk.w0 h) (fun b o e _=>k b o e) (fun _ z=>z.elim) hs
section
variable {cx:Cx}{A:Around}{O:Rho}{s:Shared}{J:Hp}
theorem zd3 {t:Sem Value}{b:Bool}(h:wpM cx A t (fun r s'=>Kept s s'/\r=.bool b) s)(q:∀ s',Kept s s'->s.heap.objs.size<=s'.heap.objs.size->Q (.bool b) s'):wpM cx A t Q s:=by
 refine zy (Nat.le_refl _) (wpAny_mono h (fun r s' h' hs=>?_) fun _ _ e=>e.elim)
 obtain⟨k,rfl⟩:=h'
 exact q s' k hs
end
noncomputable def SndL (cx:Cx) (k:Nat) (A:Around) (env:Env) (es:List ME) (ts:List (Bool×Sem Value)):Prop:=
 ∀ ml J vs J' O s,zL cx env O s.heap ml->Sim cx O J s.heap->evalL cx.P (callN cx.P k) es ml J=some (vs,J')->wpM cx A (spliced ts) (zc3 cx O s J' vs) s
section
variable {cx:Cx}{k:Nat}{A:Around}{env:Env}
theorem zfF:SndL cx k A env [] []:=fun ml J vs J' O s E S e=>by
 exact pG e (Calls.spliced_nil ⟨O,s.heap,s.toks,rfl,S,Ext.refl ..,.nil⟩)
theorem zeC{t:Sem Value}(h:SndE cx k A env e t)(hs:SndL cx k A env es ts):SndL cx k A env (e :: es) ((false,t) :: ts):=fun ml J vs J' O s E S q=>by
 refine bG2 q fun v J1 q1 q=>bG2 q fun vs' Ja q2 q=>?_
 refine pG q ?_
 refine Calls.spliced_cons (wpE (h ml J v J1 O s E S q1) fun val O1 hO tk1 Sa xa rg=>?_)
 refine wpL (hs ml J1 vs' Ja O1 _ (E.ext xa) Sa q2) fun vals O2 hS tk2 Sb xc rh=>?_
 exact⟨O2,hS,tk2,rfl,Sb,xa.trans xc,.cons (xc.yR rg) rh⟩
theorem jU {a b:ME}{ta tb:Sem Value}(ha:SndE cx k A env a ta)(hb:SndE cx k A env b tb){J1 Ja:Hp}{va vb:MV}(E:zL cx env O s.heap ml)(S:Sim cx O J s.heap)
  (e1:evalE cx.P (callN cx.P k) a ml J=some (va,J1)) (e2:evalE cx.P (callN cx.P k) b ml J1=some (vb,Ja)) {Q:Value->Value->Shared->Prop}
  (q:∀ x y O2 hS tk2,Sim cx O2 Ja hS->Ext O s.heap W0 O2 hS->zp O2 hS va x->zp O2 hS vb y->Q x y { s with heap:=hS,toks:=tk2 }):
  wpM cx A ta (fun x se=>wpM cx A tb (fun y sf=>Q x y sf) se) s:=by
 refine wpE (ha ml J va J1 O s E S e1) fun x O1 hO tk1 Sa xa rg=>?_
 refine wpE (hb ml J1 vb Ja O1 _ (E.ext xa) Sa e2) fun y O2 hS tk2 Sb xc rh=>?_
 exact q x y O2 hS tk2 Sb (xa.trans xc) (xc.yR rg) rh
theorem zB {n:Nat}(h:n<=1000000):n<=sizeLine:=by rw[sizeLine_eq];lia
theorem zff{vs:List Value}(S:Sim cx O J s.heap)(r:zc O s.heap l vs)(hl:l.length<=sizeLine)
  (q:∀ O' h',Sim cx O' (J ++ [.list l]) h'->Ext O s.heap W0 O' h'->zp O' h' (.ref J.length) (.ref s.heap.objs.size)->Q (.ref s.heap.objs.size) { s with heap:=h' }):wpM cx A (newList vs) Q s:=by
 refine wpAny_newObj_type ?_ (by show vs.toArray.size<=sizeLine;rw[List.size_toArray,<- r.length];exact hl)
 obtain⟨a,b,c⟩:=S.alloc (ob:={ cls:=.type "list", data:=.seq vs.toArray }) (o:=.list l) ⟨vs,0,Heap.get?_push_size _ rfl,(Ext.push O s.heap W0 _).qi r,rfl⟩
 exact q _ _ a b c
theorem zY{vs:Array Value}(S:Sim cx O J s.heap)(r:zc O s.heap l vs.toList):
  EPost cx O s (J ++ [.list l]) (.ref J.length) (.ref s.heap.objs.size) { s with heap:=s.heap.push { cls:=.type "list", data:=.seq vs },toks:=tk }:=by
 obtain⟨a,b,c⟩:=S.alloc (ob:={ cls:=.type "list", data:=.seq vs }) (o:=.list l) ⟨vs.toList,0,by simpa using Heap.get?_push_size _ rfl,(Ext.push O s.heap W0 _).qi r,rfl⟩
 exact⟨_,_,tk,rfl,a,b,c⟩
theorem xR {P:zfu}{call:CallT}:∀ {es:List ME} {ml:Loc} {J:Hp} {vs:List MV} {J1:Hp},evalL P call es ml J=some (vs,J1)->vs.length=es.length:=by
 intro es
 induction es with
 | nil=>intro ml J vs J1 q;exact pG q rfl
 | cons e es ih=>intro ml J vs J1 q;exact bG2 q fun v Ja q1 q=>bG2 q fun vs' Jb q2 q=>pG q (congrArg Nat.succ (ih q2))
theorem zf7(h:SndL cx k A env es (backTo pos (starEach res env)))(hl:es.length<=1000):SndE cx k A env (.list es) (PySem.eval (.List res pos) env):=fun ml J v J' O s E S q=>by
 refine bG2 q fun vs J1 q1 q=>?_
 refine pG q (List_ (wpL (h ml J vs J1 O s E S q1) fun vals O1 hO tk1 Sa xa rg=>?_))
 exact zff Sa rg (zB (by rw[xR q1];exact Nat.le_trans hl (by decide))) fun O' h' a b c=>⟨O',h',_,rfl,a,xa.trans b,c⟩
theorem zc6{vs:List Value}(S:Sim cx O J s.heap)(r:zc O s.heap l vs)(hl:l.length<=sizeLine)
  (q:∀ h',Sim cx O J h'->Ext O s.heap W0 O h'->zp O h' (.tup l) (.ref s.heap.objs.size)->Q (.ref s.heap.objs.size) { s with heap:=h' }):wpM cx A (newTuple vs) Q s:=by
 refine wpAny_newObj_type ?_ (by show vs.toArray.size<=sizeLine;rw[List.size_toArray,<- r.length];exact hl)
 have x:=Ext.push O s.heap W0 { cls:=.type "tuple", data:=.seq vs.toArray }
 exact q _ (S.push _) x (.tup ⟨_,Heap.get?_push_size _ rfl,rfl,0,rfl⟩ (fun z=>Nat.lt_irrefl _ (S.lt z)) (x.qi r))
theorem zih(h:SndL cx k A env es (backTo pos (starEach res env)))(hl:es.length<=1000):SndE cx k A env (.tup es) (PySem.eval (.Tuple res kk pos) env):=fun ml J v J' O s E S q=>by
 refine bG2 q fun vs J1 q1 q=>?_
 refine pG q (Tuple_ (wpL (h ml J vs J1 O s E S q1) fun vals O1 hO tk1 Sa xa rg=>?_))
 exact zc6 Sa rg (zB (by rw[xR q1];exact Nat.le_trans hl (by decide))) fun h' a b c=>⟨O1,h',_,rfl,a,xa.trans b,c⟩
theorem yS{v:MV}{t:Bool}{Q:Bool->Shared->Prop}(r:zp O h v val)(e:truth v=some t)(q:Q t s):wpM cx A (truthy val) Q s:=by
 revert r q
 refine eBG e fun x e=>sG e ?_
 intro r q
 cases r
 exact wpAny_truthy_bool q
theorem wpA{v:MV}{t:Sem Value}(x:Ext O s.heap W0 O1 hO)(h:wpM cx A t (EPost cx O1 { s with heap:=hO,toks:=tk1 } J' v) { s with heap:=hO,toks:=tk1 }):wpM cx A t (EPost cx O s J' v) { s with heap:=hO,toks:=tk1 }:=
 wpAny_mono h (fun _ _ p=>p.after x) fun _ _ z=>z
noncomputable def TPost (cx:Cx) (O:Rho) (s:Shared) (J':Hp) (v:MV) (t:Bool) (b:Bool) (s':Shared):Prop:=b=t/\EPost cx O s J' v (.bool t) s'
theorem wpT{v:MV}{t:Bool}{tr:Sem Bool}{Q:Bool->Shared->Prop}(h:wpM cx A tr (TPost cx O s J' v t) s)
  (k:∀ O' h' tk,Sim cx O' J' h'->Ext O s.heap W0 O' h'->zp O' h' v (.bool t)->Q t { s with heap:=h',toks:=tk }):wpAny (model cx.prog cx.w) A tr Q E s:=
 wpAny_mono h (fun b s' p=>p.2.ex.elim fun O' q=>q.elim fun h' q=>q.elim fun tk q=>Eq.symm p.1 ▸ Eq.symm q.1 ▸ k O' h' tk q.2.1 q.2.2.1 q.2.2.2) fun _ _ z=>z.elim
theorem zl4{v:MV}{b:Bool}{t:Sem Bool}(x:Ext O s.heap W0 O1 hO)(h:wpM cx A t (TPost cx O1 { s with heap:=hO,toks:=tk1 } J' v b) { s with heap:=hO,toks:=tk1 }):wpM cx A t (TPost cx O s J' v b) { s with heap:=hO,toks:=tk1 }:=
 wpAny_mono h (fun _ _ p=>⟨p.1,p.2.after x⟩) fun _ _ z=>z
noncomputable def SndT (cx:Cx) (k:Nat) (A:Around) (env:Env) (e:ME) (re:Expr):Prop:=
 ∀ ml J v t J' O s,zL cx env O s.heap ml->Sim cx O J s.heap->evalE cx.P (callN cx.P k) e ml J=some (v,J')->truth v=some t->
  wpM cx A (isTrue re env (PySem.eval re env)) (TPost cx O s J' v t) s
theorem zfp{v:MV}{t:Bool}(r:zp O h v val)(e:truth v=some t):val=.bool t:=by
 revert r
 refine eBG e fun x e=>sG e ?_
 intro r;cases r;rfl
theorem jn(h:SndE cx k A env e (PySem.eval re env))(he:∀ whole,isTrue re env whole=(do let v <- whole;standAt re.pos;holding [v] (truthy v))):SndT cx k A env e re:=fun ml J v t J' O s E S q1 q2=>by
 refine wpAny_isTrue_value (wpE (h ml J v J' O s E S q1) fun val O' h' tk S' x r=>?_) (he _)
 exact yS r q2 ⟨rfl,O',h',tk,rfl,S',x,zfp r q2 ▸ r⟩
theorem ziD(h:SndE cx k A env e (PySem.eval re env)):SndE cx k A env (.not e) (PySem.eval (.UnaryOp .Not re pos) env):=fun ml J v J' O s E S q=>by
 refine bG2 q fun v' J1 q1 q=>bG q fun t q2 q=>pG q (wpAny_UnaryOp (wpE (h ml J v' J1 O s E S q1) fun val O' h' tk S' x r=>?_))
 exact not_value (yS r q2 ⟨O',h',tk,rfl,S',x,.bool _⟩)
theorem zgj(h:SndT cx k A env e re):SndT cx k A env (.not e) (.UnaryOp .Not re pos):=fun ml J v t J' O s E S q1 q2=>by
 revert q2
 refine bG2 q1 fun v' J1 q1 q=>bG q fun t' q3 q=>pG q fun q2=>?_
 refine sG q2 (wpAny_isTrue_Not (wpT (h ml J v' t' J1 O s E S q1 q3) fun O' h' tk S' x _=>?_))
 exact⟨rfl,O',h',tk,rfl,S',x,.bool _⟩
theorem zhD {c a b:ME}{rc ra rb:Expr}(hc:SndT cx k A env c rc)(ha:SndE cx k A env a (PySem.eval ra env))(hb:SndE cx k A env b (PySem.eval rb env)):
  SndE cx k A env (.ite c a b) (PySem.eval (.IfExp rc ra rb pos) env):=fun ml J v J' O s E S q=>by
 refine bG2 q fun vc J1 q1 q=>bG q fun t q2 q3=>?_
 refine wpAny_IfExp (wpT (hc ml J vc t J1 O s E S q1 q2) fun O1 hO tk Sa xa _=>?_)
 cases t with
 | true=>exact wpA xa (ha ml J1 v J' O1 _ (E.ext xa) Sa q3)
 | false=>exact wpA xa (hb ml J1 v J' O1 _ (E.ext xa) Sa q3)
end
inductive kj (cx:Cx)(k:Nat)(A:Around)(env:Env):List ME->List Expr->Prop
 | nil:kj cx k A env [] []
 | cons {e:ME} {re:Expr} {es:List ME} {res:List Expr} (a:SndE cx k A env e (PySem.eval re env)) (b:SndT cx k A env e re) (hb:∀ o,behindInMarks o re=false) (r:kj cx k A env es res):kj cx k A env (e :: es) (re :: res)
section
variable {cx:Cx}{k:Nat}{A:Around}{env:Env}
theorem zf9(h:kj cx k A env es res):∀ ml J v J' O s,zL cx env O s.heap ml->Sim cx O J s.heap->evalAnd cx.P (callN cx.P k) es ml J=some (v,J')->wpM cx A (boolOp pos .And (evalEach res env)) (EPost cx O s J' v) s:=by
 induction h with
 | nil=>intro ml J v J' O s E S q;exact nn q
 | @cons e re es res a b hb r ih=>
  intro ml J v J' O s E S q
  refine bG2 q fun vd J1 q1 q2=>?_
  cases r with
  | nil=>
   exact bG q2 fun t q2 q3=>pG q3 (a ml J vd J1 O s E S q1)
  | @cons e' re' es' res' a' b' hb' r'=>
   refine bG q2 fun t q2 q3=>?_
   show wpM cx A (do
    let v <- PySem.eval re env
    standAt pos
    let t <- holding [v] (truthy v)
    match BoolOp.And,t with
    | .And,false | .Or,true=>pure v
    | _,_=>boolOp pos .And (evalEach (re' :: res') env)) _ s
   refine wpAny_bind (wpE (a ml J vd J1 O s E S q1) fun val O1 hO tk1 Sa xa rg=>?_)
   refine wpAny_bind (wpAny_standAt (wpAny_bind (wpAny_holding (yS rg q2 ?_))))
   cases t with
   | true=>exact wpA xa (ih ml J1 v J' O1 _ (E.ext xa) Sa q3)
   | false=>exact pG q3 (wpAny_pure ⟨O1,hO,tk1,rfl,Sa,xa,rg⟩)
theorem zhM(h:kj cx k A env es res):∀ ml J v J' O s,zL cx env O s.heap ml->Sim cx O J s.heap->evalOr cx.P (callN cx.P k) es ml J=some (v,J')->wpM cx A (boolOp pos .Or (evalEach res env)) (EPost cx O s J' v) s:=by
 induction h with
 | nil=>intro ml J v J' O s E S q;exact nn q
 | @cons e re es res a b hb r ih=>
  intro ml J v J' O s E S q
  refine bG2 q fun vd J1 q1 q2=>?_
  cases r with
  | nil=>
   exact bG q2 fun t q2 q3=>pG q3 (a ml J vd J1 O s E S q1)
  | @cons e' re' es' res' a' b' hb' r'=>
   refine bG q2 fun t q2 q3=>?_
   show wpM cx A (do
    let v <- PySem.eval re env
    standAt pos
    let t <- holding [v] (truthy v)
    match BoolOp.Or,t with
    | .And,false | .Or,true=>pure v
    | _,_=>boolOp pos .Or (evalEach (re' :: res') env)) _ s
   refine wpAny_bind (wpE (a ml J vd J1 O s E S q1) fun val O1 hO tk1 Sa xa rg=>?_)
   refine wpAny_bind (wpAny_standAt (wpAny_bind (wpAny_holding (yS rg q2 ?_))))
   cases t with
   | false=>exact wpA xa (ih ml J1 v J' O1 _ (E.ext xa) Sa q3)
   | true=>exact pG q3 (wpAny_pure ⟨O1,hO,tk1,rfl,Sa,xa,rg⟩)
theorem snd_and(h:kj cx k A env es res):SndE cx k A env (.and es) (PySem.eval (.BoolOp .And res pos) env):=fun ml J v J' O s E S q=>by
 rw[arm_eval_BoolOp];exact zf9 h ml J v J' O s E S q
theorem zjK(h:kj cx k A env es res):SndE cx k A env (.or es) (PySem.eval (.BoolOp .Or res pos) env):=fun ml J v J' O s E S q=>by
 rw[arm_eval_BoolOp];exact zhM h ml J v J' O s E S q
theorem zdW(h:kj cx k A env es res):∀ ml J v t J' O s,zL cx env O s.heap ml->Sim cx O J s.heap->evalAnd cx.P (callN cx.P k) es ml J=some (v,J')->truth v=some t->
  wpM cx A (allTrue .And res env) (TPost cx O s J' v t) s:=by
 induction h with
 | nil=>intro ml J v t J' O s E S q;exact nn q
 | @cons e re es res a b hb r ih=>
  intro ml J v t J' O s E S q
  refine bG2 q fun vd J1 q1 q2=>?_
  cases r with
  | nil=>
   refine bG q2 fun t' q2 q3=>pG q3 fun qt=>?_
   refine wpAny_allTrue_And_cons (wpAny_mono (b ml J vd t J1 O s E S q1 qt) (fun b s' p=>?_) fun _ _ z=>z)
   obtain⟨rfl,p⟩:=p
   cases b with
   | true=>exact wpAny_allTrue_And_nil ⟨rfl,p⟩
   | false=>exact⟨rfl,p⟩
  | @cons e' re' es' res' a' b' hb' r'=>
   refine bG q2 fun t' q2 q3=>?_
   revert q3
   refine fun q3 qt=>wpAny_allTrue_And_cons (wpT (b ml J vd t' J1 O s E S q1 q2) fun O1 hO tk1 Sa xa rg=>?_)
   cases t' with
   | true=>exact zl4 xa (ih ml J1 v t J' O1 _ (E.ext xa) Sa q3 qt)
   | false=>exact pG q3 (fun qt=>by rw[q2] at qt;cases qt;exact⟨rfl,O1,hO,tk1,rfl,Sa,xa,rg⟩) qt
theorem zgu(h:kj cx k A env es res):∀ ml J v t J' O s,zL cx env O s.heap ml->Sim cx O J s.heap->evalOr cx.P (callN cx.P k) es ml J=some (v,J')->truth v=some t->
  wpM cx A (allTrue .Or res env) (TPost cx O s J' v t) s:=by
 induction h with
 | nil=>intro ml J v t J' O s E S q;exact nn q
 | @cons e re es res a b hb r ih=>
  intro ml J v t J' O s E S q
  refine bG2 q fun vd J1 q1 q2=>?_
  cases r with
  | nil=>
   refine bG q2 fun t' q2 q3=>pG q3 fun qt=>?_
   refine wpAny_allTrue_Or_cons (wpAny_mono (b ml J vd t J1 O s E S q1 qt) (fun b s' p=>?_) fun _ _ z=>z)
   obtain⟨rfl,p⟩:=p
   cases b with
   | false=>exact wpAny_allTrue_Or_nil ⟨rfl,p⟩
   | true=>exact⟨rfl,p⟩
  | @cons e' re' es' res' a' b' hb' r'=>
   refine bG q2 fun t' q2 q3=>?_
   revert q3
   refine fun q3 qt=>wpAny_allTrue_Or_cons (wpT (b ml J vd t' J1 O s E S q1 q2) fun O1 hO tk1 Sa xa rg=>?_)
   cases t' with
   | false=>exact zl4 xa (ih ml J1 v t J' O1 _ (E.ext xa) Sa q3 qt)
   | true=>exact pG q3 (fun qt=>by rw[q2] at qt;cases qt;exact⟨rfl,O1,hO,tk1,rfl,Sa,xa,rg⟩) qt
theorem zfm(h:kj cx k A env es res):SndT cx k A env (.and es) (.BoolOp .And res pos):=fun ml J v t J' O s E S q1 q2=>
 wpAny_isTrue_BoolOp (zdW h ml J v t J' O s E S q1 q2)
theorem zhu(h:kj cx k A env es res):SndT cx k A env (.or es) (.BoolOp .Or res pos):=fun ml J v t J' O s E S q1 q2=>
 wpAny_isTrue_BoolOp (zgu h ml J v t J' O s E S q1 q2)
end
end Mine
end
section
open PySem PySem.W PySem.Calls PyProof.Rows PySem.SeqAt
set_option maxRecDepth 100000
namespace Mine
variable{res rifs rifs2 elts:List Expr}{re ra te relt e riter value rc slice ri target te2 riter2:Expr}{P:Expr->Prop}{h h' hO:Heap}{chk:List (Nat×Option (List MV))}{l l':List (MV×MV)}{pos p:Pos}{a it ad I:Addr}{s s':Shared}{Q E X:Value->Shared->Prop}{es its ifs:List ME}{W W':Addr->Prop}{vals ds first fvals:List Value}{v x y val vl vu:Value}{A:Around}{xs tgt xs0 all:List Nat}{q ms full:List MV}{f:Expr->(List Stmt)->(List Stmt)->Bool}{O O' O1:Rho}{keys:List (Option Expr)}{scope:Scope}{m kk key:MV}{J' J:Hp}{T id:String}{ts:List (Bool×Sem Value)}{In St:Nat->Rho->Heap->Prop}{α β:Type}{k c j:Nat}{It:Nat->Heap->Prop}{Src:Rho->Heap->Prop}{cmp:Nat->Nat->(Bool->Shared->Prop)->Shared->Prop}{tk tk1:Tok}{isTup:Bool}{fd:FuncData}{kvs:List (Str×Value)}{items:Array Value}{Mid:Nat->Value->Rho->Heap->Prop}{N:Nat->Str}{use:Option (Value->Sem Unit)}{env:Env}{cx:Cx}{o:Option Int}{ik:IK}{eq:MV->MV->Option Bool}{ml ml':Loc}{body rb rest:List Stmt}{os:List COp}{R:List MV->Hp->Prop}{elt:ME}{g:Nat->Nat}{attr:Str}{bs:List MS}
theorem yP {a b:List Nat}(h:toS a=toS b):a=b:=by simpa[toS] using h
theorem zdV (a b:List Nat):(toS a == toS b)=(a == b):=by
 rw[Bool.eq_iff_iff,beq_iff_eq,beq_iff_eq]
 exact⟨yP,fun h=>by rw[h]⟩
section
variable {cx:Cx}{O:Rho}{J:Hp}{h:Heap}
theorem Sim.idx (S:Sim cx O J h){i:Nat}{d d':Addr}(e1:O[i]?=some (a,d))(e2:O[j]?=some (a,d')):i=j:=by
 by_cases q:i=j
 ·exact q
 ·exact absurd rfl (S.apart i j _ _ e1 e2 q).1
theorem zez:∀ {a b:List MV} {t:Bool},a.length=b.length->pyEqL eq a b=some t->∃ e:Nat->Bool,t=(List.range a.length).all e/\∀ (j:Nat) x y,a[j]?=some x->b[j]?=some y->eq x y=some (e j):=by
 intro a
 induction a with
 | nil=>
  intro b t hl q
  cases b with
  | nil=>exact sG q ⟨fun _=>true,rfl,fun j x y hx=>nn (by rwa [List.getElem?_nil] at hx)⟩
  | cons=>cases hl
 | cons x a ih=>
  intro b t hl q
  cases b with
  | nil=>cases hl
  | cons y b=>
   refine bG q fun t' q1 q=>bG q fun u q2 q=>?_
   obtain⟨e,he,hr⟩:=ih (Nat.succ.inj hl) q2
   refine sG q ⟨fun j=>Nat.casesOn (motive:=fun _=>Bool) j t' e,?_,fun j=>?_⟩
   ·rw[he,List.length_cons,List.range_succ_eq_map,List.all_cons,List.all_map];rfl
   ·cases j with
    | zero=>exact fun u v hu hv=>by cases hu;cases hv;exact q1
    | succ j=>exact hr j
theorem zcC {n:Nat}(ih:∀ (a b:MV) (v:Value) (t:Bool),zp O h a v->zp O h b v->pyEq J n a b=some t->t=true):∀ (l q:List MV) (vs:List Value),zc O h l vs->zc O h q vs->∀ t,pyEqL (pyEq J n) l q=some t->t=true:=by
 intro l
 induction l with
 | nil=>intro q vs r1 r2 t e;cases r1;cases r2;exact sG e rfl
 | cons x l ihl=>
  intro q vs r1 r2 t e
  cases r1 with
  | cons a1 r1=>
   cases r2 with
   | cons a2 r2=>exact bG e fun t' q1 e=>bG e fun u q2 e=>sG e (by rw[ih _ _ _ _ a1 a2 q1,ihl _ _ r1 r2 _ q2];rfl)
theorem zc7 (S:Sim cx O J h):∀ (n:Nat) (a b:MV) (v:Value) (t:Bool),zp O h a v->zp O h b v->pyEq J n a b=some t->t=true:=by
 intro n
 induction n with
 | zero=>exact fun a b v t _ _ q=>nn q
 | succ n ih=>
  have lists:=zcC ih
  intro a b v t r1 r2 q
  cases r1 with
  | none=>exact eNG q fun q=>sG q rfl
  | bool x=>revert r2;exact eBG q fun y q r2=>by cases r2;exact sG q (beq_self_eq_true x)
  | int i tk=>revert r2;exact eIG q fun y q r2=>by cases r2;exact sG q (decide_eq_true rfl)
  | str s tk=>
   revert r2
   refine eSG q fun y q r2=>?_
   generalize hv:Value.str (toS s) tk=v at r2
   cases r2 with | str _ _=>injection hv with h1;exact sG q (by rw[yP h1];exact beq_self_eq_true y)
  | @ref i ad d e=>
   revert r2
   refine eRG q fun j q r2=>?_
   refine qLG q fun l e1 q=>qLG q fun l' e2 q=>?_
   generalize hv:Value.ref ad=v at r2
   cases r2 with
   | @ref j ad' d' e'=>
    injection hv with hv
    subst hv
    cases S.idx e e'
    rw[e1] at e2
    cases e2
    refine S.pL e1 e fun vs _ _ _ r=>lists l l vs r r t ?_
    exact iG2 q (fun _ q=>q) fun hn _=>absurd rfl hn
  | @tup l ad vs e1 n1 r=>
   revert r2
   refine eTG q fun l' q r2=>?_
   generalize hv:Value.ref ad=v at r2
   cases r2 with
   | @tup l' ad' vs' e1' n1' r'=>
    injection hv with hv
    subst hv
    refine lists l l' vs r ?_ t (iG q fun _ q=>q)
    obtain⟨o,g,_,n',hd⟩:=e1
    obtain⟨o',g',_,n'',hd'⟩:=e1'
    rw[g] at g';cases g'
    rw[hd] at hd'
    cases hd'
    exact r'
end
theorem zhE{b:Bool}(hx:∀ c t,x≠.float c t)(hs:x=y->b=true)(h:RcAt A s x y b):EqAt A s x y b:=fun prog w E Q hq=>by
 unfold eqBool
 refine wpAny_holding ?_
 refine wpAny_ite_split (fun hab=>?_) (fun _=>?_)
 ·have:=hs (eq_of_beq hab)
  subst this
  exact wpAny_bind (wpAny_rule (wpAny_pure hq))
 ·cases x <;> first | exact absurd rfl (hx _ _) | exact wpAny_bind (h prog w E _ (wpAny_truthy_bool hq))
theorem zp.zh0{a:MV}(r:zp O h a x):∀ c t,x≠.float c t:=by cases r <;> (intro c t e;cases e)
section
variable {cx:Cx}{O:Rho}{J:Hp}{s:Shared}
theorem zmd {l:List MV}(hj:j < l.length):l[j]?=some l[j]:=List.getElem?_eq_getElem hj
theorem zdP (S:Sim cx O J s.heap):∀ (n:Nat) (A:Around),A.units+n < cLine->∀ (a b:MV) (x y:Value) (t:Bool),zp O s.heap a x->zp O s.heap b y->pyEq J n a b=some t->RcAt A s x y t/\RcNeAt A s x y (!t):=by
 intro n
 induction n with
 | zero=>intro A _ a b x y t _ _ q;exact nn q
 | succ n ih=>
  intro A hu a b x y t r1 r2 q
  have hu1:A.in1.units+n < cLine:=by show A.units+1+n < cLine;rw[Nat.add_assoc,Nat.add_comm 1 n];exact hu
  have items:∀ (l q:List MV) (vs us:List Value),zc O s.heap l vs->zc O s.heap q us->l.length=q.length->∀ t,pyEqL (pyEq J n) l q=some t->
    ∃ e:Nat->Bool,t=(List.range vs.length).all e/\∀ j (h1:j < vs.toArray.size) (h2:j < us.toArray.size),EqAt A.in1 s vs.toArray[j] us.toArray[j] (e j):=by
   intro l q vs us r1 r2 hl t ht
   obtain⟨e,he,hr⟩:=zez hl ht
   refine⟨e,by rw[he,r1.length],fun j h1 h2=>?_⟩
   simp only[List.size_toArray] at h1 h2
   have e1:=zmd (l:=l) (j:=j) (by rw[r1.length];exact h1)
   have e2:=zmd (l:=q) (j:=j) (by rw[r2.length];exact h2)
   obtain⟨x',g1,v1⟩:=r1.get e1
   obtain⟨y',g2,v2⟩:=r2.get e2
   rw[List.getElem?_eq_getElem h1] at g1
   rw[List.getElem?_eq_getElem h2] at g2
   simp only[Option.some.injEq] at g1 g2
   have key:=hr j _ _ e1 e2
   simp only[List.getElem_toArray,g1,g2]
   exact zhE v1.zh0 (fun hxy=>zc7 S n _ _ _ _ v1 (hxy ▸ v2) key) (ih A.in1 hu1 _ _ _ _ _ v1 v2 key).1
  cases r1 with
  | none=>exact rN q r2 fun q=>sG q ⟨RcAt.none_none,RcNeAt.none_none⟩
  | bool x=>exact rB q r2 fun y q=>sG q ⟨RcAt.bool_bool _ _,RcNeAt.bool_bool _ _⟩
  | int i tk=>exact rI q r2 fun y _ q=>sG q ⟨RcAt.int_int _ _ _ _,RcNeAt.int_int _ _ _ _⟩
  | str u tk=>exact rS q r2 fun y _ q=>sG q (by rw[<- zdV];exact⟨RcAt.str_str _ _ _ _,RcNeAt.str_str _ _ _ _⟩)
  | @ref i ad d e=>
   refine rR q r2 fun j ad' d' e' q=>?_
   refine qLG q fun l e1 q=>qLG q fun l' e2 q=>S.pL e1 e fun vs n1 _ g1 r1=>S.pL e2 e' fun us n2 _ g2 r2=>?_
   have I1:s.heap.IsList ad vs.toArray:=⟨_,g1,rfl,_,rfl⟩
   have I2:s.heap.IsList ad' us.toArray:=⟨_,g2,rfl,_,rfl⟩
   have z1:=r1.length
   have z2:=r2.length
   refine iG2 q (fun hl q=>?_) fun hl q=>?_
   ·obtain⟨e,he,hh⟩:=items l l' vs us r1 r2 hl t q
    have hsz:vs.toArray.size=us.toArray.size:=by rw[List.size_toArray,List.size_toArray,<- z1,<- z2,hl]
    rw[he]
    exact⟨RcAt.lists I1 I2 hsz (by lia) hh,RcNeAt.lists I1 I2 hsz (by lia) hh⟩
   ·have hsz:(vs.toArray.size != us.toArray.size)=true:=by rw[bne_iff_ne,List.size_toArray,List.size_toArray,<- z1,<- z2];exact hl
    exact sG q ⟨RcAt.lists_lengths I1 I2 hsz (by lia),RcNeAt.lists_lengths I1 I2 hsz (by lia)⟩
  | @tup l ad vs I1 n1 r1=>
   refine rT q r2 fun l' ad' us I2 n2 r2 q=>iG q fun hl q=>?_
   obtain⟨e,he,hh⟩:=items l l' vs us r1 r2 hl t q
   have hsz:vs.length=us.length:=by rw[<- r1.length,<- r2.length,hl]
   have f1:=RcAt.tuples I1 I2 (by lia) hh
   have f2:=RcNeAt.tuples I1 I2 (by lia) hh
   rw[List.size_toArray,List.size_toArray,hsz,Nat.min_self,beq_self_eq_true,Bool.and_true] at f1 f2
   rw[he,hsz]
   exact⟨f1,f2⟩
theorem wK {a:MV}{t:Bool}(r:zp O s.heap a x)(q:isSame a .none=some t):(x == Value.none)=t:=by
 cases r <;> exact sG (P:=fun t=>_=t) q rfl
theorem wH {a:MV}{b t:Bool}(r:zp O s.heap a x)(q:isSame a (.bool b)=some t):(x == Value.bool b)=t:=by
 cases r with
 | bool c=>exact sG (P:=fun t=>_=t) q (by cases b <;> cases c <;> rfl)
 | _=>exact sG (P:=fun t=>_=t) q rfl
noncomputable def opOf (o:COp):CmpOp:=@COp.casesOn (fun _=>CmpOp) o .Eq .NotEq .Lt .LtE .Gt .GtE .Is .IsNot .In .NotIn
noncomputable def cmpOk (o:COp) (op:CmpOp):Bool:=decide (op=opOf o)
noncomputable def CPost (s:Shared) (t:Bool) (r:Value) (s':Shared):Prop:=Kept s s'/\r=.bool t
theorem not_of {t t':Bool}(h:(!t')=t):t'=!t:=by subst h;exact (Bool.not_not t').symm
theorem zeT{op:CmpOp}{o:COp}{a b:MV}{t:Bool}(S:Sim cx O J s.heap)(R:xd A k)
  (ho:cmpOk o op=true)
  (r1:zp O s.heap a x) (r2:zp O s.heap b y) (q:cmpop o a b J=some t)
  (hin:isIn a b J=some t->wpM cx A (compareOp .In x y) (CPost s t) s) (hni:isIn a b J=some (!t)->wpM cx A (compareOp .NotIn x y) (CPost s t) s):
  wpM cx A (compareOp op x y) (CPost s t) s:=by
 have hu:A.units+4 < cLine:=by have:=R.units;lia
 have kr:∀ t,CPost s t (.bool t) s:=fun t=>⟨Kept.refl s,rfl⟩
 cases (of_decide_eq_true ho:op=opOf o)
 cases o with
 | eq=>exact (zdP S 4 A hu a b x y t r1 r2 q).1 _ _ _ _ (kr t)
 | ne=>exact bG q fun t' q e=>sG e ((zdP S 4 A hu a b x y t' r1 r2 q).2 _ _ _ _ (kr _))
 | lt=>exact rI q r1 fun i _ q=>rI q r2 fun j _ q=>sG q (lt_int (kr _))
 | le=>exact rI q r1 fun i _ q=>rI q r2 fun j _ q=>sG q (PyProof.Rows.le_int (kr _))
 | gt=>exact rI q r1 fun i _ q=>rI q r2 fun j _ q=>sG q (gt_int (kr _))
 | ge=>exact rI q r1 fun i _ q=>rI q r2 fun j _ q=>sG q (ge_int (kr _))
 | is=>
  cases r2 with
  | none=>exact is_none ⟨Kept.refl s,congrArg Value.bool (wK r1 q)⟩
  | bool c=>exact wpAny_is_plain (by cases r1 <;> rfl) ⟨Kept.refl s,congrArg Value.bool (wH r1 q)⟩
  | _=>exact nn q
 | isNot=>
  refine bG q fun t' q e=>sG e ?_
  cases r2 with
  | none=>exact isNot_none ⟨Kept.refl s,congrArg (fun b=>Value.bool (!b)) (wK r1 q)⟩
  | bool c=>exact wpAny_isNot_plain (by cases r1 <;> rfl) ⟨Kept.refl s,congrArg (fun b=>Value.bool (!b)) (wH r1 q)⟩
  | _=>exact nn q
 | isIn=>exact hin q
 | yh=>exact bG q fun t' q e=>hni (by rw[q,not_of (Option.some.inj e)])
end
theorem z7 (x:Str)(k:List Nat):(encS x).beq (.str k)=decide (x=toS k):=by
 show (x.cps.toList == k)=_
 rw[Bool.eq_iff_iff,beq_iff_eq,decide_eq_true_eq]
 constructor
 ·rintro rfl;rfl
 ·rintro rfl;rfl
theorem yC (x k:Int):(encI x).beq (.int k)=decide (x=k):=rfl
section
variable {cx:Cx}{O:Rho}{J:Hp}{h:Heap}
variable {K:Type}[DecidableEq K]{enc:K->MV}{l:List (MV×MV)}{kvs:List (K×Value)}{key:MV}{k:K}
theorem z8.length (r:z8 enc O h l kvs):l.length=kvs.length:=by
 induction r with
 | nil=>rfl
 | cons _ _ ih=>simp[ih]
theorem z8.look (hb:∀ x,(enc x).beq key=decide (x=k))(r:z8 enc O h l kvs):match dlk key l with | some m=>∃ v,valueAt kvs k=some v/\zp O h m v | .none=>valueAt kvs k=none:=by
 induction r with
 | nil=>rfl
 | @cons x m v l kvs b r ih=>
  simp only[zgz,hb,valueAt,List.find?_cons] at ih ⊢
  by_cases hx:x=k
  ·simp only[hx,decide_true,if_true,Option.map_some];exact⟨v,rfl,b⟩
  ·simp only[hx,decide_false,Bool.false_eq_true,if_false];exact ih
theorem z8.isSome (hb:∀ x,(enc x).beq key=decide (x=k))(r:z8 enc O h l kvs):(dlk key l).isSome=(valueAt kvs k).isSome:=by
 have:=r.look hb
 split at this
 ·rename_i q;obtain⟨v,e,_⟩:=this;rw[q,e];rfl
 ·rename_i q;rw[q,this];rfl
theorem zbw (kvs:List (K×Value))(k:K):(kvs.any fun kv=>decide (kv.1=k))=(valueAt kvs k).isSome:=by
 induction kvs with
 | nil=>rfl
 | cons kv kvs ih=>
  simp only[List.any_cons,valueAt,List.find?_cons] at ih ⊢
  by_cases hx:kv.1=k
  ·simp[hx]
  ·simp only[hx,decide_false,Bool.false_or];exact ih
theorem z8.append{kvs':List (K×Value)}(r:z8 enc O h l kvs)(r':z8 enc O h l' kvs'):z8 enc O h (l ++ l') (kvs ++ kvs'):=by
 induction r with
 | nil=>exact r'
 | cons b _ ih=>exact .cons b ih
theorem z8.store (hb:∀ x,(enc x).beq key=decide (x=k))(he:key=enc k)(b:zp O h m v)(r:z8 enc O h l kvs):z8 enc O h (dst key m l) (stored kvs k v):=by
 unfold dst stored
 have e:(kvs.any fun kv=>decide (kv.1=k))=(dlk key l).isSome:=by rw[zbw,<- r.isSome hb]
 simp only[e]
 split
 ·clear e
  rename_i q;clear q
  induction r with
  | nil=>exact .nil
  | @cons x m' v' l kvs b' r ih=>
   simp only[List.map_cons,hb]
   by_cases hx:x=k
   ·simp only[hx,decide_true,if_true];exact .cons b ih
   ·simp only[hx,decide_false,Bool.false_eq_true,if_false];exact .cons b' ih
 ·rw[he];exact r.append (.cons b .nil)
theorem z8.del (hb:∀ x,(enc x).beq key=decide (x=k))(r:z8 enc O h l kvs):z8 enc O h (ddel key l) (without kvs k):=by
 unfold ddel without
 induction r with
 | nil=>exact .nil
 | @cons x m' v' l kvs b' r ih=>
  simp only[List.filter_cons,hb]
  by_cases hx:x=k
  ·simp only[hx,decide_true,Bool.not_true,Bool.false_eq_true,if_false,ne_eq,not_true_eq_false,decide_false];exact ih
  ·simp only[hx,decide_false,Bool.not_false,if_true,ne_eq,not_false_eq_true,decide_true];exact .cons b' ih
theorem z8.empty {prog:Program}{w:World}{K':Type}[DecidableEq K']{knd:KeyKind prog w K}{knd':KeyKind prog w K'}(d:h.DictOf knd a []):h.DictOf knd' a []:=by
 obtain⟨o,es,ep,e,x,hd,_,hp,_⟩:=d
 have he:es=#[]:=by
  have:=hp.length
  simp at this;exact this
 subst he
 exact⟨o,#[],ep,e,x,hd,fun _ hm=>by simp at hm,Pairs.nil,List.nodup_nil⟩
theorem xU.strs{k:List Nat}(r:xU cx O h a l)(f:keyFits (.str k) l=true):∃ kvs,h.DictOf (strKind cx.prog cx.w) a kvs/\z8 encS O h l kvs:=by
 rcases r with r | ⟨kvs,d,p⟩
 ·exact r
 ·cases p with
  | nil=>exact⟨[],z8.empty d,.nil⟩
  | cons b p=>exact ff f
theorem xU.ints{k:Int}(r:xU cx O h a l)(f:keyFits (.int k) l=true):∃ kvs,h.DictOf (intKind cx.prog cx.w) a kvs/\z8 encI O h l kvs:=by
 rcases r with⟨kvs,d,p⟩ | r
 ·cases p with
  | nil=>exact⟨[],z8.empty d,.nil⟩
  | cons b p=>exact ff f
 ·exact r
end
noncomputable def isTx (k:List Nat) (y:Value):Bool:=match y with | .str a _=>a == toS k | _=>false
theorem zkq(k:List Nat)(r:zp O h m y)(hs:isS m=true):isTx k y=m.beq (.str k):=by
 cases r with
 | str s t=>exact zdV _ _
 | _=>exact ff hs
theorem zc.anyStr{k:List Nat}:∀ {l:List MV} {vs:List Value},zc O h l vs->l.all isS=true->vs.any (isTx k)=l.any fun v=>v.beq (.str k):=fun {l vs} r=>
 r.ind (P:=fun l vs=>l.all isS=true->vs.any (isTx k)=l.any fun v=>v.beq (.str k)) (fun _=>rfl) fun a _ ih hall=>by
  have h:=Bool.and_eq_true_iff.mp hall
  rw[List.any_cons,List.any_cons,ih h.2,zkq k a h.1]
section
variable {cx:Cx}{O:Rho}{J:Hp}{s:Shared}{A:Around}
theorem xK (S:Sim cx O J s.heap)(h0:16<=cx.hJ.objs.size){i:Nat}{d:Addr}{o:za}(eo:J[i]?=some o)(e:O[i]?=some (a,d))(nf:notFrz o:=by intro l h;cases h):(a == sysModules)=false:=by
 have:cx.hJ.objs.size<=a:=(S.fresh _ _ _ eo e nf).1
 rw[beq_eq_false_iff_ne]
 intro q
 rw[q] at this
 exact absurd (Nat.le_trans h0 this) (by decide)
structure zaF (cx:Cx)(A:Around)(s:Shared)(x y:Value)(t:Bool):Prop where
 p:wpM cx A (compareOp .In x y) (CPost s t) s
 n:wpM cx A (compareOp .NotIn x y) (CPost s (!t)) s
theorem zhP{w:List Nat}{t1 t2:Tok}:zaF cx A s (.str (toS [c]) t1) (.str (toS w) t2) (w.elem c):=by
 have e:(!(Builtin.Str.occurrences (toS w) (toS [c]) 0 (toS w).length 1).isEmpty)=w.elem c:=by
  have:=StrLaws.found_one (toS w) c
  rw[show (toS [c])=(⟨#[c]⟩:Str) from rfl,this,Bool.eq_iff_iff,decide_eq_true_eq,List.elem_iff]
  rfl
 exact⟨P.in_str ⟨Kept.refl s,by rw[e]⟩,P.notIn_str ⟨Kept.refl s,by rw[e]⟩⟩
theorem zjZ{n:Nat}{l:List MV}{vs:List Value}{k:List Nat}(g:s.heap.get? ad=some { cls:=.type "list", data:=.seq (List.toArray vs) n }) (r:zc O s.heap l vs) (hall:l.all isS=true):
  zaF cx A s (.str (toS k) tk) (.ref ad) (l.any fun v=>v.beq (.str k)):=by
 have I:s.heap.IsList ad vs.toArray:=⟨_,g,rfl,_,rfl⟩
 have key:∀ y∈vs.toArray,EqAt A.in1 s y (.str (toS k) tk) (isTx k y):=fun y hy=>by
  obtain⟨m,hm,rm⟩:=r.zh2 y (List.mem_toArray.mp hy)
  have hs:=List.all_eq_true.mp hall m hm
  cases rm with
  | str=>exact EqAt.str_str _ _ _ _
  | _=>exact ff hs
 have ea:vs.toArray.any (isTx k)=l.any fun v=>v.beq (.str k):=by rw[<- Array.any_toList];exact r.anyStr hall
 exact⟨in_listAt _ I key ⟨Kept.refl s,congrArg Value.bool ea⟩,notIn_listAt _ I key ⟨Kept.refl s,congrArg (fun b=>Value.bool (!b)) ea⟩⟩
theorem ziY (S:Sim cx O J s.heap)(h0:16<=cx.hJ.objs.size){k:List Nat}(e1:J[j]?=some (.dict l))(e:O[j]?=some (ad,ad))(r:xU cx O s.heap ad l)(hf:keyFits (.str k) l=true):
  zaF cx A s (.str (toS k) tk) (.ref ad) (dlk (.str k) l).isSome:=by
 obtain⟨kvs,D,p⟩:=xU.strs r hf
 rw[p.isSome (key:=.str k) (k:=toS k) (fun x=>z7 x k)]
 exact⟨wpAny_in_of (strKind_is _ _ _ _) (xK S h0 e1 e) D.mapOf ⟨Kept.toks s _,rfl⟩,wpAny_notIn_of (strKind_is _ _ _ _) (xK S h0 e1 e) D.mapOf ⟨Kept.toks s _,rfl⟩⟩
theorem zbA (S:Sim cx O J s.heap)(h0:16<=cx.hJ.objs.size){a b:MV}{t:Bool}(r1:zp O s.heap a x)(r2:zp O s.heap b y)(q:isIn a b J=some t):zaF cx A s x y t:=
 rS q r1 fun k _ q=>rSR q r2 (fun w _ q=>a1G (P:=fun k=>zaF cx A s (.str (toS k) _) (.str (toS w) _) t) q fun c q=>sG q zhP)
  fun j a d e q=>zj6 q (fun l e1 q=>S.pL e1 e fun vs n _ g r=>iG q fun hall q=>sG q (zjZ g r hall)) fun l e1 q=>S.pD e1 e fun de r=>iG q fun hf q=>sG q (ziY S h0 e1 (de ▸ e) r hf)
end
inductive Ops:List COp->List CmpOp->Prop
 | nil:Ops [] []
 | cons {o:COp} {op:CmpOp} {os:List COp} {ops:List CmpOp} (a:cmpOk o op=true) (r:Ops os ops):Ops (o :: os) (op :: ops)
section
variable {cx:Cx}{k:Nat}{A:Around}{env:Env}
theorem qZ {vs:List Value}{m:Sem Value}(h:wpM cx A m Q s):wpM cx A (operate vs m) Q s:=fun Γ p hΓ=>by
 rw[Sem.wp_operate];exact h Γ p hΓ
theorem jb {vs ks:List Value}{Q:Unit->Shared->Prop}(h:Q () s):wpM cx A (release vs ks) Q s:=fun Γ p _=>by
 rw[Sem.wp_release];exact h
theorem ziC (B:Base cx){R:xd A k}{op:CmpOp}{o:COp}{a b:MV}{t:Bool}(S:Sim cx O J s.heap)(ho:cmpOk o op=true)
  (r1:zp O s.heap a x) (r2:zp O s.heap b y) (q:cmpop o a b J=some t):wpM cx A (compareOp op x y) (CPost s t) s:=
 zeT S R ho r1 r2 q (fun q=>(zbA S B.big r1 r2 q).p) fun q=>Bool.not_not t ▸ (zbA (A:=A) S B.big r1 r2 q).n
theorem qF (B:Base cx)(R:xd A k){op:CmpOp}{o:COp}{a b:MV}{t:Bool}(S:Sim cx O J s.heap)(ho:cmpOk o op=true)
  (r1:zp O s.heap a x) (r2:zp O s.heap b y) (q:cmpop o a b J=some t) {Q:Value->Shared->Prop}
  (h:∀ h' tk,Sim cx O J h'->Ext O s.heap W0 O h'->Q (.bool t) { s with heap:=h',toks:=tk }):wpM cx A (compareOp op x y) Q s:=
 zd3 (ziC B (R:=R) S ho r1 r2 q) fun s' K hs=>by
  obtain⟨h',tk,rfl,kk⟩:=K
  obtain⟨S',x'⟩:=zZ S kk hs
  exact h h' tk S' x'
structure zdr (cx:Cx)(O:Rho)(s:Shared)(J':Hp)(v:MV)(r:Value)(s':Shared):Prop where
 ex:∃ t,r=.bool t/\EPost cx O s J' v r s'
theorem zdr.after{v:MV}{r:Value}(p:zdr cx O1 { s with heap:=hO,toks:=tk1 } J' v r s')(x:Ext O s.heap W0 O1 hO):zdr cx O s J' v r s':=let ⟨t,e,p⟩:=p;⟨t,e,p.after x⟩
structure zcY (cx:Cx)(O:Rho)(s:Shared)(J':Hp)(v:MV)(b:Bool)(s':Shared):Prop where
 t:truth v=some b
 p:EPost cx O s J' v (.bool b) s'
theorem zcY.after{v:MV}{r:Bool}(p:zcY cx O1 { s with heap:=hO,toks:=tk1 } J' v r s')(x:Ext O s.heap W0 O1 hO):zcY cx O s J' v r s':=⟨p.1,p.2.after x⟩
theorem zcR (B:Base cx)(R:xd A k)(h:kj cx k A env es res):∀ {os:List COp} {ops:List CmpOp},Ops os ops->∀ ml J a x v J' O s,zL cx env O s.heap ml->Sim cx O J s.heap->zp O s.heap a x->
  evalCmp cx.P (callN cx.P k) a os es ml J=some (v,J')->wpM cx A (compareChain pos x ops (markedEach ops res (evalEach res env))) (zdr cx O s J' v) s:=by
 induction h with
 | nil=>intro os ops _ ml J a x v J' O s E S ra q;exact nn q
 | @cons e re es res he ht hb r ih=>
  intro os ops ho ml J a x v J' O s E S ra q
  refine bG2 q fun vd J1 q1 q2=>?_
  cases ho with
  | nil=>exact nn q2
  | @cons o op os ops ho1 ho2=>
   cases r with
   | nil=>
    cases ho2 with
    | cons _ _=>exact nn q2
    | nil=>
     refine bG q2 fun t q2 q=>pG q ?_
     show wpM cx A (do
      let rv <- holding [x] (markedBehindIn op re (PySem.eval re env))
      standAt pos
      operate [x,rv] (compareOp op x rv)) _ s
     rw[markedBehindIn_of_false (hb op)]
     refine wpAny_bind (wpAny_holding (wpE (he ml J vd J1 O s E S q1) fun y O1 hO tk1 Sa xa rg=>?_))
     exact wpAny_bind (wpAny_standAt (qZ (qF B R Sa ho1 (xa.yR ra) rg q2 fun h' tk S' x'=>⟨t,rfl,O1,h',tk,rfl,S',xa.trans x',.bool t⟩)))
   | @cons e' re' es' res' he' ht' hb' r'=>
    cases ho2 with
    | nil=>exact nn q2
    | @cons o' op' os' ops' ho1' ho2'=>
     refine bG q2 fun t q2 q3=>?_
     show wpM cx A (do
      let rv <- holding [x] (PySem.eval re env)
      standAt pos
      let c <- holding [x,rv] (compareOp op x rv)
      release [x,rv] [c]
      if <- holding [c,rv] (truthy c) then compareChain pos rv (op' :: ops') (markedEach (op' :: ops') (re' :: res') (evalEach (re' :: res') env)) else pure c) _ s
     refine wpAny_bind (wpAny_holding (wpE (he ml J vd J1 O s E S q1) fun y O1 hO tk1 Sa xa rg=>?_))
     refine wpAny_bind (wpAny_standAt (wpAny_bind (wpAny_holding (qF B R Sa ho1 (xa.yR ra) rg q2 fun h' tk S' x'=>?_))))
     refine wpAny_bind (jb (wpAny_bind (wpAny_holding (wpAny_truthy_bool ?_))))
     cases t with
     | true=>exact wpAny_mono (ih (.cons ho1' ho2') ml J1 vd y v J' O1 _ ((E.ext xa).ext x') S' (x'.yR rg) q3) (fun _ _ p=>zdr.after (s:=s) p (xa.trans x')) fun _ _ z=>z
     | false=>exact pG q3 (wpAny_pure ⟨false,rfl,O1,h',tk,rfl,S',xa.trans x',.bool false⟩)
theorem zaZ (B:Base cx)(R:xd A k)(h:kj cx k A env es res):∀ {os:List COp} {ops:List CmpOp},Ops os ops->∀ ml J a x v J' O s,zL cx env O s.heap ml->Sim cx O J s.heap->zp O s.heap a x->
  evalCmp cx.P (callN cx.P k) a os es ml J=some (v,J')->wpM cx A (testChain pos x ops (markedEach ops res (evalEach res env))) (zcY cx O s J' v) s:=by
 induction h with
 | nil=>intro os ops _ ml J a x v J' O s E S ra q;exact nn q
 | @cons e re es res he ht hb r ih=>
  intro os ops ho ml J a x v J' O s E S ra q
  refine bG2 q fun vd J1 q1 q2=>?_
  cases ho with
  | nil=>exact nn q2
  | @cons o op os ops ho1 ho2=>
   cases r with
   | nil=>
    cases ho2 with
    | cons _ _=>exact nn q2
    | nil=>
     refine bG q2 fun t q2 q=>pG q ?_
     show wpM cx A (do
      let rv <- holding [x] (markedBehindIn op re (PySem.eval re env))
      standAt pos
      let c <- operate [x,rv] (compareOp op x rv)
      holding [c] (truthy c)) _ s
     rw[markedBehindIn_of_false (hb op)]
     refine wpAny_bind (wpAny_holding (wpE (he ml J vd J1 O s E S q1) fun y O1 hO tk1 Sa xa rg=>?_))
     refine wpAny_bind (wpAny_standAt (wpAny_bind (qZ (qF B R Sa ho1 (xa.yR ra) rg q2 fun h' tk S' x'=>?_))))
     exact wpAny_holding (wpAny_truthy_bool ⟨rfl,O1,h',tk,rfl,S',xa.trans x',.bool t⟩)
   | @cons e' re' es' res' he' ht' hb' r'=>
    cases ho2 with
    | nil=>exact nn q2
    | @cons o' op' os' ops' ho1' ho2'=>
     refine bG q2 fun t q2 q3=>?_
     show wpM cx A (do
      let rv <- holding [x] (PySem.eval re env)
      standAt pos
      let c <- holding [x,rv] (compareOp op x rv)
      release [x,rv] [c]
      if <- holding [c,rv] (truthy c) then testChain pos rv (op' :: ops') (markedEach (op' :: ops') (re' :: res') (evalEach (re' :: res') env)) else pure false) _ s
     refine wpAny_bind (wpAny_holding (wpE (he ml J vd J1 O s E S q1) fun y O1 hO tk1 Sa xa rg=>?_))
     refine wpAny_bind (wpAny_standAt (wpAny_bind (wpAny_holding (qF B R Sa ho1 (xa.yR ra) rg q2 fun h' tk S' x'=>?_))))
     refine wpAny_bind (jb (wpAny_bind (wpAny_holding (wpAny_truthy_bool ?_))))
     cases t with
     | true=>exact wpAny_mono (ih (.cons ho1' ho2') ml J1 vd y v J' O1 _ ((E.ext xa).ext x') S' (x'.yR rg) q3) (fun _ _ p=>zcY.after (s:=s) p (xa.trans x')) fun _ _ z=>z
     | false=>exact pG q3 (wpAny_pure ⟨rfl,O1,h',tk,rfl,S',xa.trans x',.bool false⟩)
theorem zia (B:Base cx)(R:xd A k){a:ME}{ops:List CmpOp}(ha:SndE cx k A env a (PySem.eval ra env))(h:kj cx k A env es res)(ho:Ops os ops):
  SndE cx k A env (.cmp a os es) (PySem.eval (.Compare ra ops res pos) env):=fun ml J v J' O s E S q=>by
 refine bG2 q fun va J1 q1 q2=>?_
 rw[arm_eval_Compare]
 refine wpAny_bind (wpE (ha ml J va J1 O s E S q1) fun x O1 hO tk1 Sa xa rg=>?_)
 exact wpAny_mono (zcR B R h ho ml J1 va x v J' O1 _ (E.ext xa) Sa rg q2) (fun r s' p=>let ⟨_,_,p⟩:=p;p.after xa) fun _ _ z=>z
theorem zfi (B:Base cx)(R:xd A k){a:ME}{ops:List CmpOp}(ha:SndE cx k A env a (PySem.eval ra env))(h:kj cx k A env es res)(ho:Ops os ops):
  SndT cx k A env (.cmp a os es) (.Compare ra ops res pos):=fun ml J v t J' O s E S q qt=>by
 refine bG2 q fun va J1 q1 q2=>?_
 rw[arm_isTrue_Compare]
 refine wpAny_bind (wpE (ha ml J va J1 O s E S q1) fun x O1 hO tk1 Sa xa rg=>?_)
 refine wpAny_mono (zaZ B R h ho ml J1 va x v J' O1 _ (E.ext xa) Sa rg q2) (fun r s' p=>?_) fun _ _ z=>z
 have e:=Option.some.inj (p.t.symm.trans qt)
 subst e
 exact⟨rfl,p.p.after xa⟩
noncomputable def opB (o:BOp):Operator:=@BOp.casesOn (fun _=>Operator) o .Add .Sub .Mult .FloorDiv .Mod .Pow
noncomputable def binOk (o:BOp) (op:Operator):Bool:=decide (op=opB o)
end
theorem jz {x:Int}(h:small x=true):Builtin.Int.intBits x<=64:=by
 simp only[small,Bool.and_eq_true,decide_eq_true_eq] at h
 exact intBits_le_64 (Int.lt_trans (by decide) h.1) (Int.lt_trans h.2 (by decide))
theorem zcA (a b:List Nat):toS a ++ toS b=toS (a ++ b):=by
 show (⟨a.toArray ++ b.toArray⟩:Str)=⟨(a ++ b).toArray⟩
 simp
theorem zE (a:List Nat):(toS a).length=a.length:=by simp[toS,Str.length]
section
variable {cx:Cx}{A:Around}{O:Rho}{J:Hp}{s:Shared}
theorem zaX {i:Nat}(r:zp O h (.ref i) x):∃ a d,O[i]?=some (a,d)/\x=.ref a:=by cases r;exact⟨_,_,by assumption,rfl⟩
theorem Sim.list (S:Sim cx O J s.heap){i:Nat}{l:List MV}(r:zp O s.heap (.ref i) x)(e:J[i]?=some (.list l)):∃ a vs n,x=.ref a/\O[i]?=some (a,a)/\s.heap.get? a=some { cls:=.type "list", data:=.seq (List.toArray vs) n }/\zc O s.heap l vs:=by
 obtain⟨a,d,e1,rfl⟩:=zaX r
 obtain⟨vs,n,g,rr,e2⟩:=S.obj i _ _ e e1
 dsimp only at e2 g
 subst e2
 exact⟨_,vs,n,rfl,e1,g,rr⟩
theorem zx{vs:Array Value}{n:Nat}(g:h.get? a=some { cls:=.type "list", data:=.seq vs n }):h.IsList a vs:=⟨_,g,rfl,_,rfl⟩
theorem zgl(v:α):∀ n:Nat,((List.replicate n #[v]).foldl (fun x1 x2=>x1 ++ x2) #[]).toList=List.replicate n v:=by
 have:∀ (n:Nat) (acc:Array α),((List.replicate n #[v]).foldl (fun x1 x2=>x1 ++ x2) acc).toList=acc.toList ++ List.replicate n v:=by
  intro n
  induction n with
  | zero=>intro acc;simp
  | succ n ih=>intro acc;rw[List.replicate_succ,List.foldl_cons,ih];simp[List.replicate_succ]
 intro n
 rw[this];simp
theorem add_lists {a1 a2:Addr}{vs us:List Value}{n1 n2:Nat}{l l':List MV}(S:Sim cx O J s.heap)(hl:l.length+l'.length<=1000000)(g1:s.heap.get? a1=some { cls:=.type "list", data:=.seq (List.toArray vs) n1 }) (r1:zc O s.heap l vs)
  (g2:s.heap.get? a2=some { cls:=.type "list", data:=.seq (List.toArray us) n2 }) (r2:zc O s.heap l' us):wpM cx A (binaryOp .Add (.ref a1) (.ref a2)) (EPost cx O s (J ++ [.list (l ++ l')]) (.ref J.length)) s:=by
 have e:vs.toArray ++ us.toArray=(vs ++ us).toArray:=List.append_toArray ..
 refine concat_meets ⟨_,g1,rfl⟩ ⟨_,g2,rfl⟩ noFill_list_add seq_list_add PySem.F.slot_list_add PySem.F.entry_list_add (PySem.F.args_list_add_2 _ _) (list_addW a1 a2 vs.toArray us.toArray n1 n2 none none #[] #[] (by rw[List.size_toArray,List.size_toArray,<- r1.length,<- r2.length];exact zB hl)) ⟨g1,g2,?_⟩
 rw[e]
 exact zY S (r1.append r2)
theorem zfb {a1:Addr}{n1:Nat}{n:Int}{u:Tok}(S:Sim cx O J s.heap)(hn:0<=n/\n<=1000000)(g1:s.heap.get? a1=some { cls:=.type "list", data:=.seq (List.toArray [val]) n1 }) (r:zp O s.heap m val):
  wpM cx A (binaryOp .Mult (.ref a1) (.int n u)) (EPost cx O s (J ++ [.list (List.replicate n.toNat m)]) (.ref J.length)) s:=by
 refine wpAny_binaryOp_repeat_ref (T := "list") (U := "int") (by decide) ⟨_,g1,rfl⟩ (fun s'=>typeIs_int s' _ u) noFill_list_mul F.fills_int_mul F.slot_int_rmul repeat_list F.slot_int_index.lookup
  (call_meets F.slot_int_rmul (typeIs_int s _ u) F.entry_int_rmul (F.args_int_rmul_2 _ _) (int___rmul___int_list _ u a1 [val].toArray n1)
   ⟨g1,rfl,⟨_,g1,rfl⟩,call_meets F.slot_list_mul ⟨_,g1,rfl⟩ F.entry_list_mul (F.args_list_mul_2 _ _)
    (AutoListH.list___mul___list_int_3 a1 [val].toArray n1 _ u (by simp[Builtin.List.listFitsIndex];lia) (by simp;lia) (by simp[Builtin.List.listTooLong,sizeLine];lia))
    ⟨g1,?_⟩⟩)
 refine zY S ?_
 show zc O s.heap _ ((List.replicate n.toNat #[val]).foldl (fun x1 x2=>x1 ++ x2) #[]).toList
 rw[zgl]
 exact zc.replicate r _
theorem zdq {op:Operator}{o:BOp}{a b v:MV}(S:Sim cx O J s.heap)(ho:binOk o op=true)
  (r1:zp O s.heap a x) (r2:zp O s.heap b y) (q:binop o a b J=some (v,J')):wpM cx A (binaryOp op x y) (EPost cx O s J' v) s:=by
 cases (of_decide_eq_true ho:op=opB o)
 cases o with
 | add=>
  exact rISR q r1 (fun i _ q=>rI q r2 fun j _ q=>pG q (PyProof.Rows.add_int (EPost.now S (.int _ _))))
   (fun w _ q=>rS q r2 fun w' _ q=>iG q fun hl q=>pG q (SB.add (fun t' kk=>zcA w w' ▸ EPost.now S (.str _ _)) (by rw[zE,zE];exact zB hl)))
   fun i a1 d1 e1 q=>rR q r2 fun j a2 d2 e2 q=>qLG q fun l m1 q=>qLG q fun l' m2 q=>iG q fun hl q=>S.pL m1 e1 fun vs n1 _ g1 r1=>S.pL m2 e2 fun us n2 _ g2 r2=>pG q (add_lists S hl g1 r1 g2 r2)
 | sub=>exact rI q r1 fun i _ q=>rI q r2 fun j _ q=>pG q (PyProof.Rows.sub_int (EPost.now S (.int _ _)))
 | mul=>
  refine rIR q r1 (fun i _ q=>rI q r2 fun j _ q=>iG q fun hs q=>pG q (PyProof.Rows.mul_int (EPost.now S (.int _ _)) ((Bool.or_eq_true_iff.mp hs).elim (fun hs=>IntMulOk.of_left (jz hs)) fun hs=>IntMulOk.of_right (jz hs))))
   fun i a1 d1 e1 q=>rI q r2 fun n u q=>qLG q fun l m1 q=>S.pL m1 e1 fun vs n1 _ g1 r1=>?_
  clear m1
  revert r1
  refine a1G q fun w q r1=>?_
  revert g1
  refine wCons r1 fun val us r ru=>wNil ru fun g1=>iG q fun hn q=>?_
  have hn:=Bool.and_eq_true_iff.mp hn
  exact pG q (zfb S ⟨of_decide_eq_true hn.1,of_decide_eq_true hn.2⟩ g1 r)
 | fdiv=>
  refine rI q r1 fun i _ q=>rI q r2 fun j _ q=>iG q fun hs q=>?_
  have hs:=Bool.and_eq_true_iff.mp hs
  have h1:0 < j:=of_decide_eq_true hs.1
  have h2:j < 2000000:=of_decide_eq_true hs.2
  exact pG q (PyProof.Rows.floordiv_int (by omega) (EPost.now S (.int _ _)) (.inl (PyProof.noPylong_small (by omega))))
 | mod=>exact rI q r1 fun i _ q=>rI q r2 fun j _ q=>iG q fun hs q=>pG q (PyProof.Rows.mod_int' hs (EPost.now S (.int _ _)))
 | pow=>
  refine rI q r1 fun i _ q=>rI q r2 fun j _ q=>iG q fun hs q=>?_
  simp only[Bool.and_eq_true,decide_eq_true_eq,small] at hs
  exact pG q (PyProof.Rows.pow_int_small hs.1.1 (by omega) (by omega) (EPost.now S (.int _ _)))
end
section
variable {cx:Cx}{k:Nat}{A:Around}{env:Env}
theorem zis{o:BOp}{op:Operator}{a b:ME}{rb:Expr}(ho:binOk o op=true)(ha:SndE cx k A env a (PySem.eval ra env))(hb:SndE cx k A env b (PySem.eval rb env)):
  SndE cx k A env (.o o a b) (PySem.eval (.BinOp ra op rb pos) env):=fun ml J v J' O s E S q=>by
 refine bG2 q fun va J1 q1 q=>bG2 q fun vb Ja q2 q3=>?_
 refine wpAny_BinOp (jU ha hb E S q1 q2 fun x y O2 hS tk2 Sb xc r1 r2=>?_)
 exact wpA xc (zdq (s:={ s with heap:=hS,toks:=tk2 }) Sb ho r1 r2 q3)
theorem zib{a:ME}(ha:SndE cx k A env a (PySem.eval ra env)):SndE cx k A env (.neg a) (PySem.eval (.UnaryOp .USub ra pos) env):=fun ml J v J' O s E S q=>by
 refine bG2 q fun va J1 q1 q2=>?_
 refine wpAny_UnaryOp (wpE (ha ml J va J1 O s E S q1) fun x O1 hO tk1 Sa xa rg=>?_)
 exact rI q2 rg fun i _ q=>pG q (PyProof.Rows.neg_int ⟨O1,hO,_,rfl,Sa,xa,.int _ _⟩)
end
structure Cls (cx:Cx):Prop where
 attr:∀ c x,cx.P.attr c x=true->plainGet cx.K (cx.ca c) (cx.N x)=true/\hasDictIn cx.K (cx.ca c)=true/\plainOver cx.K (cx.ca c)=true/\
  findIn cx.K (.ref (cx.ca c)) "__setattr__" = some (some (.builtin "object.__setattr__"))/\findIn cx.K (.ref (cx.ca c)) (cx.N x)=some none
 meth:∀ c x f,cx.P.meth c x=some f->plainGet cx.K (cx.ca c) (cx.N x)=true/\findIn cx.K (.ref (cx.ca c)) (cx.N x)=some (some (.ref (cx.fa f)))/\isFn cx.K (.ref (cx.fa f))=true
section
variable {cx:Cx}{O:Rho}{h:Heap}
theorem zgr {e:DictEntry}{y:Str}{t:Tok}(he:e.key=.str y t)(x:Str):e.key.isStr x=decide (y=x):=by
 rw[he]
 by_cases q:y=x
 ·subst q;simp[Value.isStr]
 ·simp[Value.isStr,q]
theorem zfa {e:DictEntry}{y:Str}{t:Tok}(he:e.key=.str y t):e.refKey=false:=by
 unfold DictEntry.refKey;rw[he]
theorem wG.noRef {l:List (Nat×MV)}{es:List DictEntry}(r:wG cx O h l es):es.any (·.refKey)=false:=by
 induction r with
 | nil=>rfl
 | cons a _ _ ih=>obtain⟨t,a⟩:=a;rw[List.any_cons,zfa a,ih];rfl
theorem wG.length {l:List (Nat×MV)}{es:List DictEntry}(r:wG cx O h l es):es.length=l.length:=by
 induction r with
 | nil=>rfl
 | cons _ _ _ ih=>simp[ih]
theorem wG.find (hj:∀ x y,cx.N x=cx.N y->x=y)(x:Nat){l:List (Nat×MV)}{es:List DictEntry}(r:wG cx O h l es):match lk x l with
  | some m=>∃ e,es.find? (·.key.isStr (cx.N x))=some e/\zp O h m e.val
  | .none=>es.find? (·.key.isStr (cx.N x))=none:=by
 induction r with
 | nil=>rfl
 | @cons y m e l es a b r ih=>
  obtain⟨t,a⟩:=a
  by_cases q:y=x
  ·subst q
   simp only[lkE,if_true]
   exact⟨e,by rw[List.find?_cons,zgr a];simp,b⟩
  ·simp only[lkE,if_neg q]
   have:e.key.isStr (cx.N x)=false:=by rw[zgr a];simp;exact fun z=>q (hj _ _ z)
   rw[List.find?_cons,this];exact ih
theorem wG.get (hj:∀ x y,cx.N x=cx.N y->x=y){x:Nat}{l:List (Nat×MV)}{es:List DictEntry}(r:wG cx O h l es)(e:lk x l=some m):∃ v,getL (cx.N x) es=some (some v)/\zp O h m v:=by
 have:=r.find hj x
 rw[e] at this
 obtain⟨en,a,b⟩:=this
 exact⟨en.val,by unfold getL;rw[a],b⟩
theorem wG.ziF (hj:∀ x y,cx.N x=cx.N y->x=y){x:Nat}{l:List (Nat×MV)}{es:List DictEntry}(r:wG cx O h l es)(e:lk x l=.none):getL (cx.N x) es=some none:=by
 have:=r.find hj x
 rw[e] at this
 unfold getL;rw[this];dsimp only;rw[if_neg (by rw[r.noRef];decide)]
theorem wG.store (hj:∀ x y,cx.N x=cx.N y->x=y){x:Nat}{l:List (Nat×MV)}{es:List DictEntry}{hs:Int}(b:zp O h m v)(r:wG cx O h l es):wG cx O h (st x m l) (putL (cx.N x) hs (.str (cx.N x) tk) v es):=by
 induction r with
 | nil=>exact .cons ⟨tk,rfl⟩ b .nil
 | @cons y m' e l es a b' r ih=>
  obtain⟨t,a⟩:=a
  by_cases q:y=x
  ·subst q
   have:e.key.isStr (cx.N y)=true:=by rw[zgr a];simp
   simp only[stE,if_true,putL,this]
   exact .cons ⟨t,a⟩ b r
  ·have:e.key.isStr (cx.N x)=false:=by rw[zgr a];simp;exact fun z=>q (hj _ _ z)
   simp only[stE,if_neg q,putL,this,Bool.false_eq_true,if_false]
   exact .cons ⟨t,a⟩ b' ih
theorem zau (x:Nat)(m:MV):∀ l:List (Nat×MV),(st x m l).length<=l.length+1
 | []=>Nat.le_refl _
 | (y,w) :: r=>by
  rw[stE]
  split
  ·exact Nat.le_succ _
  ·exact Nat.succ_le_succ (zau x m r)
theorem handed(r:zp O h m v):handedIn v=true:=by cases r <;> rfl
end
section
variable {cx:Cx}{O:Rho}{J:Hp}{s:Shared}{A:Around}
theorem Sim.inst (S:Sim cx O J s.heap){i:Nat}{l:List (Nat×MV)}(r:zp O s.heap (.ref i) x)(e:J[i]?=some (.inst c l)):
  ∃ a d sl es n,x=.ref a/\O[i]?=some (a,d)/\d≠a/\s.heap.get? a=some ⟨.ref (cx.ca c),some d,.plain,sl⟩/\s.heap.get? d=some (dictOf es n)/\wG cx O s.heap l es:=by
 obtain⟨a,d,e1,rfl⟩:=zaX r
 obtain⟨ne,⟨sl,g⟩,es,n,g2,rr⟩:=S.obj i _ _ e e1
 exact⟨a,d,sl,es,n,rfl,e1,ne,g,g2,rr⟩
theorem Sim.K (B:Base cx)(S:Sim cx O J s.heap):cx.K.In s.heap:=B.X.keeps S.base
theorem zca{d:Addr}{sl:Array (Option Value)}{es:List DictEntry}{n:Nat}(g:h.get? a=some ⟨.ref (cx.ca c),some d,.plain,sl⟩)(g2:h.get? d=some (dictOf es n)):
  InstAt h a ⟨.ref (cx.ca c),some d,.plain,sl⟩ (cx.ca c) (some (dictOf es n)):=⟨g,rfl,rfl,g2⟩
noncomputable def notSuper (f:Expr):Bool:=@Expr.casesOn (fun _=>Bool) f (K3 true) (K3 true) (K4 true) (K3 true) (K4 true) (K4 true) (K3 true) (K3 true) (K4 true) (K4 true) (K5 true) (K4 true) (K2 true) (K2 true) (K2 true) (K4 true) (K4 true) (K4 true) (K2 true) (K3 true) (K3 true) (K3 true) (K2 true) (fun id _=>id != "super") (K2 true) (K3 true) (K4 true)
noncomputable def baseFree (re:Expr):Bool:=@Expr.casesOn (fun _=>Bool) re (K3 true) (K3 true) (K4 true) (K3 true) (K4 true) (K4 true) (K3 true) (K3 true) (K4 true) (K4 true) (K5 true) (K4 true) (K2 true) (K2 true) (K2 true) (K4 true) (fun f _ _ _=>notSuper f) (K4 true) (K2 true) (K3 true) (K3 true) (K3 true) (K2 true) (K2 true) (K2 true) (K3 true) (K4 true)
theorem zdS{whole:Sem Value}:baseFree re=true->attributeBase re attr env whole=whole:=
 @Expr.casesOn (fun re=>baseFree re=true->attributeBase re attr env whole=whole) re (fun _ _ _=>fun _=>@rfl _ whole) (fun _ _ _=>fun _=>@rfl _ whole) (fun _ _ _ _=>fun _=>@rfl _ whole) (fun _ _ _=>fun _=>@rfl _ whole) (fun _ _ _ _=>fun _=>@rfl _ whole) (fun _ _ _ _=>fun _=>@rfl _ whole) (fun _ _ _=>fun _=>@rfl _ whole) (fun _ _ _=>fun _=>@rfl _ whole) (fun _ _ _ _=>fun _=>@rfl _ whole) (fun _ _ _ _=>fun _=>@rfl _ whole) (fun _ _ _ _ _=>fun _=>@rfl _ whole) (fun _ _ _ _=>fun _=>@rfl _ whole) (fun _ _=>fun _=>@rfl _ whole) (fun _ _=>fun _=>@rfl _ whole) (fun _ _=>fun _=>@rfl _ whole) (fun _ _ _ _=>fun _=>@rfl _ whole) (fun f as ks p=>@Expr.casesOn (fun f=>baseFree (.Call f as ks p)=true->attributeBase (.Call f as ks p) attr env whole=whole) f (fun _ _ _=>fun _=>@rfl _ whole) (fun _ _ _=>fun _=>@rfl _ whole) (fun _ _ _ _=>fun _=>@rfl _ whole) (fun _ _ _=>fun _=>@rfl _ whole) (fun _ _ _ _=>fun _=>@rfl _ whole) (fun _ _ _ _=>fun _=>@rfl _ whole) (fun _ _ _=>fun _=>@rfl _ whole) (fun _ _ _=>fun _=>@rfl _ whole) (fun _ _ _ _=>fun _=>@rfl _ whole) (fun _ _ _ _=>fun _=>@rfl _ whole) (fun _ _ _ _ _=>fun _=>@rfl _ whole) (fun _ _ _ _=>fun _=>@rfl _ whole) (fun _ _=>fun _=>@rfl _ whole) (fun _ _=>fun _=>@rfl _ whole) (fun _ _=>fun _=>@rfl _ whole) (fun _ _ _ _=>fun _=>@rfl _ whole) (fun _ _ _ _=>fun _=>@rfl _ whole) (fun _ _ _ _=>fun _=>@rfl _ whole) (fun _ _=>fun _=>@rfl _ whole) (fun _ _ _=>fun _=>@rfl _ whole) (fun _ _ _=>fun _=>@rfl _ whole) (fun _ _ _=>fun _=>@rfl _ whole) (fun _ _=>fun _=>@rfl _ whole) (fun id ps=>List.casesOn as (List.casesOn ks (fun hb=>if_pos (by rw[show (id != ("super" : Str))=true from hb];rfl)) fun _ _ _=>rfl) fun _ _ _=>rfl) (fun _ _=>fun _=>@rfl _ whole) (fun _ _ _=>fun _=>@rfl _ whole) (fun _ _ _ _=>fun _=>@rfl _ whole)) (fun _ _ _ _=>fun _=>@rfl _ whole) (fun _ _=>fun _=>@rfl _ whole) (fun _ _ _=>fun _=>@rfl _ whole) (fun _ _ _=>fun _=>@rfl _ whole) (fun _ _ _=>fun _=>@rfl _ whole) (fun _ _=>fun _=>@rfl _ whole) (fun _ _=>fun _=>@rfl _ whole) (fun _ _=>fun _=>@rfl _ whole) (fun _ _ _=>fun _=>@rfl _ whole) (fun _ _ _ _=>fun _=>@rfl _ whole)
theorem zbl{whole:Sem Value}(hb:baseFree re=true)(h:wpM cx A whole Q s):wpM cx A (attributeBase re attr env whole) Q s:=by
 rw[zdS hb];exact h
theorem ze3 (B:Base cx)(C:Cls cx)(S:Sim cx O J s.heap){i x:Nat}{l:List (Nat×MV)}{a:Value}{ex:Bool}(r:zp O s.heap (.ref i) a)(e:J[i]?=some (.inst c l))(hp:cx.P.attr c x=true)(hl:lk x l=some m)
  (q:∀ v,zp O s.heap m v->Q v { s with toks:=s.toks+1 }):wpM cx A (getAttr a (cx.N x) ex) Q s:=by
 obtain⟨a,d,sl,es,n,rfl,e1,ne,g,g2,rr⟩:=S.inst r e
 obtain⟨v,hv,rv⟩:=rr.get B.inj hl
 obtain⟨c1,c2,_,_,c5⟩:=C.attr c x hp
 exact get_value (S.K B) (zca g g2) (plainGet_of c1).1 (findObj_own c2 c5 rfl hv) (handed rv) (q v rv)
theorem Upd.get{d:Addr}{f:Obj->Obj}{b:Addr}(ne:b≠d):(h.update d f).get? b=h.get? b:=Heap.get?_update_other h f (Ne.symm ne)
theorem zij {d:Addr}{sl:Array (Option Value)}{es:List DictEntry}{n:Nat}{name:Str}{R:Except Value Flow->Shared->Prop}(X:cx.K.In s.heap)(g:s.heap.get? a=some ⟨.ref (cx.ca c),some d,.plain,sl⟩)(g2:s.heap.get? d=some (dictOf es n))
  (c2:hasDictIn cx.K (cx.ca c)=true) (c3:plainOver cx.K (cx.ca c)=true) (ht:takerIn cx.K (cx.ca c) name=some none)
  (q:wpAny (model cx.prog cx.w) A.in1 (nsSet d name v) (fun _ s'=>wpAny (model cx.prog cx.w) A.in1 (lookBehind d (some (.str name 0))) (fun _ s''=>R (.ok (.ret .none)) s'') (fun e s''=>R (.error e) s'') s') (fun e s'=>R (.error e) s') s):codeAny (model cx.prog cx.w) A (.call (.builtin "object.__setattr__") ⟨[.ref a,.str name tk,v],[]⟩) R s:=by
 refine osa_open X (zca g g2) c3 ht fun b=>?_
 obtain⟨cd,hc,hd'⟩:=any_some (show (clsIn cx.K (cx.ca c)).any (·.hasDict)=true from c2)
 refine wpAny_bind (wpAny_pure (wpAny_bind (wpAny_bind (wpAny_loadPart g (wpAny_bind ((looks_clsIn X hc).here ?_))))))
 rw[hd']
 refine wpAny_pure (a:=some d) (wpAny_bind (wpAny_pure (wpAny_bind (wpAny_mono q (fun _ _ z=>wpAny_bind (wpAny_mono z (fun _ _ y=>wpAny_pure y) fun _ _ y=>y)) fun _ _ z=>z))))
theorem zf2 (B:Base cx)(C:Cls cx)(S:Sim cx O J s.heap){i x:Nat}{a:Value}{mi:MV}(r:zp O s.heap mi a)(rv:zp O s.heap m v)(e:setAttr cx.P mi x m J=some J'){Q:Unit->Shared->Prop}
  (q:∀ h' tk,Sim cx O J' h'->Ext O s.heap W0 O h'->Q () { s with heap:=h',toks:=tk }):wpM cx A (PySem.setAttr a (cx.N x) v) Q s:=by
 revert r q
 refine eRG e fun i e r=>qIG e fun c l e0 e=>iG e fun hp e=>sG e fun q=>?_
 obtain⟨hp,hlen⟩:=Bool.and_eq_true_iff.mp hp
 have hlen:=of_decide_eq_true hlen
 obtain⟨a,d,sl,es,n,rfl,e1,ne,g,g2,rr⟩:=S.inst r e0
 obtain⟨c1,c2,c3,c4,c5⟩:=C.attr c x hp
 have X:=S.K B
 have I:=zca g g2
 have ht:takerIn cx.K (cx.ca c) (cx.N x)=some none:=by unfold takerIn;rw[c5];rfl
 refine set_plain X I c4 (zij (s:={ s with toks:=s.toks+1 }) X g g2 c2 c3 ht ?_)
 unfold nsSet
 refine wpAny_bind (wpAny_bind (wpAny_askSetting (wpAny_pure (wpAny_bind (wpAny_mkText (wpAny_bind (wpAny_loadPart g2 ?_)))))))
 dsimp only[dictOf]
 have nr:(!es.toArray.any (·.key.isStr (cx.N x)) && es.toArray.any (·.refKey))=false:=by
  rw[<- Array.any_toList,<- Array.any_toList]
  simp only[rr.noRef,Bool.and_false]
 rw[aRefKeyMayBeTheName_at,nr]
 refine wpAny_updatePart g2 ?_
 have e2:=putName_dict (cx.N x) (PyData.keyHash cx.w.params (cx.N x)) (.str (cx.N x) (s.toks+1)) v es n
 have D':(s.heap.update d (Obj.putName (cx.N x) (PyData.keyHash cx.w.params (cx.N x)) (.str (cx.N x) (s.toks+1)) v)).get? d=some (dictOf (putL (cx.N x) (PyData.keyHash cx.w.params (cx.N x)) (.str (cx.N x) (s.toks+1)) v es) (putN (cx.N x) es n)):=by
  rw[Heap.get?_update_self _ g2 (by rw[e2];rfl),e2]
 refine wpAny_lookBehind D' (show (Data.dict _ _).pastItsLine=none from pastItsLine_dict ?_) ?_
 ·have:=(rr.store (x:=x) (hs:=PyData.keyHash cx.w.params (cx.N x)) (tk:=s.toks+1) B.inj rv).length
  rw[List.size_toArray,this,sizeLine_eq]
  have:=zau x m l
  lia
 ·have U:=S.update (h':=s.heap.update d (Obj.putName (cx.N x) (PyData.keyHash cx.w.params (cx.N x)) (.str (cx.N x) (s.toks+1)) v)) (o':=.inst c (st x m l)) e0 e1 (by rw[Heap.size_after_update])
   (fun b _ h2=>Heap.get?_update_other _ _ (Ne.symm h2)) fun y=>⟨ne,⟨sl,by dsimp only;rw[Heap.get?_update_other _ _ ne];exact g⟩,_,_,D',(rr.store B.inj rv).grow (y.gr (WOk.w0 _))⟩
  exact q _ _ U.1 U.2
end
section
variable {cx:Cx}{k:Nat}{A:Around}{env:Env}
theorem zgo (B:Base cx)(C:Cls cx){a:ME}{x:Nat}(ha:SndE cx k A env a (PySem.eval ra env))(hb:baseFree ra=true):SndE cx k A env (.a a x) (PySem.eval (.Attribute ra (cx.N x) pos) env):=fun ml J v J' O s E S q=>by
 refine bG2 q fun va J1 q1 q2=>?_
 rw[arm_eval_Attribute]
 refine wpAny_bind (zbl hb (wpE (ha ml J va J1 O s E S q1) fun o O1 hO tk1 Sa xa rg=>?_))
 refine rR q2 rg fun i a' d' e1 q=>qIG q fun c l e0 q=>iG q fun hp q=>bG q fun m hl q=>pG q ?_
 refine wpAny_bind (wpAny_standAt (wpAny_bind (wpAny_holding (ze3 (s:={ s with heap:=hO,toks:=tk1 }) B C Sa (.ref e1) e0 hp hl fun v rv=>?_))))
 exact wpAny_bind (wpAny_letTemporaryGo (wpAny_pure ⟨O1,hO,_,rfl,Sa,xa,rv⟩))
end
noncomputable def clipN (n:Nat) (o:Option Int) (d:Int):Int:=@Option.casesOn Int (fun _=>Int) o d fun i=>max 0 (min (if i < 0 then i+n else i) n)
theorem zcM (lo hi:Option Int)(n:Nat):sliceBounds lo hi none n=(clipN n lo 0,clipN n hi n,1):=by cases lo <;> cases hi <;> rfl
theorem zbm (lo hi:Option Int)(n:Nat):Builtin.Str.strSliceIndices lo hi 1 n=sliceRange (clipN n lo 0) (clipN n hi n) 1:=by cases lo <;> cases hi <;> rfl
theorem zfI (k n:Nat):max 0 (min (k:Int) n)=((min k n:Nat):Int):=by
 rcases Nat.le_total k n with c | c
 ·rw[Nat.min_eq_left c,Int.min_eq_left (Int.ofNat_le.mpr c),Int.max_eq_right (Int.natCast_nonneg _)]
 ·rw[Nat.min_eq_right c,Int.min_eq_right (Int.ofNat_le.mpr c),Int.max_eq_right (Int.natCast_nonneg _)]
theorem jQ{n d a:Nat}(h:(o=none/\a=d)∨∃ i,o=some i/\0<=i/\a=min i.toNat n):clipN n o (d:Int)=a:=by
 rcases h with⟨rfl,rfl⟩ | ⟨i,rfl,h0,rfl⟩
 ·rfl
 ·show max 0 (min (if i < 0 then i+n else i) (n:Int))=_
  rw[if_neg (Int.not_lt.mpr h0),<- zfI,Int.toNat_of_nonneg h0]
theorem zcw (items:Array Value)(lo hi:Option Int)(a b:Nat)(h1:(lo=none/\a=0)∨∃ i,lo=some i/\0<=i/\a=min i.toNat items.size)(h2:(hi=none/\b=items.size)∨∃ i,hi=some i/\0<=i/\b=min i.toNat items.size):
  slicePick items lo hi none=((items.toList.take b).drop a).toArray:=by
 have e:sliceBounds lo hi none items.size=((a:Int),(b:Int),1):=by rw[zcM,jQ h2];exact congrArg (fun z=>(z,(b:Int),(1:Int))) (jQ h1)
 unfold slicePick
 rw[e]
 simp only[sliceRange_one,pick_run]
 rw[List.drop_take]
theorem ze8 (items:Array Value):slicePick items none none (some (-1))=items.toList.reverse.toArray:=by
 have e:∀ n:Nat,(List.range n).map (fun k=>n - 1 - k)=(List.range n).reverse:=fun n=>by
  apply List.ext_getElem
  ·simp
  ·intro i h1 h2;simp
 have p:=picked_rev items.size
 have q:slicePick items none none (some (-1))=((Builtin.Str.strSliceIndices none none (-1) items.size).filterMap (items[·]?)).toArray:=rfl
 rw[q,p,e,List.filterMap_reverse]
 have:=pick_run items 0 items.size
 simp only[Nat.zero_add,List.map_id',List.drop_zero] at this
 rw[this,List.take_of_length_le (by simp)]
theorem str_slice (x:List Nat)(lo hi:Option Int)(a b:Nat)(h1:(lo=none/\a=0)∨∃ i,lo=some i/\0<=i/\a=min i.toNat x.length)(h2:(hi=none/\b=x.length)∨∃ i,hi=some i/\0<=i/\b=min i.toNat x.length):
  ((Builtin.Str.strSliceIndices lo hi 1 x.length).filterMap (fun j=>(toS x).cps[j]?))=(x.take b).drop a/\(Builtin.Str.strSliceIndices lo hi 1 x.length).length=b - a:=by
 have e:Builtin.Str.strSliceIndices lo hi 1 x.length=sliceRange (a:Int) (b:Int) 1:=by rw[zbm,jQ h2];exact congrArg (fun z=>sliceRange z (b:Int) 1) (jQ h1)
 rw[e]
 have pr:=fun (xs:Array Nat) (a:Nat)=>pick_run xs a
 simp only[sliceRange_one]
 constructor
 ·rw[List.drop_take]
  exact pr x.toArray a (b - a)
 ·simp
section
variable {cx:Cx}{O:Rho}{J:Hp}{s:Shared}{A:Around}
theorem xB{o i:Value}(hT:s.TypeIs o T)
  (hl:typeLookup (.type T) "__getitem__" = pure (some (.builtin id))) (hs:subscripted slice false o i=operate [o,i] (getItem o i)) (h:wpM cx A (getItem o i) Q s):
  wpM cx A (subscriptTail value slice o i) Q s:=by
 unfold subscriptTail
 refine wpAny_bind ?_
 rw[getitemInPython_of_ne hT.not_modules]
 refine wpAny_bind (wpAny_specialOf hT hl ?_)
 have fin:wpM cx A (subscripted slice false o i) (fun r sh=>wpM cx A (letTemporaryGo value o r >>= fun _=>pure r) Q sh) s:=by
  rw[hs]
  exact wpAny_operating (wpAny_mono h (fun r sh hU=>wpAny_bind (wpAny_letTemporaryGo (wpAny_pure hU))) fun _ _ x=>x)
 first
  | exact wpAny_pure (wpAny_bind fin)
  | exact wpAny_bind (wpAny_pure (wpAny_bind fin))
  | exact wpAny_bind fin
theorem tup_is(x:h.IsTuple a items):IsTup h a items:=x
theorem Sim.dict (S:Sim cx O J s.heap){i:Nat}(r:zp O s.heap (.ref i) x)(e:J[i]?=some (.dict l)):∃ a,x=.ref a/\O[i]?=some (a,a)/\xU cx O s.heap a l:=by
 obtain⟨a,d,e1,rfl⟩:=zaX r
 obtain⟨e2,rr⟩:=S.obj i _ _ e e1
 dsimp only at e2 rr
 subst e2
 exact⟨_,rfl,e1,rr⟩
theorem xU.typeIs(r:xU cx O s.heap a l):s.TypeIs (.ref a) "dict" := by
 rcases r with⟨kvs,d,p⟩ | ⟨kvs,d,p⟩ <;> exact d.typeIs
theorem strKind_is (k:List Nat)(t:Tok):(strKind cx.prog cx.w).is (toS k) (.str (toS k) t)=true:=by simp[PySem.strKind,Value.isStrOf]
theorem intKind_is (k:Int)(t:Tok):(intKind cx.prog cx.w).is k (.int k t)=true:=by simp[PySem.intKind,Value.isInt]
@[elab_as_elim] theorem keyR {k:MV} {P:MV->Value->Prop} (f:keyFits k l=true) (r:xU cx O s.heap a l) (ry:zp O s.heap k y)
  (ki:∀ n t kvs,s.heap.DictOf (intKind cx.prog cx.w) a kvs->z8 encI O s.heap l kvs->P (.int n) (.int n t)) (ks:∀ x t kvs,s.heap.DictOf (strKind cx.prog cx.w) a kvs->z8 encS O s.heap l kvs->P (.str x) (.str (toS x) t)):P k y:=by
 cases ry with
 | int n t=>obtain⟨kvs,d,p⟩:=r.ints f;exact ki n t kvs d p
 | str x t=>obtain⟨kvs,d,p⟩:=r.strs f;exact ks x t kvs d p
 | _=>exact ff f
theorem z8.at {K:Type}[DecidableEq K]{enc:K->MV}{kvs:List (K×Value)}{k:K}{R:Prop}(p:z8 enc O h l kvs)(hb:∀ x,(enc x).beq key=decide (x=k))(e:dlk key l=some m)(q:∀ v,valueAt kvs k=some v->zp O h m v->R):R:=by
 have:=p.look hb
 rw[e] at this
 obtain⟨v,hv,rv⟩:=this
 exact q v hv rv
theorem zeG{k:MV}(r:xU cx O s.heap a l)(f:keyFits k l=true)(ry:zp O s.heap k y)(e:dlk k l=some m)
  (q:∀ v,zp O s.heap m v->Q v { s with toks:=s.toks+1 }):wpM cx A (getItem (.ref a) y) Q s:=by
 revert e
 exact keyR f r ry (fun n t kvs d p e=>p.at (fun x=>yC x n) e fun v hv rv=>wpAny_getItem_of (intKind_is n t) d.mapOf hv (q v rv)) fun x t kvs d p e=>p.at (k:=toS x) (fun y=>z7 y x) e fun v hv rv=>wpAny_getItem_of (strKind_is x t) d.mapOf hv (q v rv)
theorem zgD {j:Int}{n:Nat}(h0:0<=j)(hn:j.toNat < n):seqIndex? j n=some j.toNat:=by
 unfold seqIndex?
 have h1:¬ j < 0:=Int.not_lt.mpr h0
 have h2:j < n:=(Int.toNat_lt h0).mp hn
 simp only[h1,if_false,h0,h2,decide_true,Bool.and_self,if_true]
theorem zdm (S:Sim cx O J s.heap){a i v:MV}(hs:∀ o i,subscripted slice false o i=operate [o,i] (getItem o i))(r1:zp O s.heap a x)(r2:zp O s.heap i y)(q:subGet a i J=some v):wpM cx A (subscriptTail value slice x y) (EPost cx O s J v) s:=by
 refine rSRT q r1 (fun w t q=>rI q r2 fun k u q=>iG q fun h0 q=>bG q fun c hc q=>sG q ?s1) (fun j a d e q=>zj6 q (fun l e1 q=>S.pL e1 e fun vs n _ g rr=>rI q r2 fun k u q=>iG q fun h0 q=>?s2) fun l e1 q=>S.pD e1 e fun _ rr=>iG q fun hf q=>
  xB (T := "dict") rr.typeIs PySem.F.slot_dict_getitem.lookup (hs _ _) (zeG rr hf r2 q fun v rv=>EPost.now S rv)) fun l a vs it ni rr q=>rI q r2 fun k u q=>iG q fun h0 q=>?s3
 case s1=>
  have hlt:k.toNat < w.length:=(List.getElem?_eq_some_iff.mp hc).1
  refine xB (T := "str") (typeIs_str s _ t) PySem.F.slot_str_getitem.lookup (hs _ _) (PyProof.Rows.getItem_str (c:=c) ?_ ?_ (EPost.now S (.str [c] _)))
  ·simp only[Bool.or_eq_false_iff,decide_eq_false_iff_not];lia
  ·rw[zE,zgD h0.1 hlt];simpa[toS] using hc
 case s2=>
  obtain⟨val,hv,rv⟩:=rr.get q
  exact xB (T := "list") (zx g).typeIs PySem.F.slot_list_getitem.lookup (hs _ _) (wpAny_getItem_list (zx g) h0.1 (by lia) (by rw[List.getElem?_toArray];exact hv) (EPost.same S rv))
 case s3=>
  have hlt:k.toNat < l.length:=(List.getElem?_eq_some_iff.mp q).1
  obtain⟨val,hv,rv⟩:=rr.get q
  refine xB (T := "tuple") (tup_is it).typeIs PySem.F.slot_tuple_getitem.lookup (hs _ _) (PyProof.Rows.getItem_tuple (tup_is it) (j:=k.toNat) (x:=val) (by lia) (by lia) ?_ (by rw[List.getElem?_toArray];exact hv) (EPost.same S rv))
  rw[List.size_toArray,<- rr.length];exact zgD h0.1 hlt
end
structure Bd (n d:Nat)(v:Value)(a:Nat):Prop where
 ex:∃ o:Option Int,IsPart v o/\((o=none/\a=d)∨∃ i,o=some i/\0<=i/\a=min i.toNat n)
theorem yx{n d a:Nat}(r:zp O h m v)(e:bnd n d m=some a):Bd n d v a:=
 rNI e r (fun e=>sG e ⟨none,.none,.inl ⟨rfl,rfl⟩⟩) fun i t e=>iG e fun h e=>sG e ⟨some i,.int _ _,.inr ⟨i,rfl,h,rfl⟩⟩
theorem jE(p:IsPart v o):∃ q:Option (Int×Tok),v=partValue q/\q.map (·.1)=o:=by
 cases p with
 | none=>exact⟨none,rfl,rfl⟩
 | int i t=>exact⟨some (i,t),rfl,rfl⟩
section
variable {cx:Cx}{O:Rho}{J:Hp}{s:Shared}{A:Around}
noncomputable def slS (s:Shared) (vl vu:Value):Shared:={ s with heap:=s.heap.push { cls:=.type "slice", data:=.fields #[vl,vu,.none] } }
theorem zc5(S:Sim cx O J s.heap):Sim cx O J (slS s vl vu).heap:=S.push _
theorem zkE {h l n:Nat}(hw:h - l=n)(hh:h<=n)(hl:l<=n):h=n/\l=0:=by
 have a:h=n:=Nat.le_antisymm hh (hw ▸ Nat.sub_le h l)
 subst a
 have:=Nat.sub_add_cancel hl
 rw[hw] at this
 exact⟨rfl,Nat.add_left_cancel this⟩
theorem zi6 {w:List Nat}{t:Tok}{l h:Nat}(S:Sim cx O J s.heap)(bl:Bd w.length w.length vl l)(nl:vl≠.none)(bh:Bd w.length w.length vu h)(hsz:w.length<=1000000):
  wpM cx A (getItem (.str (toS w) t) (.ref s.heap.objs.size)) (EPost cx O (slS s vl vu) J (.str ((w.take h).drop l))) (slS s vl vu):=by
 obtain⟨o1,p1,e1⟩:=bl
 obtain⟨o2,p2,e2⟩:=bh
 obtain⟨c1,rfl,rfl⟩:=jE p1
 obtain⟨c2,rfl,rfl⟩:=jE p2
 refine wpAny_getItem_str_slice (l:=c1) (u:=c2) (st:=none) ⟨_,Heap.get?_push_size _ rfl,rfl,rfl⟩ rfl ?_
 have nl:∃ i,c1.map (·.1)=some i/\0<=i/\l=min i.toNat w.length:=by
  rcases e1 with⟨z,_⟩ | e1
  ·cases c1 with
   | none=>exact absurd rfl nl
   | some _=>cases z
  ·exact e1
 obtain⟨f1,f2⟩:=str_slice w _ _ l h (.inr nl) e2
 have P:slicePicked (toS w) c1 c2 none=Builtin.Str.strSliceIndices (c1.map (·.1)) (c2.map (·.1)) 1 w.length:=by unfold slicePicked;rw[zE];rfl
 unfold sliceMade
 rw[P,f1,zE,f2]
 split
 ·rename_i hw
  simp only[Option.map_none,Option.getD_none,beq_self_eq_true,Bool.true_and,beq_iff_eq] at hw
  obtain⟨h1,h2⟩:=zkE hw (e2.elim (fun z=>Nat.le_of_eq z.2) fun⟨i,_,_,z⟩=>z ▸ Nat.min_le_right _ _) (let ⟨i,_,_,z⟩:=nl;z ▸ Nat.min_le_right _ _)
  refine EPost.same (zc5 S) ?_
  rw[h1,h2,List.drop_zero,List.take_length];exact .str _ _
 ·exact⟨by show (toS _).length<=_;rw[zE];exact zB (Nat.le_trans (by rw[List.length_drop,List.length_take];exact Nat.le_trans (Nat.sub_le _ _) (Nat.min_le_right _ _)) hsz),EPost.now (zc5 S) (.str _ _)⟩
theorem zdu{vs:List Value}{w:List MV}{l h:Nat}(S:Sim cx O J s.heap)(g:s.heap.IsList ad (List.toArray vs))(rr:zc O s.heap w vs)(bl:Bd w.length 0 vl l)(bh:Bd w.length w.length vu h)(hsz:w.length<=1000000):
  wpM cx A (getItem (.ref ad) (.ref s.heap.objs.size)) (EPost cx O (slS s vl vu) (J ++ [.list ((w.take h).drop l)]) (.ref J.length)) (slS s vl vu):=by
 have g':(s.heap.push { cls:=.type "slice", data:=.fields #[vl,vu,.none] }).IsList ad vs.toArray:=(let ⟨o,e,c⟩:=g;⟨o,Heap.get?_push_of_some _ e,c⟩)
 obtain⟨o1,p1,e1⟩:=bl
 obtain⟨o2,p2,e2⟩:=bh
 have sz:vs.toArray.size=w.length:=by rw[List.size_toArray,rr.length]
 have pk:=zcw vs.toArray o1 o2 l h (by rw[sz];exact e1) (by rw[sz];exact e2)
 refine wpAny_getItem_list_slice (s:=slS s vl vu) g' (Heap.IsSliceOf.new ..) p1 p2 .none (fun z=>nomatch z) ?_ (by rw[sz];exact zB hsz)
 rw[pk]
 exact zY (s:=slS s vl vu) (zc5 S) (((((Ext.push O s.heap W0 _).qi rr).take h).drop l))
structure zmT (cx:Cx)(A:Around)(O:Rho)(s:Shared)(x vl vu:Value)(v:MV)(J':Hp):Prop where
 ex:∃ T id,s.TypeIs x T/\typeLookup (.type T) "__getitem__" = pure (some (.builtin id))/\wpM cx A (getItem x (.ref s.heap.objs.size)) (EPost cx O (slS s vl vu) J' v) (slS s vl vu)
theorem zmY(r:zp O h m v)(n:isN m=false):v≠.none:=by
 cases r with
 | none=>exact ff n.symm
 | _=>intro e;cases e
theorem za2 (S:Sim cx O J s.heap){a lo hi v:MV}(r1:zp O s.heap a x)(r2:zp O s.heap lo vl)(r3:zp O s.heap hi vu)(q:sliceGet a lo hi J=some (v,J')):zmT cx A O s x vl vu v J':=
 rSR q r1 (fun w t q=>bG q fun l ql q=>bG q fun h qh q=>iG q fun c q=>pG q ⟨"str", _,typeIs_str s _ t,PySem.F.slot_str_getitem.lookup,zi6 S (yx r2 ql) (zmY r2 c.1) (yx r3 qh) c.2⟩)
  fun j ad d e q=>bG q fun w q0 q=>iG q fun hl q=>bG q fun l ql q=>bG q fun h qh q=>pG q (
   zm3 q0 (fun w' e1 q0=>by cases q0;exact S.pL e1 e fun vs n _ g rr=>⟨"list", _,(zx g).typeIs,PySem.F.slot_list_getitem.lookup,zdu S (zx g) rr (yx r2 ql) (yx r3 qh) hl⟩)
    fun f e1 q0=>by
     obtain⟨vs,g,rr,e2⟩:=S.obj j _ _ e1 e
     cases q0
     exact⟨"list", _,Heap.IsList.typeIs g,PySem.F.slot_list_getitem.lookup,zdu S g rr (yx r2 ql) (yx r3 qh) hl⟩)
end
section
variable {cx:Cx}{k:Nat}{A:Around}{env:Env}
theorem jP:SndE cx k A env (.l .none) (evalPart none env):=fun ml J v J' O s E S e=>by
 exact pG e (wpAny_pure (EPost.same S .none))
noncomputable def plainIdx (e:Expr):Bool:=!(Nat.beq e.ctorIdx 26)
theorem zdx(h:plainIdx e=true)(o i:Value):subscripted e false o i=operate [o,i] (getItem o i):=by
 cases e <;> first | rfl | (cases h)
theorem ziG{a i:ME}(ha:SndE cx k A env a (PySem.eval ra env))(hi:SndE cx k A env i (PySem.eval ri env))(hp:plainIdx ri=true):
  SndE cx k A env (.sub a i) (PySem.eval (.Subscript ra ri pos) env):=fun ml J v J' O s E S q=>by
 refine bG2 q fun va J1 q1 q=>bG2 q fun vi Ja q2 q=>bG q fun v' q3 q=>pG q (Subscript_ (jU ha hi E S q1 q2 fun x y O2 hS tk2 Sb xc r1 r2=>?_))
 exact wpA xc (zdm (s:={ s with heap:=hS,toks:=tk2 }) Sb (zdx hp) r1 r2 q3)
theorem zeX{a lo hi:ME}{l u:Option Expr}(ha:SndE cx k A env a (PySem.eval ra env))(hl:SndE cx k A env lo (evalPart l env))(hu:SndE cx k A env hi (evalPart u env)):
  SndE cx k A env (.slice a lo hi) (PySem.eval (.Subscript ra (.Slice l u none p) pos) env):=fun ml J v J' O s E S q=>by
 refine bG2 q fun va J1 q1 q=>bG2 q fun vl Ja q2 q=>bG2 q fun vu Jb q3 q4=>?_
 refine Subscript_ (wpE (ha ml J va J1 O s E S q1) fun x O1 hO tk1 Sa xa rg=>?_)
 refine wpAny_Slice (jU hl hu (E.ext xa) Sa q2 q3 fun y z O3 hU tk3 S3 xh r2 r3=>?_)
 rw[evalPart_none]
 refine wpAny_pure ?_
 obtain⟨T,id,hT,hl',hw⟩:=za2 (A:=A) (s:={ s with heap:=hU,toks:=tk3 }) S3 (xh.yR rg) r2 r3 q4
 have hT':Shared.TypeIs { s with heap:=hU.push { cls:=.type "slice", data:=.fields #[y,z,.none] },toks:=tk3 } x T:=by
  revert hT
  cases x <;> first | exact fun h=>h | skip
  rintro⟨o,a,b⟩
  exact⟨o,Heap.get?_push_of_some _ a,b⟩
 unfold subscriptTail
 have fin:wpM cx A (operate [.ref hU.objs.size,x] (getItem x (.ref hU.objs.size))) (fun r sh=>wpM cx A (letTemporaryGo ra x r >>= fun _=>pure r) (EPost cx O s J' v) sh) { s with heap:=hU.push { cls:=.type "slice", data:=.fields #[y,z,.none] },toks:=tk3 }:=
  wpAny_operating (wpAny_mono hw (fun r sh hU=>wpAny_bind (wpAny_letTemporaryGo (wpAny_pure (hU.after ((xa.trans xh).trans (Ext.push ..)))))) fun _ _ x=>x)
 refine wpAny_bind ?_
 rw[getitemInPython_of_ne hT'.not_modules]
 refine wpAny_bind (wpAny_specialOf hT' hl' ?_)
 first
  | exact wpAny_pure (wpAny_bind fin)
  | exact wpAny_bind (wpAny_pure (wpAny_bind fin))
  | exact wpAny_bind fin
theorem zhZ {p1 p2:Pos}{kk:Nat}{a:ME}(ha:SndE cx k A env a (PySem.eval ra env)):
  SndE cx k A env (.rev a) (PySem.eval (.Subscript ra (.Slice none none (some (.UnaryOp .USub (.Constant (.int 1) kk p1) p2)) p) pos) env):=fun ml J v J' O s E S q=>by
 refine bG2 q fun va J1 q1 q2=>?_
 refine Subscript_ (wpE (ha ml J va J1 O s E S q1) fun x O1 hO tk1 Sa xa rg=>?_)
 refine rR q2 rg fun i ad d e q=>qLG q fun l e0 q=>iG q fun hl q=>Sa.pL e0 e fun vs n _ g rr=>pG q ?_
 refine wpAny_Slice ?_
 rw[evalPart_none]
 refine wpAny_pure (wpAny_pure ?_)
 rw[evalPart_some]
 refine wpAny_UnaryOp (wpAny_Constant_int (PyProof.Rows.neg_int ?_))
 dsimp only
 have sz:vs.toArray.size=l.length:=by rw[List.size_toArray,rr.length]
 refine xB (s:={ s with heap:=_,toks:=_ }) (T := "list") (zx (Heap.get?_push_of_some _ g)).typeIs PySem.F.slot_list_getitem.lookup rfl ?_
 refine wpAny_getItem_list_slice (zx (Heap.get?_push_of_some _ g)) (Heap.IsSliceOf.new ..) .none .none (.int _ _) (by simp) ?_ (by rw[sz];exact zB hl)
 rw[ze8]
 exact (zY (s:={ s with heap:=hO.push _,toks:=_ }) (Sa.push _) (l:=l.reverse) (by simpa using ((Ext.push O1 hO W0 _).qi rr).reverse)).after (xa.trans (Ext.push ..))
end
noncomputable def bval (b:Bi):Value:=@Bi.casesOn (fun _=>Value) b (.builtin "len") (.builtin "min") (.builtin "max") (.builtin "abs") (.type "int") (.type "list") (.builtin "sorted") (.builtin "ord") (.builtin "chr") (.type "str") (.builtin "all")
theorem zdY:(List.range 128).all (fun n=>decide ((Str.ofString (toString (n:Int)))=toS (digits 4 n)))=true:=by decide +kernel
section
variable {cx:Cx}{O:Rho}{J:Hp}{s:Shared}{A:Around}{k:Nat}
theorem yX {l:List MV}{vs:Array Value}(S:Sim cx O J s.heap)(kk:∀ b o,s.heap.get? b=some o->h'.get? b=some o)(hs:s.heap.objs.size<=h'.objs.size){D:Addr}(hD:s.heap.objs.size<=D)
  (g:h'.get? D=some { cls:=.type "list", data:=.seq vs c }) (r:zc O s.heap l vs.toList):EPost cx O s (J ++ [.list l]) (.ref J.length) (.ref D) { s with heap:=h',toks:=tk }:=by
 obtain⟨S',x⟩:=zZ S kk hs
 have n:¬ inR O D:=fun q=>Nat.lt_irrefl _ (Nat.lt_of_lt_of_le (S.lt q) hD)
 obtain⟨a,b,e,_⟩:=S'.adopt x (p:=(D,D)) (o:=.list l) ⟨vs.toList,c,by simpa using g,x.qi r,rfl⟩ n n hD hD S.size
 exact⟨_,h',tk,rfl,a,b,.ref e⟩
theorem ziv (S:Sim cx O J s.heap)(kk:∀ b o,s.heap.get? b=some o->h'.get? b=some o)(hs:s.heap.objs.size<=h'.objs.size)(r:zp O s.heap m v):EPost cx O s J m v { s with heap:=h',toks:=tk }:=by
 obtain⟨S',x⟩:=zZ S kk hs
 exact⟨_,h',tk,rfl,S',x,x.yR r⟩
theorem ziN {T:Type}[DecidableEq T]{knd:PySem.KeyKind cx.prog cx.w T}{enc:T->MV}(he:∀ (O:Rho) (h:Heap) k v,knd.is k v=true->zp O h (enc k) v){kvs:List (T×Value)}(r:z8 enc O h l kvs):
  ∀ {acc:Array Value} , ItemsOf (fun i v=>∃ k x,kvs[i]?=some (k,x)/\knd.is k v=true) acc kvs.length->zc O h (l.map (·.1)) acc.toList:=by
 intro acc ⟨h1,h2⟩
 have:∀ (l:List (MV×MV)) (kvs:List (T×Value)) (vs:List Value),z8 enc O h l kvs->vs.length=kvs.length->(∀ (j:Nat) v,vs[j]?=some v->∃ k x,kvs[j]?=some (k,x)/\knd.is k v=true)->zc O h (l.map (·.1)) vs:=by
  intro l kvs vs r
  induction r generalizing vs with
  | nil=>intro hl _;cases vs with | nil=>exact .nil | cons _ _=>cases hl
  | @cons k m v l kvs b r ih=>
   intro hl hv
   cases vs with
   | nil=>cases hl
   | cons u us=>
    refine .cons ?_ (ih us (by simpa using hl) fun j w e=>by simpa using hv (j+1) w (by simpa using e))
    obtain⟨k',x,e1,e2⟩:=hv 0 u rfl
    cases e1
    exact he _ _ _ _ e2
 exact this l kvs acc.toList r (by simpa using h1) fun j v e=>h2 j v (by simpa using e)
theorem zhz (O:Rho)(h:Heap)(k:Str)(v:Value)(e:(PySem.strKind cx.prog cx.w).is k v=true):zp O h (encS k) v:=by
 cases v with
 | str x t=>
  obtain rfl:x=k:=by simpa[PySem.strKind,Value.isStrOf] using e
  exact (.str _ _:zp O h (.str x.cps.toList) (.str (toS x.cps.toList) t))
 | _=>exact ff e
theorem ziK (O:Rho)(h:Heap)(k:Int)(v:Value)(e:(PySem.intKind cx.prog cx.w).is k v=true):zp O h (encI k) v:=by
 cases v with
 | int x t=>
  obtain rfl:x=k:=by simpa[PySem.intKind,Value.isInt] using e
  exact .int _ _
 | _=>exact ff e
theorem zaB{l:List MV}{ws:List Value}{n:Nat}(S:Sim cx O J s.heap)(g:s.heap.get? a=some { cls:=.type "list", data:=.seq (List.toArray ws) n }) (rr:zc O s.heap l ws) (hl:l.length<=1000000):wpM cx A (call (bval .list) [.ref a]) (EPost cx O s (J ++ [.list l]) (.ref J.length)) s:=by
 refine zy (Nat.le_refl _) (call_list_seq a (.inl rfl) g rfl rfl (fun h' c' kk g' hs=>?_) (by rw[List.size_toArray,<- rr.length];exact zB hl))
 exact yX (tk:=s.toks) S kk hs (Nat.le_refl _) g' rr
theorem zas (B:Base cx)(S:Sim cx O J s.heap)(R:xd A k){i:Nat}(m:J[i]?=some (.dict l))(e:O[i]?=some (a,a))(rr:xU cx O s.heap a l)(hl:l.length<=1000000):wpM cx A (call (bval .list) [.ref a]) (EPost cx O s (J ++ [.list (l.map (·.1))]) (.ref J.length)) s:=by
 have go:∀ {T:Type} [DecidableEq T] {knd:PySem.KeyKind cx.prog cx.w T} {enc:T->MV} {kvs:List (T×Value)},(∀ (O:Rho) (h:Heap) k v,knd.is k v=true->zp O h (enc k) v)->s.heap.DictOf knd a kvs->z8 enc O s.heap l kvs->wpM cx A (call (bval .list) [.ref a]) (EPost cx O s (J ++ [.list (l.map (·.1))]) (.ref J.length)) s:=by
  intro T _ knd enc kvs he d p
  obtain⟨ep,da⟩:=d.dictAt
  refine zy (Nat.le_refl _) (kdl_call (kdl_dict (xK S B.big m e)) R.hd da (by rw[<- p.length];exact zB hl) fun h' tk acc' c' kk g' it hs=>?_)
  exact yX S kk hs (Nat.le_refl _) g' (ziN he p it)
 rcases rr with⟨kvs,d,p⟩ | ⟨kvs,d,p⟩
 ·exact go zhz d p
 ·exact go ziK d p
theorem zam {i:Int}{t:Tok}(S:Sim cx O J s.heap)(h1:0<=i)(h2:i < 128):wpM cx A (call (bval .str) [.int i t]) (EPost cx O s J (.str (digits 4 i.toNat))) s:=by
 have h3:i.natAbs < 128:=by omega
 refine PySem.P.str_of_int ?_ ?_
 ·by_cases h0:i.natAbs=0
  ·rw[h0];decide +kernel
  ·exact Nat.lt_trans ((Nat.log2_lt h0).mpr (show i.natAbs < 2 ^ 7 from h3)) (by decide)
 ·have:=List.all_eq_true.mp zdY i.toNat (List.mem_range.mpr (by omega))
  rw[show ((i.toNat:Nat):Int)=i from Int.toNat_of_nonneg h1] at this
  rw[of_decide_eq_true this]
  exact EPost.now S (.str _ _)
theorem all_empty{n:Nat}(S:Sim cx O J s.heap)(R:xd A k)(g:s.heap.get? a=some { cls:=.type "list", data:=.seq (List.toArray []) n }):wpM cx A (call (bval .all) [.ref a]) (EPost cx O s J (.bool true)) s:=by
 refine zy (Nat.le_refl _) (call_all_walk (wpAny_pyIter_list (zx g) ?_))
 refine⟨_,_,_,0,_,_,fun _=>true,rfl,Walks.list (A:=A.in1) R.hd s.heap.objs.size a (Nat.ne_of_lt (Heap.lt_size g)) #[],⟨⟨_,Heap.get?_push_size _ rfl,rfl,rfl⟩,zx (Heap.get?_push_of_some _ g)⟩,fun i v s Q E hP=>absurd hP (by simp),fun h' tk kk hs=>?_⟩
 refine ziv S (fun b o e=>kk b o (fun hm=>?_) (Heap.get?_push_of_some _ e)) hs (.bool _)
 have:=Heap.lt_size e
 rw[List.mem_singleton.mp hm] at this;exact Nat.lt_irrefl _ this
theorem zgX{c:Prop}[Decidable c]{a b:Int}{t u:Tok}:zp O h (.int (if c then a else b)) (if c then .int a t else .int b u):=by split <;> exact .int _ _
theorem j9 (B:Base cx)(S:Sim cx O J s.heap)(R:xd A k){b:Bi}{vs:List MV}{v:MV}(r:zc O s.heap vs vals)(hb:b≠.sorted)(q:Mine.callB b vs J=some (v,J')):wpM cx A (call (bval b) vals) (EPost cx O s J' v) s:=by
 cases b with
 | len=>
  exact w1R q r fun v x rx q=>rSR q rx (fun w t q=>iG q fun hl q=>pG q (len_str (by rw[zE];omega) (by rw[zE];exact EPost.now S (.int _ _))))
   fun i a d e q=>qLG q fun l e0 q=>iG q fun hl q=>S.pL e0 e fun ws n _ g rr=>pG q (len_list (zx g) (by rw[List.size_toArray,<- rr.length];omega) (by rw[List.size_toArray,<- rr.length];exact EPost.now S (.int _ _)))
 | min=>exact w2R q r fun v w x y rx ry q=>rI q rx fun i t q=>rI q ry fun j u q=>pG q (zy (Nat.le_refl _) (min_two_ints R.hd fun h' tk kk hs=>ziv S kk hs zgX))
 | max=>exact w2R q r fun v w x y rx ry q=>rI q rx fun i t q=>rI q ry fun j u q=>pG q (zy (Nat.le_refl _) (max_two_ints R.hd fun h' tk kk hs=>ziv S kk hs zgX))
 | abs=>
  refine w1R q r fun v x rx q=>rI q rx fun a t q=>pG q (call_abs_int fun u tk=>?_)
  rw[show (if a < 0 then -a else a)=(a.natAbs:Int) by split <;> omega]
  exact EPost.now S (.int _ _)
 | int=>exact w1R q r fun v x rx q=>rBI q rx (fun b q=>pG q (call_int_bool (EPost.now S (.int _ _)))) fun i t q=>pG q (call_int_int (EPost.same S (.int _ _)))
 | list=>exact w1R q r fun v x rx q=>rR q rx fun i a d e q=>zj6 q (fun l e0 q=>iG q fun hl q=>S.pL e0 e fun ws n _ g rr=>pG q (zaB S g rr hl)) fun l e0 q=>iG q fun hl q=>S.pD e0 e fun de rr=>pG q (zas B S R e0 (de ▸ e) rr hl)
 | sorted=>exact absurd rfl hb
 | ord=>exact w1R q r fun v x rx q=>rS q rx fun w t q=>a1G (P:=fun w=>wpM cx A (call (bval .ord) [.str (toS w) t]) (EPost cx O s J' _) s) q fun c q=>pG q (PySem.P.ord_of_char (EPost.now S (.int _ _)))
 | chr=>
  refine w1R q r fun v x rx q=>rI q rx fun i t q=>iG q fun hi q=>?_
  have hi:=Bool.and_eq_true_iff.mp hi
  have h1:=of_decide_eq_true hi.1
  have h2:=of_decide_eq_true hi.2
  exact pG q (chr_of_range (by omega) (by omega) (EPost.now S (.str [i.toNat] _)))
 | str=>
  refine w1R q r fun v x rx q=>rI q rx fun i t q=>iG q fun hi q=>?_
  have hi:=Bool.and_eq_true_iff.mp hi
  exact pG q (zam S (of_decide_eq_true hi.1) (of_decide_eq_true hi.2))
 | all=>
  refine w1R q r fun v x rx q=>rR q rx fun i a d e q=>qLG q fun l e0 q=>S.pL e0 e fun ws n _ g rr=>?_
  revert rr
  refine aNG q fun q rr=>?_
  revert g
  exact wNil rr fun g=>pG q (all_empty S R g)
end
theorem zjJ:(List.range 128).all (fun c=>Unicode.isAlnum c == isAlnumC c && decide (Unicode.upperOf c=[upC c]) && decide (Unicode.lowerOf c=[loC c]))=true:=by decide +kernel
theorem zck(h:c < 128):Unicode.isAlnum c=isAlnumC c/\Unicode.upperOf c=[upC c]/\Unicode.lowerOf c=[loC c]:=by
 have:=List.all_eq_true.mp zjJ c (List.mem_range.mpr h)
 simp only[Bool.and_eq_true,beq_iff_eq,decide_eq_true_eq] at this
 exact⟨this.1.1,this.1.2,this.2⟩
theorem yZ {s:List Nat}(h:ascii s=true)(hc:c∈s):c < 128:=by
 have:=List.all_eq_true.mp h c hc
 rwa [Nat.blt_eq] at this
theorem zgb {s:List Nat}(h:ascii s=true):Txt.isalnum (toS s)=(!s.isEmpty && s.all isAlnumC):=by
 unfold Txt.isalnum
 rw[zE]
 have e:(toS s).cps.all Unicode.isAlnum=s.all isAlnumC:=by
  show s.toArray.all _=_
  rw[<- Array.all_toList]
  rw[Bool.eq_iff_iff,List.all_eq_true,List.all_eq_true]
  exact⟨fun q c hc=>(zck (yZ h hc)).1 ▸ q c hc,fun q c hc=>(zck (yZ h hc)).1.symm ▸ q c hc⟩
 rw[e]
 cases s <;> simp
theorem zbR (g:Nat->Nat):∀ s:List Nat,(s.map fun c=>[g c]).flatten=s.map g
 | []=>rfl
 | c :: s=>by simp[zbR g s]
theorem jG {s:List Nat}{f:Nat->Nat->List Nat}(h:∀ i c,s[i]?=some c->f i c=[g c]):placed (toS s) f=(s.map g).toArray:=by
 unfold placed
 have:(toS s).cps.mapIdx (fun i c=>(f i c).toArray)=(s.map fun c=>#[g c]).toArray:=by
  apply Array.ext
  ·simp[toS]
  ·intro i h1 h2
   simp only[Array.getElem_mapIdx,toS]
   have hi:i < s.length:=by simpa using h2
   have e:=h i s[i] (List.getElem?_eq_getElem hi)
   simp[e]
 rw[this]
 apply Array.toList_inj.mp
 rw[Array.toList_flatten]
 simp only[List.map_map]
 exact zbR g s
theorem zcl {s:List Nat}(h:ascii s=true):Txt.upper (toS s)=toS (s.map upC):=by
 unfold Txt.upper
 rw[jG (g:=upC) fun i c e=>(zck (yZ h (List.mem_of_getElem? e))).2.1];rfl
theorem zb9 {s:List Nat}(h:ascii s=true):Txt.lower (toS s)=toS (s.map loC):=by
 unfold Txt.lower
 rw[jG (g:=loC) fun i c e=>?_];rfl
 have hc:=yZ h (List.mem_of_getElem? e)
 unfold Unicode.lowerAt
 have e':(toS s).cps[i]?=some c:=by simpa[toS] using e
 rw[e']
 dsimp only
 have:(c == 0x3A3)=false:=by simp;lia
 rw[this]
 simp only[Bool.false_and,Bool.false_eq_true,if_false]
 exact (zck hc).2.2
theorem kO (sep:Str):∀ (l:List (List Nat)) (acc:List Nat),((l.map toS).foldl (fun acc p=>acc ++ sep.cps ++ p.cps) acc.toArray)=(acc ++ (l.map fun s=>sep.cps.toList ++ s).flatten).toArray
 | []=>fun acc=>by simp
 | s :: l=>fun acc=>by
  rw[List.map_cons,List.foldl_cons]
  have:acc.toArray ++ sep.cps ++ (toS s).cps=(acc ++ sep.cps.toList ++ s).toArray:=by
   apply Array.toList_inj.mp;simp[toS]
  rw[this,kO sep l]
  simp
theorem jr (sep:List Nat):∀ (s:List Nat) (l:List (List Nat)),joinS sep (s :: l)=s ++ (l.map fun s=>sep ++ s).flatten
 | s,[]=>(List.append_nil s).symm
 | s,u :: l=>by
  rw[zj5,jr sep u l]
  simp
theorem ziL (sep:List Nat):∀ ss:List (List Nat),Txt.join (toS sep) (ss.map toS)=toS (joinS sep ss)
 | []=>rfl
 | s :: l=>by
  unfold Txt.join Builtin.Str.glued
  simp only[List.map_cons,List.drop_succ_cons,List.drop_zero,List.headD_cons]
  have:=kO (toS sep) l s
  show (⟨_⟩:Str)=_
  rw[show (toS s).cps=s.toArray from rfl,this,jr]
  rfl
theorem zfB (sep:List Nat)(ss:List (List Nat))(h:ss.foldl (fun n s=>n+s.length+sep.length) 0<=1000000):JoinOk (toS sep) (ss.map toS)=true:=by
 unfold JoinOk
 have e:∀ (l:List (List Nat)) (n:Nat),((l.map toS).toArray.foldl (fun n s=>n+s.length+(toS sep).length) n)=l.foldl (fun n s=>n+s.length+sep.length) n:=by
  intro l
  induction l with
  | nil=>intro n;rfl
  | cons s l ih=>
   intro n
   have:=ih (n+s.length+sep.length)
   simp only[List.foldl_toArray,zE] at this ⊢
   rw[List.map_cons,List.foldl_cons,List.foldl_cons,zE]
   exact this
 rw[e]
 have:Builtin.Str.tooLong (ss.foldl (fun n s=>n+s.length+sep.length) 0)=false:=by
  unfold Builtin.Str.tooLong
  rw[decide_eq_false_iff_not,sizeLine_eq];exact Nat.not_lt_of_le (Nat.le_trans h (by decide))
 rw[this];rfl
noncomputable def mbName:Mb->Str
 | .append => "append"
 | .extend => "extend"
 | .pop => "pop"
 | .get => "get"
 | .join => "join"
 | .isalnum => "isalnum"
 | .upper => "upper"
 | .lower => "lower"
inductive tyT:Nat->String->Prop
 | s:tyT 1 "str"
 | l:tyT 2 "list"
 | d:tyT 3 "dict"
theorem tyT.z {P:Prop}(h:tyT 0 T):P:=by cases h
theorem tyT.i {n:Nat}{T':String}(h:tyT n T)(h':tyT n T'):T=T':=by cases h <;> cases h' <;> rfl
structure zkZ (m:Mb)(ty:Nat)(T id:String):Prop where
 ty:tyT ty T
 pa:PlainAttrs T
 slot:Slot T (mbName m) id
 md:typeOf (.builtin id)=pure (.type "method_descriptor")
section
variable {cx:Cx}{O:Rho}{J:Hp}{s:Shared}{A:Around}{k:Nat}
theorem xU.plain(r:xU cx O h a l):∃ o,h.get? a=some o/\o.dict=none:=by
 obtain⟨es,n,g⟩:=r.obj;exact⟨_,g,rfl⟩
structure zk2 (s:Shared)(v:Value)(T:String):Prop where
 t:s.TypeIs v T
 p:∀ a,v=.ref a->∃ o,s.heap.get? a=some o/\o.dict=none
theorem zk2.r{o:Obj}(t:s.TypeIs (.ref a) T)(g:s.heap.get? a=some o)(d:o.dict=none):zk2 s (.ref a) T:=⟨t,fun b e=>by cases e;exact⟨_,g,d⟩⟩
theorem zjP (S:Sim cx O J s.heap){i:Nat}{d:Addr}(e:O[i]?=some (a,d)):∀ {o:Option za},J[i]?=o->tyT (tyO o) T->zk2 s (.ref a) T
 | .none=>fun _ h=>h.z
 | some (.list _)=>fun m h=>S.pL m e fun ws n _ g _=>by cases h;exact .r (zx g).typeIs g rfl
 | some (.dict _)=>fun m h=>S.pD m e fun _ r=>by
  cases h
  obtain⟨o,g,d⟩:=r.plain
  exact .r r.typeIs g d
 | some (.inst _ _)=>fun _ h=>h.z
 | some .hid=>fun _ h=>h.z
 | some (.frz _)=>fun _ h=>h.z
theorem zl1 (S:Sim cx O J s.heap)(r:zp O s.heap m v)(h:tyT (tyOf m J) T):zk2 s v T:=by
 cases r with
 | str x t=>cases (show tyT 1 T from h);exact⟨typeIs_str s _ t,fun _ e=>nomatch e⟩
 | ref e=>exact zjP S e rfl h
 | _=>exact tyT.z h
theorem yU (S:Sim cx O J s.heap){i:Nat}{l l':List MV}{vs vs':List Value}{n:Nat}{f:Array Value->Array Value}(e:J[i]?=some (.list l))(e2:O[i]?=some (a,a))
  (g:s.heap.get? a=some { cls:=.type "list", data:=.seq (List.toArray vs) n }) (hf:f vs.toArray=vs'.toArray) (r:zc O s.heap l' vs') {m:MV} {v:Value} (rv:zp O s.heap m v) {tk:Tok}:
  EPost cx O s (J.set i (.list l')) m v { s with heap:=s.heap.update a (Obj.mapSeq f),toks:=tk }:=by
 have g':∃ n',(s.heap.update a (Obj.mapSeq f)).get? a=some { cls:=.type "list", data:=.seq (List.toArray vs') n' }:=by
  refine⟨if vs'.toArray.size == vs.toArray.size then n else n+1,?_⟩
  rw[Heap.get?_update_self _ g (by rfl)]
  show some ({ cls:=.type "list", data:=.seq (f vs.toArray) (if (f vs.toArray).size == vs.toArray.size then n else n+1) }:Obj)=_
  rw[hf]
 obtain⟨n',g'⟩:=g'
 obtain⟨a1,b1⟩:=S.update (h':=s.heap.update a (Obj.mapSeq f)) (o':=.list l') e e2 (by rw[Heap.size_after_update]) (fun b h1 _=>Heap.get?_update_other _ _ (Ne.symm h1)) fun x=>⟨vs',n',g',x.qi r,rfl⟩
 exact⟨O,_,tk,rfl,a1,b1,b1.yR rv⟩
theorem qG (S:Sim cx O J s.heap){i:Nat}(e:J[i]?=some (.dict l))(e2:O[i]?=some (a,a))(hs:Heap.SameBut a s.heap h')(rv:zp O s.heap m v)(r:Ext O s.heap W0 O h'->xU cx O h' a l'):
  EPost cx O s (J.set i (.dict l')) m v { s with heap:=h',toks:=tk }:=by
 obtain⟨a1,b1⟩:=S.update (o':=.dict l') e e2 hs.1 (fun b h1 _=>hs.2 b h1) fun x=>⟨rfl,r x⟩
 exact⟨O,_,tk,rfl,a1,b1,b1.yR rv⟩
theorem zeb:∀ {l:List MV} {ss:List (List Nat)} {vs:List Value},strsOf l=some ss->zc O s.heap l vs->∃ ps:List (Str×Tok),vs=strValues ps/\ps.map (·.1)=ss.map toS
 | [],ss,vs,e,r=>by cases r;cases e;exact⟨[],rfl,rfl⟩
 | m :: l,ss,vs,e,r=>by
  refine wCons r fun x xs a r=>rS e a fun w t e=>bG e fun ss' e' e=>sG e ?_
  obtain⟨ps,rfl,e2⟩:=zeb e' r
  exact⟨(_,t) :: ps,rfl,by rw[List.map_cons,e2];rfl⟩
theorem zct (vs:List Value):(vs.toArray.eraseIdxIfInBounds (vs.toArray.size - 1))=vs.dropLast.toArray:=by
 unfold Array.eraseIdxIfInBounds
 split
 ·rename_i h
  apply Array.toList_inj.mp
  rw[Array.toList_eraseIdx]
  show vs.eraseIdx (vs.length - 1)=vs.dropLast
  exact List.eraseIdx_length_sub_one
 ·rename_i h
  cases vs with
  | nil=>rfl
  | cons _ _=>simp at h
theorem zc.dropLast{l:List MV}{vs:List Value}(r:zc O h l vs):zc O h l.dropLast vs.dropLast:=by
 rw[List.dropLast_eq_take,List.dropLast_eq_take,r.length];exact r.take _
theorem zc.last{l:List MV}{vs:List Value}(r:zc O h l vs)(e:l.getLast?=some m):∃ v,vs.toArray[vs.toArray.size - 1]?=some v/\zp O h m v:=by
 rw[List.getLast?_eq_getElem?] at e
 obtain⟨v,hv,rv⟩:=r.get e
 exact⟨v,by rw[List.size_toArray,<- r.length];simpa using hv,rv⟩
theorem zbU {i:Nat}(S:Sim cx O J s.heap)(e:J[i]?=some (.dict l))(e2:O[i]?=some (a,a))(rr:xU cx O s.heap a l)(f:keyFits kk l=true)(ry:zp O s.heap kk y)(hz:l.length<=1000000)
  {m:MV} {rest:List Value} (hrest:rest=[]∨∃ d,rest=[d]):dlk kk l=some m->argsOk "dict.pop" ⟨.ref a :: y :: rest,[]⟩->wpM cx A (call (.builtin "dict.pop") (.ref a :: y :: rest)) (EPost cx O s (J.set i (.dict (ddel kk l))) m) s:=
 keyR f rr ry
  (fun n t kvs d p hm ha=>p.at (fun x=>yC x n) hm fun v hv rv=>call_meetsIn PySem.F.slot_dict_pop d.typeIs PySem.F.entry_dict_pop ha (meets_dict_pop_there _ a (intKind_is n t) rest hrest rfl) ⟨kvs,v,d,by rw[<- p.length];exact zB hz,hv,
   fun h' hd hs=>qG S e e2 hs rv fun x=>.inr ⟨_,hd,(p.grow (x.gr (WOk.w0 _))).del (fun z=>yC z n)⟩⟩)
  fun n t kvs d p hm ha=>p.at (k:=toS n) (fun x=>z7 x n) hm fun v hv rv=>call_meetsIn PySem.F.slot_dict_pop d.typeIs PySem.F.entry_dict_pop ha (meets_dict_pop_there _ a (strKind_is n t) rest hrest rfl) ⟨kvs,v,d,by rw[<- p.length];exact zB hz,hv,
   fun h' hd hs=>qG S e e2 hs rv fun x=>.inl ⟨_,hd,(p.grow (x.gr (WOk.w0 _))).del (fun z=>z7 z n)⟩⟩
theorem z8.none {K:Type}[DecidableEq K]{enc:K->MV}{kvs:List (K×Value)}{k:K}(p:z8 enc O h l kvs)(hb:∀ x,(enc x).beq key=decide (x=k))(e:dlk key l=.none):valueAt kvs k=.none:=by
 have:=p.look hb
 rwa [e] at this
theorem z8.get {K:Type}[DecidableEq K]{enc:K->MV}{kvs:List (K×Value)}{k:K}(p:z8 enc O h l kvs)(hb:∀ x,(enc x).beq key=decide (x=k)):zp O h ((dlk key l).getD .none) ((valueAt kvs k).getD .none):=by
 cases e:dlk key l with
 | none=>rw[p.none hb e];exact .none
 | some m=>exact p.at hb e fun v hv rv=>by rw[hv];exact rv
theorem j5(S:Sim cx O J s.heap)(ns:(a == sysModules)=false)(rr:xU cx O s.heap a l)(f:keyFits kk l=true)(ry:zp O s.heap kk y):
  dlk kk l=.none->wpM cx A (call (.builtin "dict.pop") [.ref a,y,.none]) (EPost cx O s J .none) s:=
 keyR f rr ry
  (fun n t kvs d p hm=>call_meetsIn PySem.F.slot_dict_pop d.typeIs PySem.F.entry_dict_pop (PySem.F.args_dict_pop_3 _ _ _) (meets_dict_pop_default _ a (intKind_is n t) ns rfl _) ⟨kvs,d,p.none (fun x=>yC x n) hm,EPost.now S .none⟩)
  fun n t kvs d p hm=>call_meetsIn PySem.F.slot_dict_pop d.typeIs PySem.F.entry_dict_pop (PySem.F.args_dict_pop_3 _ _ _) (meets_dict_pop_default _ a (strKind_is n t) ns rfl _) ⟨kvs,d,p.none (k:=toS n) (fun x=>z7 x n) hm,EPost.now S .none⟩
theorem zfX(S:Sim cx O J s.heap)(ns:(a == sysModules)=false)(rr:xU cx O s.heap a l)(f:keyFits kk l=true)(ry:zp O s.heap kk y):
  wpM cx A (call (.builtin "dict.get") [.ref a,y,.none]) (EPost cx O s J ((dlk kk l).getD .none)) s:=
 keyR f rr ry
  (fun n t kvs d p=>call_meetsIn PySem.F.slot_dict_get d.typeIs PySem.F.entry_dict_get (PySem.F.args_dict_get_3 _ _ _) (meets_dict_get_default _ a (intKind_is n t) ns _) ⟨_,d.mapOf,EPost.now S (p.get fun x=>yC x n)⟩)
  fun n t kvs d p=>call_meetsIn PySem.F.slot_dict_get d.typeIs PySem.F.entry_dict_get (PySem.F.args_dict_get_3 _ _ _) (meets_dict_get_default _ a (strKind_is n t) ns _) ⟨_,d.mapOf,EPost.now S (p.get (k:=toS n) fun x=>z7 x n)⟩
inductive zfK (m:Mb)(ty:Nat)(W:String->Prop):Prop
 | mk {T id:String} (h:zkZ m ty T id) (w:W id):zfK m ty W
theorem zfK.L {m:Mb}{i:Nat}{l:List MV}{W:String->Prop}(e:J[i]?=some (.list l))(s1:Slot "list" (mbName m) id) (s2:typeOf (.builtin id)=pure (.type "method_descriptor")) (w:W id):zfK m (tyOf (.ref i) J) W:=
 ⟨⟨by show tyT (tyO J[i]?) _;rw[e];exact .l,PySem.F.plainAttrs_list,s1,s2⟩,w⟩
theorem zfK.D {m:Mb}{i:Nat}{W:String->Prop}(e:J[i]?=some (.dict l))(s1:Slot "dict" (mbName m) id) (s2:typeOf (.builtin id)=pure (.type "method_descriptor")) (w:W id):zfK m (tyOf (.ref i) J) W:=
 ⟨⟨by show tyT (tyO J[i]?) _;rw[e];exact .d,PySem.F.plainAttrs_dict,s1,s2⟩,w⟩
theorem zfK.S {m:Mb}{W:String->Prop}{x:List Nat}(s1:Slot "str" (mbName m) id) (s2:typeOf (.builtin id)=pure (.type "method_descriptor")) (w:W id):zfK m (tyOf (.str x) J) W:=
 ⟨⟨.s,PySem.F.plainAttrs_str,s1,s2⟩,w⟩
theorem zbF {f:Str}{n:Nat}(e:f.length=n)(h:n<=1000000):Builtin.Str.tooLong f.length=false:=by
 unfold Builtin.Str.tooLong
 rw[e,decide_eq_false_iff_not]
 exact Nat.not_lt_of_le (zB h)
theorem za3 (B:Base cx)(S:Sim cx O J s.heap){m:Mb}{recv v:MV}{vs:List MV}{ov:Value}(rr:zp O s.heap recv ov)(r:zc O s.heap vs vals)(q:Mine.methB m recv vs J=some (v,J')):
  zfK m (tyOf recv J) fun id=>wpM cx A (call (.builtin id) (ov :: vals)) (EPost cx O s J' v) s:=by
 revert rr
 cases m with
 | append=>
  exact eRG q fun i q rr=>vRe rr fun a d e1=>w1R q r fun v x rx q=>qLG q fun l e q=>iG q fun hl q=>pG q (S.pL e e1 fun ws n de g rw'=>.L e PySem.F.slot_list_append PySem.F.type_list_append
   (call_meets PySem.F.slot_list_append (zx g).typeIs PySem.F.entry_list_append (PySem.F.args_list_append_2 _ _) (PySem.list_append a ws.toArray n x (by rw[List.size_toArray,<- rw'.length];exact zB hl)) ⟨g,
    yU S e (de ▸ e1) g (vs':=ws ++ [x]) (by simp) (rw'.append (.cons rx .nil)) .none⟩))
 | extend=>
  exact eRG q fun i q rr=>vRe rr fun a d e1=>w1R q r fun v x rx q=>rR q rx fun j b d' e1' q=>qLG q fun l e q=>qLG q fun l2 e' q=>iG q fun hl q=>pG q (S.pL e e1 fun ws n de g rw'=>S.pL e' e1' fun ws2 n2 _ g2 rw2=>.L e PySem.F.slot_list_extend PySem.F.type_list_extend
   (have hz:ws.toArray.size+ws2.toArray.size<=sizeLine:=by rw[List.size_toArray,List.size_toArray,<- rw'.length,<- rw2.length];exact zB hl.2
    call_meets PySem.F.slot_list_extend (zx g).typeIs PySem.F.entry_list_extend (PySem.F.args_list_extend_2 _ _) (AutoSeq1.list_extend_list_list_0 a ws.toArray n b ws2.toArray n2 (extend_door hz) (by lia) (by lia)) ⟨g,g2,
    yU S e (de ▸ e1) g (vs':=ws ++ ws2) (by simp) (rw'.append rw2) .none⟩))
 | pop=>
  refine eRG q fun i q rr=>vRe rr fun a d e1=>wXR q r (fun q=>qLG q fun l e q=>iG q fun hl q=>bG q fun z hx q=>pG q (S.pL e e1 fun ws n de g rw'=>.L e PySem.F.slot_list_pop PySem.F.type_list_pop ?_))
   fun kk rest x xs rx rs q=>wXR q rs (fun q=>qDG q fun l e q=>iG q fun hl q=>bG q fun z hx q=>pG q (S.pD e e1 fun de rd=>.D e PySem.F.slot_dict_pop PySem.F.type_dict_pop ?_))
   fun d' rest x' xs' rx' rs' q=>w0R q rs' fun q=>?_
  ·obtain⟨y,hy,ry⟩:=rw'.last hx
   exact call_meets PySem.F.slot_list_pop (zx g).typeIs PySem.F.entry_list_pop (PySem.F.args_list_pop_1 _) (PySem.MeetsSeq.list_pop_last a ws.toArray n y hy (by rw[List.size_toArray,<- rw'.length];exact zB hl)) ⟨g,
    yU S e (de ▸ e1) g (vs':=ws.dropLast) (zct ws) rw'.dropLast ry⟩
  ·have hl:=Bool.and_eq_true_iff.mp hl
   exact zbU S e (de ▸ e1) rd hl.1 rx (of_decide_eq_true hl.2) (.inl rfl) hx (PySem.F.args_dict_pop_2 _ _)
  ·revert rx'
   refine eNG q fun q rx'=>vNo rx' (qDG q fun l e q=>iG q fun hl q=>S.pD e e1 fun de rd=>.D e PySem.F.slot_dict_pop PySem.F.type_dict_pop ?_)
   have hl:=Bool.and_eq_true_iff.mp hl
   cases hx:dlk kk l with
   | none=>rw[hx] at q;exact pG q (j5 S (xK S B.big e (de ▸ e1)) rd hl.1 rx hx)
   | some z=>rw[hx] at q;exact pG q (zbU S e (de ▸ e1) rd hl.1 rx (of_decide_eq_true hl.2) (.inr ⟨_,rfl⟩) hx (PySem.F.args_dict_pop_3 _ _ _))
 | get=>
  refine eRG q fun i q rr=>vRe rr fun a d e1=>w2R q r fun kk d' x y rx ry q=>?_
  revert ry
  exact eNG q fun q ry=>vNo ry (qDG q fun l e q=>iG q fun f q=>pG q (S.pD e e1 fun de rd=>.D e PySem.F.slot_dict_get PySem.F.type_dict_get (zfX S (xK S B.big e (de ▸ e1)) rd f rx)))
 | join=>
  refine eSG q fun sep q rr=>vSt rr fun t=>w1R q r fun v x rx q=>rR q rx fun i a d e1 q=>qLG q fun l e q=>bG q fun ss hss q=>iG q fun hl q=>pG q (.S PySem.F.slot_str_join PySem.F.type_str_join ?_)
  refine S.pL e e1 fun ws n _ g rw'=>?_
  obtain⟨ps,rfl,eps⟩:=zeb hss rw'
  refine PySem.SC.join (zx g) eps (zfB sep ss hl) fun t' kk=>?_
  rw[ziL]
  exact EPost.now S (.str _ _)
 | isalnum=>
  refine eSG q fun x q rr=>vSt rr fun t=>w0R q r fun q=>iG q fun hl q=>pG q (.S PySem.F.slot_str_isalnum PySem.F.type_str_isalnum (PySem.SC.isalnum ?_))
  rw[zgb hl]
  exact EPost.same S (.bool _)
 | upper=>
  refine eSG q fun x q rr=>vSt rr fun t=>w0R q r fun q=>iG q fun hl q=>pG q (.S PySem.F.slot_str_upper PySem.F.type_str_upper (PySem.SC.upper ?_ ?_))
  ·exact zbF (by rw[zcl hl.1,zE,List.length_map]) hl.2
  ·rw[zcl hl.1];exact EPost.now S (.str _ _)
 | lower=>
  refine eSG q fun x q rr=>vSt rr fun t=>w0R q r fun q=>iG q fun hl q=>pG q (.S PySem.F.slot_str_lower PySem.F.type_str_lower (PySem.SC.lower ?_ ?_))
  ·exact zbF (by rw[zb9 hl.1,zE,List.length_map]) hl.2
  ·rw[zb9 hl.1];exact EPost.now S (.str _ _)
end
section
variable {prog:Program}{w:World}{A:Around}{E:Value->Shared->Prop}{s:Shared}
theorem zge {l:Addr}{n:Nat}{k:Int}{t:Tok}{Q:Unit->Shared->Prop}(g:s.heap.get? l=some { cls:=.type "list", data:=.seq items n })
  (h0:0<=k) (hfit:k < 2 ^ 63) (hn:k.toNat < items.size) (hQ:Q () { s with heap:=s.heap.update l (Obj.mapSeq (·.setIfInBounds k.toNat v)) }):wpAny (model prog w) A (setItem (.ref l) (.int k t) v) Q E s:=by
 have hl:=zx g
 unfold setItem
 try with_reducible refine wpAny_holding ?_
 first | refine wpAny_bind (wpAny_pure ?_) | skip
 refine wpAny_bind (wpAny_sequenceKey hl.typeIs (by decide) ?_)
 refine wpAny_bind (wpAny_callSpecial?_slot (name:=Str.ofString "__setitem__") hl.typeIs PySem.F.slot_list_setitem
  (wpAny_call_entry PySem.F.slot_list_setitem hl.typeIs PySem.F.entry_list_setitem ?_ (PySem.F.args_list_setitem_3 _ _ _)))
 show wpAny _ _ (Builtin.List.listSubscript? (.int k t) >>= _) _ _ s
 refine wpAny_bind (wpAny_listSubscript_int (fitsIndex_of h0 hfit) ?_)
 clear hfit
 obtain⟨j,rfl⟩:=Int.eq_ofNat_of_zero_le h0
 have hj:j < items.size:=by simpa using hn
 have hx':items[j]?=some items[j]:=Array.getElem?_eq_getElem hj
 show wpAny _ _ ((seqItemAt l j >>= fun r=>pure (r.map (j,·))) >>= _) _ _ s
 refine wpAny_bind (wpAny_bind (wpAny_seqItemAt g rfl (wpAny_pure ?_)))
 rw[hx']
 show wpAny _ _ (setSeqItemAt l j v >>= _) _ _ s
 refine wpAny_bind (wpAny_setSeqItemAt g rfl ?_)
 first
  | exact wpAny_bind (wpAny_pure (wpAny_pure ⟨.none,rfl,wpAny_pure hQ⟩))
  | exact wpAny_pure ⟨.none,rfl,wpAny_pure hQ⟩
theorem zej {p q:Int}{n:Nat}(h0:0<=p)(h1:p<=q)(h2:q.toNat<=n):sliceBounds (some p) (some q) none n=(p,q,1):=by
 simp only[sliceBounds,Option.getD_none,show (1:Int) > 0 by decide,if_true]
 congr 1
 ·show max 0 (min (if p < 0 then p+n else p) (n:Int))=p
  rw[if_neg (Int.not_lt.mpr h0),Int.min_eq_left (Int.le_trans h1 (Int.toNat_le.mp h2)),Int.max_eq_right h0]
 ·congr 1
  show max 0 (min (if q < 0 then q+n else q) (n:Int))=q
  rw[if_neg (Int.not_lt.mpr (Int.le_trans h0 h1)),Int.min_eq_left (Int.toNat_le.mp h2),Int.max_eq_right (Int.le_trans h0 h1)]
theorem zfA {n:Nat}(h:n<=sizeLine):Builtin.List.listTooLong n=false:=by
 unfold Builtin.List.listTooLong
 rw[decide_eq_false_iff_not]
 exact Nat.not_lt_of_le h
theorem zfD (xs new:Array Value){p q:Nat}(h:p<=q):(xs.extract 0 p ++ new ++ xs.extract q xs.size).size<=xs.size+new.size:=by
 rw[Array.size_append,Array.size_append,Array.size_extract,Array.size_extract,Nat.min_self,Nat.sub_zero,Nat.add_right_comm]
 refine Nat.add_le_add_right ?_ _
 rcases Nat.le_total q xs.size with c | c
 ·exact Nat.le_trans (Nat.add_le_add_right (Nat.le_trans (Nat.min_le_left _ _) h) _) (Nat.le_of_eq (Nat.add_sub_cancel' c))
 ·rw[Nat.sub_eq_zero_of_le c];exact Nat.min_le_right _ _
theorem zag {M:Model}{Q:α->Shared->Prop}{c:Prop}[Decidable c]{X B:Sem α}(h:¬ c)(k:wpAny M A B Q E s):wpAny M A (if c then X else B) Q E s:=by rw[if_neg h];exact k
theorem zir {M:Model}{Q:α->Shared->Prop}{c:Prop}[Decidable c]{X B:Sem α}(h:c)(k:wpAny M A X Q E s):wpAny M A (if c then X else B) Q E s:=by rw[if_pos h];exact k
theorem zc4 {l sl b:Addr}{new:Array Value}{n m:Nat}{p q:Int}{t u:Tok}{Q:Unit->Shared->Prop}(g:s.heap.get? l=some { cls:=.type "list", data:=.seq items n }) (g2:s.heap.get? b=some { cls:=.type "list", data:=.seq new m })
  (hs:s.heap.IsSliceOf sl (.int p t) (.int q u) .none) (h0:0<=p) (h1:p<=q) (h2:q.toNat<=items.size) (hsz:items.size+new.size<=sizeLine) (hne:l≠b)
  (hQ:Q () { s with heap:=s.heap.update l (Obj.mapSeq fun xs=>xs.extract 0 p.toNat ++ new ++ xs.extract q.toNat xs.size) }):wpAny (model prog w) A (setItem (.ref l) (.ref sl) (.ref b)) Q E s:=by
 have hl:=zx g
 obtain⟨os,hos,hcs,hds⟩:=id hs
 have hTs:s.TypeIs (.ref sl) "slice" := ⟨os,hos,hcs⟩
 unfold setItem
 try with_reducible refine wpAny_holding ?_
 first | refine wpAny_bind (wpAny_pure ?_) | skip
 refine wpAny_bind (wpAny_sequenceKey hl.typeIs (by decide) ?_)
 refine wpAny_bind (wpAny_callSpecial?_slot (name:=Str.ofString "__setitem__") hl.typeIs PySem.F.slot_list_setitem
  (wpAny_call_entry PySem.F.slot_list_setitem hl.typeIs PySem.F.entry_list_setitem ?_ (PySem.F.args_list_setitem_3 _ _ _)))
 show wpAny _ _ (Builtin.List.listSubscript? (.ref sl) >>= _) _ _ s
 refine wpAny_bind ?_
 unfold Builtin.List.listSubscript?
 refine wpAny_bind (wpAny_specialOf hTs slice_no_index ?_)
 refine zir rfl ?_
 refine wpAny_pure ?_
 show wpAny _ _ (typeOf (.ref sl) >>= _) _ _ s
 refine wpAny_bind (wpAny_typeOf hTs ?_)
 refine zag (by decide) ?_
 rw[listSliceParts_eq]
 refine wpAny_bind (wpAny_bind (wpAny_field hos hds (x:=.none) rfl (wpAny_bind (wpAny_listPart .none ?_))))
 refine zag (by decide) ?_
 refine wpAny_bind (wpAny_field hos hds (x:=.int p t) rfl (wpAny_bind (wpAny_listPart (.int p t) ?_)))
 refine wpAny_bind (wpAny_field hos hds (x:=.int q u) rfl (wpAny_bind (wpAny_listPart (.int q u) (wpAny_pure ?_))))
 have hself:Builtin.List.listSameRef (.ref l) (.ref b)=false:=by simp[Builtin.List.listSameRef,hne]
 dsimp only
 rw[hself]
 refine wpAny_bind (m:=Builtin.List.listAllItems (.ref b) _) ?_
 unfold Builtin.List.listAllItems
 refine wpAny_bind (wpAny_typeOf (T := "list") (zx g2).typeIs ?_)
 have ht:(Value.type "list" == Value.type "list")=true:=by rfl
 rw[if_pos (by rw[ht];simp)]
 refine listItems_at g2 rfl ?_
 refine wpAny_bind (listItems_at g rfl ?_)
 refine wpAny_bind (wpAny_of_eq (sliceIndices_raw (some p) (some q) none items.size (by simp)) ?_)
 rw[zej h0 h1 h2]
 dsimp only
 refine zir (by rfl) ?_
 refine wpAny_bind (wpAny_rule ?_)
 rw[zfA hsz,Int.max_eq_right h1]
 refine zag (by decide) ?_
 refine wpAny_bind (listUpdate_at g rfl ?_ (Nat.le_trans (Nat.le_add_right _ _) hsz) (Nat.le_trans (zfD items new (Int.toNat_le_toNat h1)) (Nat.le_trans hsz (Nat.le_succ _))))
 refine wpAny_bind (wpAny_letGo ?_)
 exact wpAny_pure ⟨.none,rfl,wpAny_pure hQ⟩
end
section
variable {cx:Cx}{O:Rho}{J:Hp}{s:Shared}{A:Around}{k:Nat}
theorem dict_set {i:Nat}{v:MV}{z:Value}(S:Sim cx O J s.heap)(e:J[i]?=some (.dict l))(e2:O[i]?=some (a,a))(rr:xU cx O s.heap a l)(f:keyFits kk l=true)(ry:zp O s.heap kk y)(rv:zp O s.heap v z)(hz:l.length<=1000000):
  wpM cx A (setItem (.ref a) y z) (fun _ s'=>EPost cx O s (J.set i (.dict (dst kk v l))) .none .none s') s:=
 keyR f rr ry
  (fun n t kvs d p=>wpAny_setItem_pairs (intKind_is n t) d (fun h' hd hs=>qG S e e2 hs .none fun x=>.inr ⟨_,hd,(p.grow (x.gr (WOk.w0 _))).store (fun z=>yC z n) rfl (x.yR rv)⟩) (by rw[<- p.length];exact zB hz))
  fun n t kvs d p=>wpAny_setItem_pairs (strKind_is n t) d (fun h' hd hs=>qG S e e2 hs .none fun x=>.inl ⟨_,hd,(p.grow (x.gr (WOk.w0 _))).store (k:=toS n) (fun z=>z7 z n) rfl (x.yR rv)⟩) (by rw[<- p.length];exact zB hz)
theorem zhT (S:Sim cx O J s.heap){a i v:MV}{z:Value}(r1:zp O s.heap a x)(r2:zp O s.heap i y)(r3:zp O s.heap v z)(q:setSub a i v J=some J'):
  wpM cx A (setItem x y z) (fun _ s'=>EPost cx O s J' .none .none s') s:=by
 refine rR q r1 fun j a d e1 q=>zj6 q (fun l e q=>rI q r2 fun n t q=>iG q fun hk q=>sG q ?_) fun l e q=>iG q fun hk q=>sG q ?_
 ·have h1:=Bool.and_eq_true_iff.mp hk
  exact S.pD e e1 fun de rd=>dict_set S e (de ▸ e1) rd h1.1 r2 r3 (of_decide_eq_true h1.2)
 ·have h1:=Bool.and_eq_true_iff.mp hk
  have h2:=Bool.and_eq_true_iff.mp h1.1
  exact S.pL e e1 fun ws m de g rr=>zge g (of_decide_eq_true h2.1) (Int.lt_trans (of_decide_eq_true h1.2) (by decide)) (by rw[List.size_toArray,<- rr.length];exact of_decide_eq_true h2.2)
   (yU S e (de ▸ e1) g (vs':=ws.set n.toNat z) (by simp) (rr.set r3 _) .none)
theorem zi7 (ws ws2:List Value)(p q:Nat):ws.toArray.extract 0 p ++ ws2.toArray ++ ws.toArray.extract q ws.toArray.size=(ws.take p ++ ws2 ++ ws.drop q).toArray:=by
 apply Array.toList_inj.mp
 simp[List.extract_eq_take_drop]
 rw[List.take_of_length_le (by simp)]
theorem zj7 (S:Sim cx O J s.heap){a lo hi v:MV}{z:Value}{sl:Addr}(r1:zp O s.heap a x)(r2:zp O s.heap lo vl)(r3:zp O s.heap hi vu)(r4:zp O s.heap v z)(hs:s.heap.IsSliceOf sl vl vu .none)(q:setSlice a lo hi v J=some J'):
  wpM cx A (setItem x (.ref sl) z) (fun _ s'=>EPost cx O s J' .none .none s') s:=by
 revert hs
 refine rR q r1 fun j ad d e1 q=>rI q r2 fun p t q=>rI q r3 fun n u q=>rR q r4 fun k bd d' e1' q=>qLG q fun l e q=>qLG q fun w e' q=>iG q fun hk q=>sG q fun hs=>?_
 have h4:=Bool.and_eq_true_iff.mp hk
 have h3:=Bool.and_eq_true_iff.mp h4.1
 have h2:=Bool.and_eq_true_iff.mp h3.1
 have h1:=Bool.and_eq_true_iff.mp h2.1
 exact S.pL e e1 fun ws _ de g rr=>S.pL e' e1' fun ws2 _ _ g2 rr2=>zc4 g g2 hs (of_decide_eq_true h1.1) (of_decide_eq_true h1.2) (by rw[List.size_toArray,<- rr.length];exact of_decide_eq_true h2.2)
  (by rw[List.size_toArray,List.size_toArray,<- rr.length,<- rr2.length];exact zB (of_decide_eq_true h4.2)) (S.apart _ _ _ _ e1 e1' (of_decide_eq_true h3.2)).1
  (yU S e (de ▸ e1) g (vs':=ws.take p.toNat ++ ws2 ++ ws.drop n.toNat) (zi7 ws ws2 _ _) (((rr.take _).append rr2).append (rr.drop _)) .none)
end
inductive zh6:List MV->List (Option Expr)->Prop
 | nil:zh6 [] []
 | cons {x:List Nat} {y:Str} {kk:Nat} {pos:Pos} {ks:List MV} {res:List (Option Expr)} (e:y=toS x) (r:zh6 ks res):zh6 (.str x :: ks) (some (.Constant (.str y) kk pos) :: res)
section
variable {cx:Cx}{k:Nat}{A:Around}{env:Env}
inductive Each (cx:Cx)(k:Nat)(A:Around)(env:Env):List ME->List Expr->Prop
 | nil:Each cx k A env [] []
 | cons {e:ME} {re:Expr} {es:List ME} {res:List Expr} (h:SndE cx k A env e (PySem.eval re env)) (r:Each cx k A env es res):Each cx k A env (e :: es) (re :: res)
theorem Carries.zlS {K:Type}[DecidableEq K]{knd:PySem.KeyKind cx.prog cx.w K}{key:Value}{k:K}{vs:List (Value×Value)}{kvs:List (K×Value)}(h:knd.is k key=true)(r:Carries knd vs kvs):Carries knd ((key,v) :: vs) ((k,v) :: kvs):=⟨h,rfl,r⟩
inductive KV:List MV->List Value->List (Str×Value)->Prop
 | nil:KV [] [] []
 | cons {x:List Nat} {v:Value} {ks:List MV} {vs:List Value} {kvs:List (Str×Value)} (r:KV ks vs kvs):KV (.str x :: ks) (v :: vs) ((toS x,v) :: kvs)
inductive zic (cx:Cx)(O:Rho)(s:Shared)(J':Hp)(ks vs:List MV)(ps:List (Value×Value))(s':Shared):Prop
 | mk {vals:List Value} {kvs:List (Str×Value)} (c:Carries (PySem.strKind cx.prog cx.w) ps kvs) (kv:KV ks vals kvs) {O':Rho} {h':Heap} {tk:Tok} (e:s'={ s with heap:=h',toks:=tk }) (S:Sim cx O' J' h') (x:Ext O s.heap W0 O' h') (r:zc O' h' vs vals):zic cx O s J' ks vs ps s'
theorem wpP{ks vs:List MV}{t:Sem (List (Value×Value))}{Q:List (Value×Value)->Shared->Prop}(h:wpM cx A t (zic cx O s J' ks vs) s)
  (k:∀ ps vals kvs O' h' tk,Carries (PySem.strKind cx.prog cx.w) ps kvs->KV ks vals kvs->Sim cx O' J' h'->Ext O s.heap W0 O' h'->zc O' h' vs vals->Q ps { s with heap:=h',toks:=tk }):wpAny (model cx.prog cx.w) A t Q E s:=
 wpAny_mono h (fun ps _ p=>p.casesOn fun c kv _ _ _ e S x r=>e ▸ k ps _ _ _ _ _ c kv S x r) fun _ _ z=>z.elim
theorem zcJ{ks:List MV}(hk:zh6 ks keys):∀ {es:List ME} {res:List Expr},Each cx k A env es res->ks.length=es.length->∀ ml J vs J' O s,zL cx env O s.heap ml->Sim cx O J s.heap->
  evalL cx.P (callN cx.P k) es ml J=some (vs,J')->wpM cx A (evalPairs (pairTrees keys res env pos)) (zic cx O s J' ks vs) s:=by
 induction hk with
 | nil=>
  intro es res he hl ml J vs J' O s E S
  cases he with
  | cons _ _=>cases hl
  | nil=>exact fun q=>pG q (pairTrees_nil_walk (.mk (kvs:=[]) trivial .nil rfl S (Ext.refl ..) .nil))
 | @cons x y kk p ks keys e _ ih=>
  intro es res he hl ml J vs J' O s E S
  cases he with
  | nil=>cases hl
  | cons h r=>
   cases e
   exact fun q=>bG2 q fun v J1 q1 q=>bG2 q fun vs' Ja q2 q=>pG q (pairTrees_cons_walk (Calls.Constant_str (wpE (h ml J v J1 O { s with toks:=s.toks+1 } E S q1) fun val O1 hO tk1 Sa xa rg=>
    wpP (ih r (Nat.succ.inj hl) ml J1 vs' Ja O1 _ (E.ext xa) Sa q2) fun ps vals kvs O2 hS tk2 c kv Sb xc rh=>.mk (Carries.zlS (strKind_is x _) c) (.cons kv) rfl Sb (xa.trans xc) (.cons (xc.yR rg) rh))))
theorem zjA{ks:List MV}(kv:KV ks vals kvs):∀ {vs:List MV},zc O h vs vals->∀ {d d':List (MV×MV)} {acc:List (Str×Value)},z8 encS O h d acc->mkDict ks vs d=some d'->z8 encS O h d' (merged acc kvs):=by
 induction kv with
 | nil=>intro vs r d d' acc p q;cases r;exact sG q p
 | @cons x v ks vals kvs kv ih=>
  intro vs r d d' acc p q
  cases r with
  | cons a r=>exact iG q fun _ q=>ih r (p.store (key:=.str x) (k:=toS x) (fun z=>z7 z x) rfl a) q
theorem ze6 {ks:List MV}(hk:zh6 ks keys):keys.all (·.isSome)=true:=by
 induction hk with
 | nil=>rfl
 | cons _ _ ih=>exact ih
theorem zfV{J1:Hp}{ks vs:List MV}{d:List (MV×MV)}(S:Sim cx O J s.heap)(xa:Ext O (s.heap.push { cls:=.type "dict", data:=.dict #[] }) W0 O1 hO) (Sa:Sim cx O1 J1 hO) (kv:KV ks vals kvs) (rg:zc O1 hO vs vals) (q2:mkDict ks vs []=some d)
  (hd:h'.DictOf (PySem.strKind cx.prog cx.w) s.heap.objs.size (merged [] kvs)) (hs:Heap.SameBut s.heap.objs.size hO h'):EPost cx O s (J1 ++ [.dict d]) (.ref J1.length) (.ref s.heap.objs.size) { s with heap:=h',toks:=tk }:=by
 have x0:=Ext.push O s.heap W0 { cls:=.type "dict", data:=.dict #[] }
 have nD:¬ inR O s.heap.objs.size:=fun z=>Nat.lt_irrefl _ (S.lt z)
 have gD0:(s.heap.push { cls:=.type "dict", data:=.dict #[] }).get? s.heap.objs.size=some { cls:=.type "dict", data:=.dict #[] }:=Heap.get?_push_size _ rfl
 have nD1:¬ inR O1 s.heap.objs.size:=xa.yh gD0 nD
 have tD:ym hO s.heap.objs.size:=zM (xa.keep _ _ gD0 nD id) (by simp)
 obtain⟨Sb,xc⟩:=Sa.other (h':=h') (W:=fun b=>b=s.heap.objs.size) (fun b hb=>hb ▸ tD) (fun b o e hb=>(hs.2 b hb).trans e)
  (fun b hb=>hb ▸ ⟨nD1,Heap.get?_none_of_le S.size⟩) (Nat.le_of_eq hs.1.symm)
 have x:Ext O s.heap W0 O1 h':=
  Ext.narrow (W:=fun b=>b=s.heap.objs.size) (((x0.trans xa).weaken (fun b z=>z.elim)).trans xc) fun b hb=>.inr (hb ▸ Heap.get?_none_of_le (Nat.le_refl _))
 obtain⟨a,b,e,_⟩:=Sb.adopt x (p:=(s.heap.objs.size,s.heap.objs.size)) (o:=.dict d) ⟨rfl,.inl ⟨_,hd,zjA kv (zc.mono xc (fun b hb=>hb ▸ tD) rg) .nil q2⟩⟩ nD1 nD1 (Nat.le_refl _) (Nat.le_refl _) S.size
 exact⟨_,h',_,rfl,a,b,.ref e⟩
theorem zfl{ks:List MV}(hk:zh6 ks keys)(he:Each cx k A env es res)(hl:ks.length=es.length)(hl2:keys.length=res.length)(hn:keys.length<=15):
  SndE cx k A env (.dict ks es) (PySem.eval (.Dict keys res pos) env):=fun ml J v J' O s E S q=>by
 have D0:(s.heap.push { cls:=.type "dict", data:=.dict #[] }).DictOf (PySem.strKind cx.prog cx.w) s.heap.objs.size []:=Heap.DictOf.new ..
 refine bG2 q fun vs J1 q1 q=>bG q fun d q2 q=>pG q ?_
 clear q
 by_cases h0:keys=[]
 ·subst h0
  cases hk
  cases he with
  | cons _ _=>cases hl
  | nil=>
   revert q2
   refine pG q1 fun q2=>sG q2 (wpAny_Dict_empty ?_)
   obtain⟨a,b,c⟩:=S.alloc (ob:={ cls:=.type "dict", data:=.dict #[] }) (o:=.dict []) ⟨rfl,.inl ⟨[],D0,.nil⟩⟩
   exact⟨_,_,s.toks,rfl,a,b,c⟩
 refine wpAny_Dict_walk (knd:=PySem.strKind cx.prog cx.w) (ze6 hk) hl2 h0 hn ?_
 refine wpP (zcJ hk he hl ml J vs J1 O { s with heap:=s.heap.push { cls:=.type "dict", data:=.dict #[] } } (E.ext (Ext.push O s.heap W0 _)) (S.push _) q1) fun ps vals kvs O1 hO tk1 c kv Sa xa rg=>?_
 obtain⟨oD,esD,epD,gD,restD⟩:=D0
 exact⟨kvs,c,⟨oD,esD,epD,xa.keep _ _ gD (fun z=>Nat.lt_irrefl _ (S.lt z)) id,restD⟩,fun h' hd hs=>zfV S xa Sa kv rg q2 hd hs⟩
end
noncomputable def noStar (l:List Expr):Bool:=l.all fun e=>!(Nat.beq e.ctorIdx 22)
noncomputable def biName (b:Bi):Str:=@Bi.casesOn (fun _=>Str) b "len" "min" "max" "abs" "int" "list" "sorted" "ord" "chr" "str" "all"
section
variable {cx:Cx}{k:Nat}{A:Around}{env:Env}
theorem zeu{r:List Expr}(h:noStar (e :: r)=true):starEach (e :: r) env=(false,PySem.eval e env) :: starEach r env/\noStar r=true:=by
 cases e <;> first | (cases h;done) | exact⟨rfl,h⟩
structure zbJ (cx:Cx)(k:Nat)(A:Around)(env:Env)(es:List ME)(ts:List (Bool×Sem Value)):Prop where
 snd:SndL cx k A env es ts
 plain:ts.any (·.1)=false
 all:ts.all (fun x=>!x.1)=true
 len:ts.length=es.length
theorem zP(he:Each cx k A env es res):noStar res=true->zbJ cx k A env es (backTo pos (starEach res env)):=by
 induction he with
 | nil=>intro _;exact⟨zfF,rfl,rfl,rfl⟩
 | @cons e re es res h r ih=>
  intro hn
  obtain⟨q,hn'⟩:=zeu (env:=env) hn
  obtain⟨a,b,d,c⟩:=ih hn'
  rw[q]
  show zbJ cx k A env (e :: es) ((false,PySem.eval re env) :: backTo pos (starEach res env))
  exact⟨zeC h a,by simpa using b,by simpa using d,by simpa using c⟩
theorem zap(he:Each cx k A env es res)(h:noStar res=true):SndL cx k A env es (backTo pos (starEach res env)):=(zP he h).snd
theorem yz {f:Value}(L:zbJ cx k A env es ts){vs:List MV}(E:zL cx env O s.heap ml)(S:Sim cx O J s.heap)(q:evalL cx.P (callN cx.P k) es ml J=some (vs,J'))
  {Q:Args->Shared->Prop} (hq:∀ vals O' h' tk,Sim cx O' J' h'->Ext O s.heap W0 O' h'->zc O' h' vs vals->Q ⟨vals,[]⟩ { s with heap:=h',toks:=tk }):wpM cx A (evalArgs f true ts []) Q s:=by
 cases ts with
 | nil=>
  cases es with
  | cons _ _=>cases L.len
  | nil=>exact pG (P:=fun vs J'=>(∀ vals O' h' tk,Sim cx O' J' h'->Ext O s.heap W0 O' h'->zc O' h' vs vals->Q ⟨vals,[]⟩ { s with heap:=h',toks:=tk })->_) q (fun hq=>evalArgs_nil3 (hq [] O s.heap s.toks S (Ext.refl ..) .nil)) hq
 | cons t ts=>
  obtain⟨star,t⟩:=t
  cases (Bool.or_eq_false_iff.mp L.plain).1
  exact Calls.evalArgs_plain (wpL (L.snd ml J vs J' O s E S q) hq)
theorem zbc {b:Bi}(hp:ts.any (·.1)=false)(h:wpM cx A (evalArgs (bval b) true ts []) (fun a se=>wpM cx A (call (bval b) (first ++ a.pos) a.kw) Q se) s):wpM cx A (callWith pos (bval b) first ts []) Q s:=by
 have bi:∀ id,bval b=.builtin id->wpM cx A (callWith pos (bval b) first ts []) Q s:=fun id e=>by rw[e] at h ⊢;exact Calls.callWith_builtin hp h
 have ty:∀ id,bval b=.type id->wpM cx A (callWith pos (bval b) first ts []) Q s:=fun id e=>by rw[e] at h ⊢;exact PySem.callWith_type hp h
 cases b
 ·exact bi _ rfl
 ·exact bi _ rfl
 ·exact bi _ rfl
 ·exact bi _ rfl
 ·exact ty _ rfl
 ·exact ty _ rfl
 ·exact bi _ rfl
 ·exact bi _ rfl
 ·exact bi _ rfl
 ·exact ty _ rfl
 ·exact bi _ rfl
theorem zet (B:Base cx){b:Bi}(L:zbJ cx k A env es (backTo pos (starEach res env)))(hx:env.kindOf (biName b)=some .globalImplicit)(hv:nsIn cx.K mainGlobals (biName b)=some none)(hb:bootBuiltins (biName b)=some (bval b))
  (bs:∀ O J (s:Shared) v J' vs vals,Sim cx O J s.heap->zc O s.heap vs vals->Mine.callB b vs J=some (v,J')->wpM cx A (call (bval b) vals) (EPost cx O s J' v) s):
  SndE cx k A env (.b b es) (PySem.eval (.Call (.Name (biName b) p) res [] pos) env):=fun ml J v J' O s E S q=>by
 refine bG2 q fun vs J1 q1 q2=>Call_Name rfl (xZ B E S hx (by cases b <;> decide) (by cases b <;> decide) hv hb ?_)
 exact zbc L.plain (yz L E S q1 fun vals O' h' tk S' x r=>wpA x (bs O' J1 { s with heap:=h',toks:=tk } v J' vs vals S' r q2))
theorem zk9 {m:Mb}{va:MV}{vs:List MV}{r:MV×Hp}(q:Mine.methB m va vs J=some r):zfK m (tyOf va J) fun _=>True:=by
 cases m with
 | append=>exact eRG q fun i q=>a1G q fun v q=>qLG q fun l e q=>.L e PySem.F.slot_list_append PySem.F.type_list_append trivial
 | extend=>exact eRG q fun i q=>a1G q fun v q=>eRG q fun j q=>qLG q fun l e q=>.L e PySem.F.slot_list_extend PySem.F.type_list_extend trivial
 | pop=>
  exact eRG q fun i q=>aXG q (fun q=>qLG q fun l e q=>.L e PySem.F.slot_list_pop PySem.F.type_list_pop trivial) fun k t q=>aXG q (fun q=>qDG q fun l e q=>.D e PySem.F.slot_dict_pop PySem.F.type_dict_pop trivial)
   fun d t q=>aNG q fun q=>eNG q fun q=>qDG q fun l e q=>.D e PySem.F.slot_dict_pop PySem.F.type_dict_pop trivial
 | get=>exact eRG q fun i q=>a2G q fun v d q=>eNG q fun q=>qDG q fun l e q=>.D e PySem.F.slot_dict_get PySem.F.type_dict_get trivial
 | join=>exact eSG q fun s q=>.S PySem.F.slot_str_join PySem.F.type_str_join trivial
 | isalnum=>exact eSG q fun s q=>.S PySem.F.slot_str_isalnum PySem.F.type_str_isalnum trivial
 | upper=>exact eSG q fun s q=>.S PySem.F.slot_str_upper PySem.F.type_str_upper trivial
 | lower=>exact eSG q fun s q=>.S PySem.F.slot_str_lower PySem.F.type_str_lower trivial
theorem zkZ.u {m:Mb}{n:Nat}{T' id':String}(a:zkZ m n T id)(b:zkZ m n T' id'):id=id':=by
 cases a.ty.i b.ty
 have e:=a.slot.lookup.symm.trans b.slot.lookup
 cases e;rfl
theorem zeY(L:zbJ cx k A env es (backTo pos (starEach res env)))(hn:res.length < 30):methodCallForm (res.length+([]:List Keyword).length) (backTo pos (starEach res env)) (backToKw pos (keywordEach [] env))=true:=by
 unfold methodCallForm
 rw[L.all]
 exact decide_eq_true hn
theorem zd0 (B:Base cx){m:Mb}{apos:Pos}{a:ME}(ha:SndE cx k A env a (PySem.eval ra env))(hb:baseFree ra=true)(L:zbJ cx k A env es (backTo pos (starEach res env)))(hn:res.length < 30)
  (hline:(apos.endLine == pos.line)=true):SndE cx k A env (.n a m es) (PySem.eval (.Call (.Attribute ra (mbName m) apos) res [] pos) env):=fun ml J v J' O s E S q=>by
 refine bG2 q fun va J1 q1 q=>bG2 q fun vs Ja q2 q=>iG q fun hty q3=>?_
 clear q
 rw[arm_eval_Call]
 refine wpAny_bind (zbl hb (wpE (ha ml J va J1 O s E S q1) fun o O1 hO tk1 Sa xa rg=>wpAny_bind (wpAny_standAt ?_)))
 unfold methodCall
 rw[zeY L hn]
 obtain @⟨T,id,M,_⟩:=zk9 q3
 have Jjb:=zl1 (s:={ s with heap:=hO,toks:=tk1 }) Sa rg ((beq_iff_eq.mp hty).symm ▸ M.ty)
 refine wpAny_bind (wpAny_holding (getMethod_builtin Jjb.t M.pa M.slot M.md Jjb.p (wpAny_bind (wpAny_of_eq (show methodCallPos true ra env apos pos=pure pos by unfold methodCallPos;simp[hline]) ?_))))
 refine Calls.callWith_builtin L.plain (yz (s:={ s with heap:=hO,toks:=tk1 }) L (E.ext xa) Sa q2 fun vals O' h' tk S' x r=>?_)
 obtain @⟨T',id',M',hw⟩:=za3 (A:=A) (s:={ s with heap:=h',toks:=tk }) B S' (x.yR rg) r q3
 rw[M.u M']
 exact wpAny_mono hw (fun _ _ p=>(p.after x).after xa) fun _ _ z=>z
end
section
variable {prog:Program}{w:World}{A:Around}{E:Value->Shared->Prop}{s:Shared}
theorem zcI{vs R:List Value}{n:Nat}{P:PySem.Fin->Shared->Prop}(ho:s.heap.get? a=some (seqObj "list" vs.toArray n)) (h64:vs.length < 64)
  (h1:vs.length < 2->R=vs)
  (h2:2<=vs.length->∀ h',(∀ b o,b≠a->s.heap.get? b=some o->h'.get? b=some o)->s.heap.objs.size<=h'.objs.size->wpAny (model prog w) A (keyKind' vs.toArray) (fun κ s''=>s''={ s with heap:=h' }/\
   (kas_sort vs.length).kasWp (kas_ask prog w A κ vs) (fun p s3=>s3={ s with heap:=h' }/\(p.toList.map fun i=>vs.getD i Value.none)=R) s'') (fun _ _=>False) { s with heap:=h' })
  (hP:∀ h' c,(∀ b o,b≠a->s.heap.get? b=some o->h'.get? b=some o)->h'.get? a=some (seqObj "list" R.toArray c)->P (.done (.ret .none)) { s with heap:=h' }):
  wpAny (model prog w) A (Builtin.«list.sort» ⟨[.ref a],[]⟩) P E s:=by
 rw[list_sort_plain]
 have ha:a < s.heap.objs.size:=Heap.lt_size ho
 refine wpAny_bind (listItems_at ho rfl ?_)
 refine wpAny_bind (listUpdate_at ho rfl ?_ (by rw[List.size_toArray,sizeLine_eq];lia) (Nat.zero_le _))
 obtain⟨e1,ho1⟩:∃ e1,(s.heap.update a (Obj.mapSeq fun _=>(#[]:Array Value))).get? a=some (seqObj "list" #[] e1):=⟨_,get?_update_seq ho (fun _=>#[])⟩
 refine wpAny_bind (seqEpoch_at ho1 rfl ?_)
 refine wpAny_bind (wpAny_newTuple ?_ (by show vs.length<=_;rw[sizeLine_eq];lia))
 refine wpAny_bind (wpAny_newList ?_ (Nat.zero_le _))
 refine wpAny_holding ?_
 have ho6:(((s.heap.update a (Obj.mapSeq fun _=>(#[]:Array Value))).push (seqObj "tuple" vs.toArray 0)).push (seqObj "list" #[] 0)).get? a=some (seqObj "list" #[] e1):=Heap.get?_push_of_some _ (Heap.get?_push_of_some _ ho1)
 have keep:∀ b o,b≠a->s.heap.get? b=some o->(((s.heap.update a (Obj.mapSeq fun _=>(#[]:Array Value))).push (seqObj "tuple" vs.toArray 0)).push (seqObj "list" #[] 0)).get? b=some o:=fun b o hb e=>
  Heap.get?_push_of_some _ (Heap.get?_push_of_some _ ((Heap.get?_update_other _ _ (Ne.symm hb)).trans e))
 show wpAny (model prog w) A _ P E { s with heap:=((s.heap.update a (Obj.mapSeq fun _=>(#[]:Array Value))).push (seqObj "tuple" vs.toArray 0)).push (seqObj "list" #[] 0) }
 dsimp only
 have fin:∀ out:Array Value,out=R.toArray->P (.done (.ret .none)) { s with heap:=(((s.heap.update a (Obj.mapSeq fun _=>(#[]:Array Value))).push (seqObj "tuple" vs.toArray 0)).push (seqObj "list" #[] 0)).update a (Obj.mapSeq fun _=>out) }:=by
  intro out ho'
  subst ho'
  exact hP _ _ (fun b o hb e=>(Heap.get?_update_other _ _ (Ne.symm hb)).trans (keep b o hb e)) (get?_update_seq ho6 _)
 by_cases h:vs.toArray.size < 2
 ·rw[if_pos h,if_pos h]
  refine wpAny_bind (wpAny_pure ?_)
  rw[StateT.run_pure]
  refine wpAny_bind (wpAny_pure ?_)
  dsimp only
  refine wpAny_bind (seqEpoch_at ho6 rfl ?_)
  refine wpAny_bind (listUpdate_at ho6 rfl ?_ (Nat.zero_le _) (by rw[Array.size_map];show (pairsOf vs).size<=_;rw[pairsOf_size,sizeLine_eq];lia))
  refine zag (by rw[bne_self_eq_false];decide) ?_
  refine wpAny_pure (fin _ ?_)
  rw[h1 (by simpa using h)]
  apply Array.toList_inj.mp
  show ((pairsOf vs).map (·.2)).toList=vs
  rw[Array.toList_map,pairsOf_toList]
  exact List.map_snd_zip (Nat.le_refl _)
 ·rw[if_neg h,if_neg h]
  have h':2<=vs.length:=by simp at h;lia
  refine wpAny_bind (wpAny_mono (h2 h' _ keep (by simp only[Heap.size_push,Heap.size_after_update];lia)) (fun κ s0 hk=>?_) fun _ _ x=>x.elim)
  obtain⟨rfl,hk⟩:=hk
  refine wpAny_bind (wpAny_mono (kat_run (vs:=vs) (ks:=vs) (Q:=fun st' s'=>∃ p:Array Nat,p.size=vs.length/\arrOf st'=p.map (kas_item (vs.toArray.zip vs.toArray))/\failedOf st'=none/\
    s'={ s with heap:=((s.heap.update a (Obj.mapSeq fun _=>(#[]:Array Value))).push (seqObj "tuple" vs.toArray 0)).push (seqObj "list" #[] 0) }/\(p.toList.map fun i=>vs.getD i Value.none)=R)
   rfl h' h64 (fun p' st' s' a1 a2 a3 a4=>⟨p',a1,a2,a3,a4⟩) hk) ?_ fun _ _ e=>e)
  rintro⟨⟨⟩,st'⟩ s' ⟨p,hp,har,hf,rfl,hR⟩
  dsimp only
  refine wpAny_bind (seqEpoch_at ho6 rfl ?_)
  refine wpAny_bind (listUpdate_at ho6 rfl ?_ (Nat.zero_le _) (by rw[Array.size_map,har,Array.size_map,hp,sizeLine_eq];lia))
  rw[hf]
  refine zag (by rw[bne_self_eq_false];decide) ?_
  refine wpAny_pure (fin _ ?_)
  rw[kat_snds rfl har,hR]
theorem xW {l:Addr}{vs R:List Value}(hc:∀ (Q':List Value->Shared->Prop),(∀ h' tk,(∀ b o,s.heap.get? b=some o->h'.get? b=some o)->s.heap.objs.size<=h'.objs.size->Q' vs { s with heap:=h',toks:=tk })->wpAny (model prog w) A.in1 (collect (.ref l)) Q' E s)(h64:vs.length < 64)
  (h1:vs.length < 2->R=vs)
  (h2:2<=vs.length->∀ h' tk,(∀ b o,s.heap.get? b=some o->h'.get? b=some o)->s.heap.objs.size<=h'.objs.size->wpAny (model prog w) A.in1.in1 (keyKind' vs.toArray) (fun κ s''=>s''={ s with heap:=h',toks:=tk }/\
   (kas_sort vs.length).kasWp (kas_ask prog w A.in1.in1 κ vs) (fun p s3=>s3={ s with heap:=h',toks:=tk }/\(p.toList.map fun i=>vs.getD i Value.none)=R) s'') (fun _ _=>False) { s with heap:=h',toks:=tk })
  (hQ:∀ h' tk D c,s.heap.objs.size<=D->(∀ b o,s.heap.get? b=some o->h'.get? b=some o)->h'.get? D=some (seqObj "list" R.toArray c)->Q (.ref D) { s with heap:=h',toks:=tk }):
  wpAny (model prog w) A (call (.builtin "sorted") [.ref l]) Q E s:=by
 refine Calls.call_function_entry kind_sorted plain_sorted entry_sorted (args_sorted1 _) ?_
 unfold Builtin.«sorted»
 refine wpAny_bind (m:=checkCount "sorted" 1 1 _) (wpAny_pure ?_)
 refine wpAny_bind (hc _ fun h0 tk k0 z0=>?_)
 refine wpAny_bind (wpAny_newList ?_ (by rw[sizeLine_eq];lia))
 have hoL:(h0.push (seqObj "list" vs.toArray 0)).get? h0.objs.size=some (seqObj "list" vs.toArray 0):=Heap.get?_push_size _ rfl
 show wpAny _ _ _ _ _ { s with heap:=h0.push (seqObj "list" vs.toArray 0),toks:=tk }
 have ne:∀ b o,s.heap.get? b=some o->b≠h0.objs.size:=fun b o e=>Nat.ne_of_lt (Nat.lt_of_lt_of_le (Heap.lt_size e) z0)
 refine wpAny_bind (wpAny_holding (wpAny_call_entry slot_list_sort ⟨_,hoL,rfl⟩ entry_list_sort (zcI (R:=R) hoL h64 h1 (fun hz h' kk zz=>?_) fun h' c kk g=>⟨_,rfl,?_⟩) (args_list_sort _)))
 ·exact h2 hz h' tk (fun b o e=>kk b o (ne b o e) (Heap.get?_push_of_some _ (k0 b o e))) (Nat.le_trans z0 (Nat.le_trans (by dsimp only;rw[Heap.size_push];exact Nat.le_succ _) zz))
 ·exact wpAny_pure ⟨_,rfl,hQ h' tk _ c z0 (fun b o e=>kk b o (ne b o e) (Heap.get?_push_of_some _ (k0 b o e))) g⟩
end
theorem zeD{n:Nat}{lt:Nat->Nat->Bool}(hc:∀ i j,i < n->j < n->∀ C:Bool->Shared->Prop,C (lt i j) s->cmp i j C s){Q:α->Shared->Prop}{p:α}(hq:Q p s):
  ∀ t:KasT α,runT n lt t=some p->t.kasWp cmp Q s
 | .ret a=>fun e=>by cases e;exact hq
 | .ask i j k=>fun e=>iG e fun h e=>hc i j h.1 h.2 _ (zeD hc hq (k (lt i j)) e)
section
variable {cx:Cx}{O:Rho}{J:Hp}{s:Shared}{A:Around}{k:Nat}
theorem zlA{P:MV->Value->Prop}(r:zp O h m v)(e:isRow m=true)(k:∀ a x ad t u,h.IsTuple ad #[.str (toS a) t,.int x u]->P (.tup [.str a,.int x]) (.ref ad)):P m v:=by
 revert r
 obtain⟨_,e⟩:=Option.isSome_iff_exists.mp e
 refine eTG e fun l e=>a2G e fun p q e=>eSG e fun a e=>eIG e fun i _ r=>vTu r fun ad vs it _ rr=>?_
 revert it
 exact wCons rr fun y vs' r1 rr=>vSt r1 fun t=>wCons rr fun z vs'' r2 rr=>vIn r2 fun u=>wNil rr fun it=>k a i ad t u it
theorem zjM (a b:List Nat):decide ((toS a).cps.toList < (toS b).cps.toList)=decide (a < b):=decide_eq_decide.mpr (by simp[toS])
theorem ziM {n:MV}(r1:zp O s.heap m x)(r2:zp O s.heap n y)(e1:isRow m=true)(e2:isRow n=true){Q:Bool->Shared->Prop}:Q (rowLt m n) s->wpAny (model cx.prog cx.w) A (keyLt' (tuples' true) x y) Q FF s:=
 zlA (P:=fun m x=>Q (rowLt m n) s->wpAny (model cx.prog cx.w) A (keyLt' (tuples' true) x y) Q FF s) r1 e1 fun a i ad t u w1=>
 zlA (P:=fun n y=>Q (rowLt _ n) s->wpAny (model cx.prog cx.w) A (keyLt' (tuples' true) _ y) Q FF s) r2 e2 fun b j bd t' u' w2 (q:Q (if a=b then decide (i < j) else decide (a < b)) s)=>by
 obtain⟨o1,h1,c1,n1,d1⟩:=w1
 obtain⟨o2,h2,c2,n2,d2⟩:=w2
 refine kat_lt h1 d1 h2 d2 (kat_cons (wpAny_eqBool_str ?_))
 by_cases hab:a=b
 ·rw[if_pos hab] at q
  rw[hab,decide_eq_true (rfl:toS b=toS b)]
  refine kat_yes (kat_cons (wpAny_eqBool_int ?_))
  by_cases hij:i=j
  ·rw[beq_iff_eq.mpr hij]
   rw[decide_eq_false (fun z=>Int.ne_of_lt z hij)] at q
   exact kat_yes (kat_nil q)
  ·rw[beq_eq_false_iff_ne.mpr hij]
   exact kat_no (kat_one _ _ (lt_int q))
 ·rw[decide_eq_false (fun z=>hab (yP z))]
  refine kat_no (oneLt_str ?_)
  rw[zjM]
  rwa [if_neg hab] at q
structure zlP (h:Heap)(vs fs:List Value):Prop where
 k:KatTups h vs fs
 n:fs.length=vs.length
 s:∀ v∈fs,∃ x t,v=Value.str x t
theorem zdO{l:List MV}{vs:List Value}(r:zc O h l vs):l.all isRow=true->∃ fs,zlP h vs fs:=
 r.ind (P:=fun l vs=>l.all isRow=true->∃ fs,zlP h vs fs) (fun _=>⟨[],KatTups.nil,rfl,fun _ e=>absurd e List.not_mem_nil⟩) fun {_ _ _ vs} a _ ih e=>by
  have e:=Bool.and_eq_true_iff.mp e
  obtain⟨fs,T⟩:=ih e.2
  exact zlA (P:=fun _ v=>∃ fs,zlP h (v :: vs) fs) a e.1 fun x i ad t u w=>by
   obtain⟨o,g,c,n,d⟩:=w
   exact⟨_,KatTups.cons g c d (f:=.str (toS x) t) rfl T.k,congrArg Nat.succ T.n,fun v hv=>(List.mem_cons.mp hv).elim (fun e=>⟨_,_,e⟩) (T.s v)⟩
theorem zaN(kk:∀ b o,h.get? b=some o->h'.get? b=some o):∀ (vs fs:List Value),KatTups h vs fs->KatTups h' vs fs
 | [],[]=>fun _=>trivial
 | [],_ :: _=>fun f=>f.elim
 | _ :: _,[]=>fun f=>f.elim
 | _ :: vs,_ :: fs=>fun k=>by
  obtain⟨⟨ad,o,xs,n,e,g,c,d,x⟩,rest⟩:=k
  exact⟨⟨ad,o,xs,n,e,kk _ _ g,c,d,x⟩,zaN kk vs fs rest⟩
theorem zc.getD{l:List MV}{vs:List Value}(r:zc O h l vs){i:Nat}(hi:i < l.length):zp O h (l.getD i .none) (vs.getD i .none):=by
 obtain⟨v,hv,rv⟩:=r.get (List.getElem?_eq_getElem hi)
 have e1:l.getD i .none=l[i]:=by simp[List.getD,hi]
 have e2:vs.getD i .none=v:=by simp[List.getD,hv]
 rw[e1,e2];exact rv
theorem zc.pick{l:List MV}{vs:List Value}(r:zc O h l vs):∀ (p:List Nat),p.all (fun i=>decide (i < l.length))=true->zc O h (p.map fun i=>l.getD i .none) (p.map fun i=>vs.getD i Value.none)
 | []=>fun _=>.nil
 | i :: p=>fun e=>by
  rw[List.all_cons,Bool.and_eq_true,decide_eq_true_eq] at e
  exact .cons (r.getD e.1) (r.pick p e.2)
theorem zcD {M:Model}(x:Str)(t:Tok):Looks M h (typeOf (.str x t)) (.type "str"):=Looks.of_pure rfl
theorem zhj {l:List MV}(h:l.all isRow=true){i:Nat}(hi:i < l.length):isRow (l.getD i .none)=true:=by
 rw[show l.getD i .none=l[i] by simp[List.getD,hi]]
 exact List.all_eq_true.mp h _ (List.getElem_mem hi)
theorem qM (S:Sim cx O J s.heap){l:List MV}{vs:List Value}{v:MV}(r:zc O s.heap l vs)(hrow:l.all isRow=true)(hlen:l.length<=16)
  (hc:∀ (E:Value->Shared->Prop) (Q':List Value->Shared->Prop),(∀ h' tk,(∀ b o,s.heap.get? b=some o->h'.get? b=some o)->s.heap.objs.size<=h'.objs.size->Q' vs { s with heap:=h',toks:=tk })->wpAny (model cx.prog cx.w) A.in1 (collect (.ref a)) Q' E s)
  (q:((sortRows l).bind fun r=>some (MV.ref J.length,J ++ [za.list r]))=some (v,J')):wpM cx A (call (.builtin "sorted") [.ref a]) (EPost cx O s J' v) s:=by
 have hl:=r.length
 have h64:vs.length < 64:=hl ▸ Nat.lt_of_le_of_lt hlen (by decide)
 refine bG q fun out q e=>pG e (iG2 q (fun h2 q=>sG q ?_) fun h2 q=>bG q fun p q1 q=>iG q fun hp q=>sG q ?_)
 ·exact zy (Nat.le_refl _) (xW (R:=vs) (hc _) h64 (fun _=>rfl) (fun z=>absurd (hl ▸ h2) (Nat.not_lt_of_le z)) fun h' tk D c hD kk g hs=>yX S kk hs hD g (by simpa using r))
 ·clear q
  refine zy (Nat.le_refl _) (xW (R:=p.toList.map fun i=>vs.getD i Value.none) (hc _) h64 (fun z=>absurd (hl ▸ z) h2) (fun _ h' tk kk zz=>?_) fun h' tk D c hD kk g hs=>yX S kk hs hD g (by simpa using r.pick p.toList hp))
  obtain⟨fs,T⟩:=zdO r hrow
  refine kat_kind (T:=.type "str") (s:={ s with heap:=h',toks:=tk }) (zaN kk vs fs T.k) (by rw[T.n];exact Nat.lt_of_lt_of_le (Nat.zero_lt_succ 1) (hl ▸ Nat.le_of_not_lt h2)) (fun v hv=>?_) rfl ⟨rfl,?_⟩
  ·obtain⟨x,t,rfl⟩:=T.s v hv
   exact zcD x t
  ·rw[hl] at q1
   have rr:=(⟨⟨[],(List.append_nil _).symm⟩,fun b o e _ _=>kk b o e,fun _ z=>.inl z,zz⟩:Ext O s.heap W0 O h').qi r
   refine zeD (fun i j hi hj C hC=>?_) ⟨rfl,rfl⟩ _ q1
   rw[<- hl] at hi hj
   exact ziM (s:={ s with heap:=h',toks:=tk }) (A:=A.in1.in1) (rr.getD hi) (rr.getD hj) (zhj hrow hi) (zhj hrow hj) hC
end
section
variable {cx:Cx}{O:Rho}{J:Hp}{s:Shared}{A:Around}{k:Nat}{E:Value->Shared->Prop}
theorem zaV {K:Type}[DecidableEq K]{knd:PySem.KeyKind cx.prog cx.w K}{Q:List Value->Shared->Prop}(hh:A.handled=none)(d:s.heap.DictOf knd a [])(lo:(a == sysModules)=false)
  (h:∀ h' tk,(∀ b o,s.heap.get? b=some o->h'.get? b=some o)->Q [] { s with heap:=h',toks:=tk }):wpAny (model cx.prog cx.w) A (collect (.ref a)) Q E s:=by
 obtain⟨ep,da⟩:=d.dictAt
 unfold collect
 refine wpAny_bind (wpAny_runValue (codeAny_builtin entry_proto_collect' ?_))
 show wpAny _ _ (do again (.builtin "list.__iadd__" ⟨[<- newList [],.ref a],[]⟩)) _ _ s
 refine wpAny_bind (wpAny_newList (wpAny_pure ⟨Code.quiet_builtin _ (by decide +kernel),codeAny_builtin entry_list_iadd' ?_⟩))
 show wpAny _ _ (Builtin.List.listExtendWith (.ref s.heap.objs.size) (.ref a) (.ref s.heap.objs.size)) _ _ { s with heap:=s.heap.push (seqObj "list" #[] 0) }
 rw[Around.under_plainId (show plainId "list.__iadd__" = true by decide +kernel)]
 have hlt:a < s.heap.objs.size:=da.lt_size
 refine kdl_extend (R:=fun r s'=>match r with
   | .ok (.ret v)=>wpAny (model cx.prog cx.w) A (match v with
    | .ref a=>do
     let o <- load a
     match o.data with
     | .seq xs _=>pure xs.toList
     | _=>unsupported "internal:collect"
    | _=>unsupported "internal:collect") Q E s'
   | .ok _=>False
   | .error e=>E e s') (s:={ s with heap:=s.heap.push (seqObj "list" #[] 0) }) (kdl_dict lo) hh (da.push _) s.heap.objs.size (Nat.ne_of_gt hlt) (Nat.ne_of_gt hlt) _ 0 (Heap.get?_push_size _ rfl) (fun h' tk acc' c' kk g it=>?_) (Nat.zero_le _)
 refine wpAny_bind (wpAny_load g ?_)
 refine wpAny_pure ?_
 have:acc'.toList=[]:=by
  have:=it.1
  simp at this
  simp[this]
 rw[this]
 exact h h' tk fun b o e=>kk b o (Nat.ne_of_lt (Heap.lt_size e)) (Heap.get?_push_of_some _ e)
theorem ze5 (B:Base cx)(R:xd A k)(S:Sim cx O J s.heap){b:Bi}{vs:List MV}{v:MV}(r:zc O s.heap vs vals)(q:Mine.callB b vs J=some (v,J')):wpM cx A (call (bval b) vals) (EPost cx O s J' v) s:=by
 by_cases hb:b=.sorted
 ·revert q
  rw[hb]
  refine fun q=>w1R q r fun x y rx q=>rR q rx fun i a d e q=>zj6 q (fun l m q=>iG q fun hc q=>S.pL m e fun ws n _ g rr=>?_) fun l m q=>?_
  ·have hc:=Bool.and_eq_true_iff.mp hc
   refine qM S rr hc.1 (of_decide_eq_true hc.2) (fun E Q' hQ=>collect_list (zx g) (hQ _ _ (fun b o e=>?_) ?_) (by rw[<- rr.length];exact zB (Nat.le_trans (of_decide_eq_true hc.2) (by decide)))) q
   ·exact (Heap.get?_update_other _ _ (Ne.symm (Nat.ne_of_lt (Heap.lt_size e)))).trans (Heap.get?_push_of_some _ e)
   ·rw[Heap.size_after_update,Heap.size_push];exact Nat.le_succ _
  ·revert m
   refine aNG q fun q m=>pG q (S.pD m e fun de rd=>?_)
   obtain⟨kvs,d,p⟩:=rd.strs (k:=[]) rfl
   cases p
   exact qM S (l:=[]) (vs:=[]) .nil rfl (Nat.zero_le _) (fun E Q' hQ=>zy (Nat.le_refl _) (zaV R.hd d (xK S B.big m (de ▸ e)) fun h' tk kk hs=>hQ h' tk kk hs)) rfl
 ·exact j9 B S R r hb q
end
noncomputable def addSlot (s:List (Str×Value)) (p:Str×Value):List (Str×Value):=if (s.lookup p.1).isNone then s ++ [p] else s
theorem za6 (s:List (Str×Value))(m n:Str)(d:Value):(s ++ [(m,d)]).lookup n=(s.lookup n).or (if n == m then some d else none):=by
 induction s with
 | nil=>simp[List.lookup];split <;> simp_all
 | cons p s ih=>
  obtain⟨k,v⟩:=p
  simp only[List.cons_append,List.lookup]
  cases n == k <;> simp[ih]
theorem qQ (n:Str):∀ (pairs s:List (Str×Value)),(pairs.foldl addSlot s).lookup n=(s.lookup n).or (pairs.lookup n)
 | []=>fun s=>by simp
 | (m,d) :: r=>fun s=>by
  rw[List.foldl_cons,qQ n r]
  unfold addSlot
  simp only[List.lookup]
  split
  ·rename_i h
   rw[za6]
   cases hs:s.lookup n with
   | some v=>simp
   | none=>cases hnm:n == m <;> simp
  ·rename_i h
   cases hnm:n == m with
   | false=>simp
   | true=>
    rw[beq_iff_eq] at hnm
    subst hnm
    cases hs:s.lookup n with
    | some v=>simp
    | none=>rw[hs] at h;exact absurd rfl h
theorem yt:∀ (ns:List Str) (vs:List Value) (n:Str),n ∉ ns->(ns.zip vs).lookup n=none
 | [],vs=>fun n _=>by simp
 | m :: ns,[]=>fun n _=>by simp
 | m :: ns,v :: vs=>fun n h=>by
  simp only[List.mem_cons,not_or] at h
  simp only[List.zip_cons_cons,List.lookup]
  have:(n == m)=false:=beq_eq_false_iff_ne.mpr h.1
  rw[this]
  exact yt ns vs n h.2
theorem zcb:∀ (ns:List Str) (vs:List Value) (f:Str->Option Value),ns.Nodup->ns.length<=vs.length->(∀ n∈ns,f n=(ns.zip vs).lookup n)->(ns.filterMap fun n=>(f n).map fun v=>(n,v))=ns.zip vs
 | [],vs=>fun f _ _ _=>by simp
 | m :: ns,[]=>fun f _ h _=>by simp at h
 | m :: ns,v :: vs=>fun f nd hl hf=>by
  rw[List.nodup_cons] at nd
  have h0:=hf m (.head _)
  simp only[List.zip_cons_cons,List.lookup,beq_self_eq_true] at h0
  rw[List.filterMap_cons,h0,List.zip_cons_cons]
  simp only[Option.map_some]
  rw[zcb ns vs f nd.2 (by simpa using hl) fun n hn=>?_]
  have:=hf n (.tail _ hn)
  rw[this]
  simp only[List.zip_cons_cons,List.lookup]
  have ne:(n == m)=false:=beq_eq_false_iff_ne.mpr fun e=>nd.1 (e ▸ hn)
  rw[ne]
theorem zQ:∀ (a b:List Str) (x y:List Value) (n:Str),a.length=x.length->((a ++ b).zip (x ++ y)).lookup n=((a.zip x).lookup n).or ((b.zip y).lookup n)
 | [],b,[]=>fun y n _=>by simp
 | [],_,_ :: _=>fun _ _ h=>by simp at h
 | _ :: _,_,[]=>fun _ _ h=>by simp at h
 | m :: a,b,v :: x=>fun y n h=>by
  simp only[List.cons_append,List.zip_cons_cons,List.lookup]
  cases n == m <;> simp[zQ a b x y n (by simpa using h)]
noncomputable def DefaultsAre (s:Shared) (fd:FuncData) (ds:List Value):Prop:=(fd.defaults=.none/\ds=[])∨∃ T o n,fd.defaults=.ref T/\s.heap.get? T=some o/\o.data=.seq ds.toArray n
theorem zaD {M:Model}{Q:List (Str×Value)->Shared->Prop}{f:Str×Value->List (Str×Value)->Sem (ForInStep (List (Str×Value)))}
  (hf:∀ p acc,f p acc=pure (.yield (addSlot acc p))):∀ (l:List (Str×Value)) (acc:List (Str×Value)),Q (l.foldl addSlot acc) s->wpAny M A (forIn l acc f) Q E s
 | []=>fun acc h=>by rw[List.forIn_nil];exact wpAny_pure h
 | p :: l=>fun acc h=>by
  rw[List.forIn_cons,hf]
  exact wpAny_bind (wpAny_pure (zaD hf l (addSlot acc p) h))
theorem zaE {ns:List Str}(h:k<=vals.length):((ns.take k).filter fun n=>((ns.zip vals).lookup n).isNone)=[]:=by
 rw[List.filter_eq_nil_iff]
 intro n hn
 have:∀ (ns:List Str) (vals:List Value) (k:Nat),k<=vals.length->n∈ns.take k->((ns.zip vals).lookup n).isNone=false:=by
  intro ns
  induction ns with
  | nil=>intro vals k _ hn;simp at hn
  | cons m ns ih=>
   intro vals k hk hn
   cases vals with
   | nil=>simp at hk;subst hk;simp at hn
   | cons v vals=>
    simp only[List.zip_cons_cons,List.lookup]
    cases hnm:n == m with
    | true=>rfl
    | false=>
     cases k with
     | zero=>simp at hn
     | succ k=>
      rw[List.take_succ_cons,List.mem_cons] at hn
      rcases hn with e | hn
      ·rw[e] at hnm;simp at hnm
      ·exact ih vals k (by simpa using hk) hn
 rw[this ns vals k h hn];decide
theorem zay {ns:List Str}(l:ns.length=vals.length){n:Str}(hn:n∈ns):¬ (ns.zip vals).lookup n=.none:=fun e=>by
 have:=List.filter_eq_nil_iff.mp (zaE (ns:=ns) (vals:=vals) (k:=ns.length) (Nat.le_of_eq l)) n (by rw[List.take_length];exact hn)
 rw[e] at this
 exact this rfl
theorem zb7:∀ {a b:List α} {x:List β},a.length=x.length->(a ++ b).zip x=a.zip x
 | [],_,[],_=>List.zip_nil_right
 | _ :: _,_,_ :: _,h=>congrArg (_ :: ·) (zb7 (Nat.succ.inj h))
theorem zhS {A B C:List Str}{D1 D2:List Value}(nd:(A ++ B ++ C).Nodup)(l1:(A ++ B).length=vals.length)(l2:B.length=D1.length)(l3:C.length=D2.length):
  ((A ++ B ++ C).filterMap fun n=>(List.lookup n (((B ++ C).zip (D1 ++ D2)).foldl addSlot ((A ++ B ++ C).zip vals))).map fun v=>(n,v))=(A ++ B ++ C).zip (vals ++ D2):=by
 refine zcb _ _ _ nd (by rw[List.length_append (as:=A ++ B),l1,l3,List.length_append];exact Nat.le_refl _) fun n _=>?_
 rw[qQ,zb7 l1,zQ _ _ _ _ n l1,zQ _ _ _ _ n l2]
 cases hq:((A ++ B).zip vals).lookup n with
 | some v=>rfl
 | none=>rw[yt B D1 n fun hm=>zay l1 (List.mem_append_right _ hm) hq];rfl
inductive Cut {α β:Type}(ns:List α)(ds:List β)(k:Nat):Prop
 | mk (A B C:List α) (D1 D2:List β) (e:ns=A ++ B ++ C) (d:ds=D1 ++ D2) (l1:(A ++ B).length=k) (l2:B.length=D1.length) (l3:C.length=D2.length):Cut ns ds k
theorem cut{ns:List α}{ds:List β}(h1:k<=ns.length)(h2:ns.length<=k+ds.length)(h3:ds.length<=ns.length):Cut ns ds k:=by
 have e1:(ns.take k).length=k:=List.length_take_of_le h1
 have e2:(ns.drop k).length=ns.length - k:=List.length_drop
 obtain⟨c,hn⟩:=Nat.exists_eq_add_of_le h1
 rw[hn] at h2
 obtain⟨d,hd⟩:=Nat.exists_eq_add_of_le (Nat.le_of_add_le_add_left h2)
 rw[Nat.add_comm] at hd
 rw[hn,hd] at h3
 have hk:d<=k:=Nat.le_of_add_le_add_right h3
 have x:d+c+k - (k+c)=d:=by rw[Nat.add_assoc,Nat.add_comm c k];exact Nat.add_sub_cancel _ _
 refine .mk ((ns.take k).take (ns.length - ds.length)) ((ns.take k).drop (ns.length - ds.length)) (ns.drop k) (ds.take (ds.length+k - ns.length)) (ds.drop (ds.length+k - ns.length)) ?_ (List.take_append_drop _ _).symm ?_ ?_ ?_
 ·rw[List.take_append_drop,List.take_append_drop]
 ·rw[List.take_append_drop,e1]
 ·rw[List.length_drop,e1,List.length_take,hn,hd,Nat.add_sub_add_right,Nat.sub_sub_self hk,x,Nat.min_eq_left (Nat.le_add_right _ _)]
 ·rw[e2,List.length_drop,hn,hd,Nat.add_sub_cancel_left,x,Nat.add_sub_cancel_left]
theorem zfg {ns:List Str}(nd:ns.Nodup)(h1:vals.length<=ns.length)(h2:ns.length<=vals.length+ds.length)(h3:ds.length<=ns.length):
  (ns.filterMap fun n=>(List.lookup n (((ns.drop (ns.length - ds.length)).zip ds).foldl addSlot (ns.zip vals))).map fun v=>(n,v))=ns.zip (vals ++ ds.drop (vals.length+ds.length - ns.length)):=by
 obtain⟨A,B,C,D1,D2,rfl,rfl,l1,l2,l3⟩:=cut h1 h2 h3
 have e:(A ++ B ++ C).length - (D1 ++ D2).length=A.length:=by rw[List.append_assoc,List.length_append,show (D1 ++ D2).length=(B ++ C).length by rw[List.length_append,List.length_append,l2,l3],Nat.add_sub_cancel]
 have f:vals.length+(D1 ++ D2).length - (A ++ B ++ C).length=D1.length:=by rw[<- l1,List.length_append (as:=A ++ B),List.length_append (as:=D1),l3,Nat.add_sub_add_left,Nat.add_sub_cancel]
 rw[e,f,List.drop_left]
 have g:(A ++ B ++ C).drop A.length=B ++ C:=by rw[List.append_assoc,List.drop_left]
 rw[g]
 exact zhS nd l1 l2 l3
theorem zdN {M:Model}(hd:DefaultsAre s fd ds){Q:Option (Array Value)->Shared->Prop}(k:∀ r,(r.getD #[]).toList=ds->Q r s):wpAny M A (seqItems? fd.defaults) Q E s:=by
 rcases hd with⟨e,rfl⟩ | ⟨T,o,n,e,g,d⟩
 ·rw[e];exact wpAny_bind (wpAny_pure (wpAny_pure (k _ rfl)))
 ·rw[e];exact wpAny_seqItems g d (k _ (by simp))
theorem zd7(fd:FuncData){as:List Arg}{kd:List (Option Expr)}{df:List Expr}{ns:List Str}(hn:as.map (·.arg)=ns)(nd:ns.Nodup)(hd:DefaultsAre s fd ds)(h1:vals.length<=ns.length)(h2:ns.length<=vals.length+ds.length)(h3:ds.length<=ns.length):
  BindsTo s { fd with params:=⟨[],as,none,[],kd,none,df⟩ } ⟨vals,[]⟩ (ns.zip (vals ++ ds.drop (vals.length+ds.length - ns.length))):=fun M A E Q hq=>by
 rw[<- zfg nd h1 h2 h3] at hq
 have hm:=zaE (ns:=ns) (vals:=vals) (Nat.sub_le_of_le_add h2)
 have h0:ds.drop (ds.length - ns.length)=ds:=by rw[Nat.sub_eq_zero_of_le h3];rfl
 unfold bindArgs
 dsimp only[List.map_nil,List.nil_append]
 generalize as.map (·.arg)=zs at hn ⊢
 cases hn
 refine wpAny_bind (m:=forIn [] _ _) (wpAny_pure (wpAny_bind (zdN hd fun r hr=>?_)))
 rw[hr]
 refine zag (fun h=>Nat.not_lt_of_le h1 (of_decide_eq_true (Bool.and_eq_true_iff.mp h).1)) ?_
 generalize hD:ds.drop (ds.length - _)=D
 cases hD.symm.trans h0
 refine zag (fun h=>?_) (wpAny_bind (zaD (fun p acc=>?_) _ _ (wpAny_bind (m:=forIn [] _ _) (wpAny_pure (zag (fun h=>nomatch h) ?_)))))
 ·change (!(List.filter (fun n=>((ns.zip vals).lookup n).isNone) (ns.take (ns.length - ds.length))).isEmpty)=true at h
  rw[hm] at h;cases h
 ·unfold addSlot
  split <;> rfl
 ·refine wpAny_pure ?_
  rw[show (List.map (fun x:Arg=>x.arg) [] ++ ns ++ List.map (fun x:Arg=>x.arg) [])=ns from List.append_nil _]
  exact hq
theorem zjp {p:Arguments}(hp:p.posonlyargs=[])(hv:p.vararg=none)(hk:p.kwonlyargs=[])(hkw:p.kwarg=none):p=⟨[],p.args,none,[],p.kw_defaults,none,p.defaults⟩:=by
 cases p;cases hp;cases hv;cases hk;cases hkw;rfl
theorem zlh{p:Arguments}(e:fd.params=p):fd={ fd with params:=p }:=by cases e;rfl
theorem za9{ns:List Str}(hp:fd.params.posonlyargs=[])(hv:fd.params.vararg=none)(hk:fd.params.kwonlyargs=[])(hkw:fd.params.kwarg=none)
  (hn:fd.params.args.map (·.arg)=ns) (nd:ns.Nodup) (hd:DefaultsAre s fd ds) (h1:vals.length<=ns.length) (h2:ns.length<=vals.length+ds.length) (h3:ds.length<=ns.length):
  BindsTo s fd ⟨vals,[]⟩ (ns.zip (vals ++ ds.drop (vals.length+ds.length - ns.length))):=by
 rw[zlh (zjp hp hv hk hkw)]
 exact zd7 fd hn nd hd h1 h2 h3
noncomputable def zaY (O:Rho) (h:Heap) (r:Option MV) (fl:Flow):Prop:=match r with
 | .none=>fl=.next
 | some v=>∃ val,fl=.ret val/\zp O h v val
structure zJ (cx:Cx)(env:Env)(O:Rho)(s:Shared)(J':Hp)(ml':Loc)(r:Option MV)(fl:Flow)(s':Shared):Prop where
 ex:∃ O' h' tk,s'={ s with heap:=h',toks:=tk }/\Sim cx O' J' h'/\Ext O s.heap (Wenv env) O' h'/\zL cx env O' h' ml'/\zaY O' h' r fl
noncomputable def SndS (cx:Cx) (k:Nat) (A:Around) (env:Env) (b:List MS) (t:Sem Flow):Prop:=
 ∀ ml J r ml' J' O s,zL cx env O s.heap ml->Sim cx O J s.heap->Mine.execs cx.P (callN cx.P k) b ml J=some (r,ml',J')->wpM cx A t (zJ cx env O s J' ml' r) s
structure qg (A:Around)(k:Nat):Prop where
 hd:A.handled=none
 depth:A.depth+3 * k+1<=900
 units:A.units+20 * k+70 < cLine
theorem qg.room(r:qg A k):xd A k:=⟨r.hd,by have:=r.depth;lia,by have:=r.units;lia⟩
theorem qg.in1(r:qg A k):xd A.in1 k:=⟨r.hd,by have:=r.depth;show A.depth+_<=_;lia,by have:=r.units;show A.units+1+_+_ < _;lia⟩
theorem xd.zii(r:xd A (k+1))(env:Env):qg (A.deeper env) k:=⟨r.hd,by have:=r.depth;show A.depth+1+_+1<=_;lia,by have:=r.units;show A.units+3+_+_ < _;lia⟩
theorem qg.cls(r:qg A k)(C:Addr)(vals:List Value)(kw:List (Str×Value)):xd (A.under (.builtin "type.__call__" ⟨.ref C :: vals,kw⟩)) k:=by
 refine⟨r.hd,?_,?_⟩
 ·have:=r.depth
  show A.depth+1+_<=_
  lia
 ·have:=r.units
  show A.units+1+_+_ < _
  lia
noncomputable def Back (cx:Cx) (O:Rho) (s:Shared) (J':Hp) (v:MV) (r:Result) (s':Shared):Prop:=∃ val,r=.ok (.ret val)/\EPost cx O s J' v val s'
theorem zaY.back{fl:Flow}{w:Value}(S:Sim cx O' J' h')(x:Ext O s.heap W0 O' h')(hr:∀ v,fl=.ret v->w=v)(hn:fl=.next->w=.none):∀ {r:Option MV},zaY O' h' r fl->Back cx O s J' (r.getD .none) (.ok (.ret w)) { s with heap:=h',toks:=tk }
 | .none,h=>⟨_,rfl,O',h',tk,rfl,S,x,hn h ▸ .none⟩
 | some v,⟨val,e,rv⟩=>⟨_,rfl,O',h',tk,rfl,S,x,hr val e ▸ rv⟩
theorem cdB{c:Code}{v:MV}{R:Result->Shared->Prop}(h:codeAny (model cx.prog cx.w) A c (Back cx O s J' v) s)(k:∀ val O' h' tk,Sim cx O' J' h'->Ext O s.heap W0 O' h'->zp O' h' v val->R (.ok (.ret val)) { s with heap:=h',toks:=tk }):codeAny (model cx.prog cx.w) A c R s:=by
 refine codeAny_mono h fun r s' b=>?_
 obtain⟨val,rfl,O',h',tk,rfl,S,x,r⟩:=b
 exact k _ _ _ _ S x r
noncomputable def xP (cx:Cx) (k:Nat):Prop:=∀ (A:Around) (f:Nat) (vs:List MV) (vals:List Value) (O:Rho) (J:Hp) (s:Shared) (v:MV) (J':Hp),xd A k->Sim cx O J s.heap->zc O s.heap vs vals->
 callN cx.P k f vs J=some (v,J')->codeAny (model cx.prog cx.w) A (.call (.ref (cx.fa f)) ⟨vals,[]⟩) (Back cx O s J' v) s
theorem xP.call(h:xP cx k){f:Nat}{vs:List MV}{v:MV}(R:xd A k)(S:Sim cx O J s.heap)(r:zc O s.heap vs vals)
  (q:callN cx.P k f vs J=some (v,J')):wpM cx A (PySem.call (.ref (cx.fa f)) vals) (EPost cx O s J' v) s:=
 wpAny_call (cdB (h A f vs vals O J s v J' R S r q) fun val O' h' tk S' x r=>⟨O',h',tk,rfl,S',x,r⟩)
noncomputable def CellsOk (env:Env):Prop:=∀ n,env.kindOf n=some .cell->∃ c,env.cells.lookup n=some c
structure FnAt (cx:Cx)(f:Nat)(F:MF)(fd:FuncData)(body:List Stmt)(ds:List Value):Prop where
 obj:∃ oc od osl,cx.K.lookup (cx.fa f)=some ⟨oc,od,.func fd,osl⟩
 code:codeIn cx.K fd.code fd.qualname=true
 body:fd.body=.stmts body
 posonly:fd.params.posonlyargs=[]
 vararg:fd.params.vararg=none
 kwonly:fd.params.kwonlyargs=[]
 kwarg:fd.params.kwarg=none
 ns:fd.params.args.map (·.arg)=F.params.map cx.N
 nd:F.params.Nodup
 dfl:(fd.defaults=.none/\ds=[])∨∃ T oc od osl n,fd.defaults=.ref T/\cx.K.lookup T=some ⟨oc,od,.seq ds.toArray n,osl⟩
 dok:∀ O h,zc O h F.dflts ds
 dlen:F.dflts.length<=F.params.length
 kind:fd.scope.kind=.function
 co:fd.scope.isCoroutine=false
 gen:fd.scope.isGenerator=false
 glob:fd.globals=mainGlobals
 bn:fd.builtins=builtinsNs
 clo:fd.closure=[]
 kinds:∀ x∈F.params,fd.scope.names.lookup (cx.N x)=some .local∨fd.scope.names.lookup (cx.N x)=some .cell
theorem wY:∀ (l:List (Str×NameKind)) (n:Nat) (acc:List (Str×Addr)) (x:Str),(acc.lookup x).isSome=true->((cellsFrom n l acc).lookup x).isSome=true
 | []=>fun n acc x h=>h
 | (y,kd) :: r=>fun n acc x h=>by
  unfold cellsFrom
  split
  ·refine wY r _ _ x ?_
   simp only[List.lookup]
   cases x == y <;> simp[h]
  ·exact wY r _ _ x h
theorem qx:∀ (l:List (Str×NameKind)) (n:Nat) (acc:List (Str×Addr)) (x:Str),l.lookup x=some .cell->((cellsFrom n l acc).lookup x).isSome=true
 | []=>fun n acc x h=>by simp at h
 | (y,kd) :: r=>fun n acc x h=>by
  unfold cellsFrom
  simp only[List.lookup] at h
  cases hxy:x == y with
  | true=>
   rw[hxy] at h
   simp only[Option.some.injEq] at h
   subst h
   simp only[beq_self_eq_true,if_true]
   refine wY r _ _ x ?_
   simp only[List.lookup,hxy];rfl
  | false=>
   rw[hxy] at h
   split
   ·exact qx r _ _ x h
   ·exact qx r _ _ x h
section
variable {cx:Cx}{O:Rho}{J:Hp}{s:Shared}{A:Around}{k:Nat}
theorem zax {kindOf:Str->Option NameKind}:∀ (binds:List (Str×Value)) (m:Str->Option Value) (n:Str),(∀ x∈binds,x.1≠n)->bindL kindOf binds m n=m n
 | []=>fun m n _=>rfl
 | (y,v) :: r=>fun m n h=>by
  unfold bindL
  rw[zax r _ n fun x hx=>h x (.tail _ hx)]
  have:n≠y:=fun e=>h (y,v) (.head _) e.symm
  split <;> simp[this]
theorem zaJ {kindOf:Str->Option NameKind}:∀ (binds:List (Str×Value)) (m:Str->Option Value) (n:Str),(∀ x∈binds,x.1≠n)->bindC kindOf binds m n=m n
 | []=>fun m n _=>rfl
 | (y,v) :: r=>fun m n h=>by
  unfold bindC
  rw[zaJ r _ n fun x hx=>h x (.tail _ hx)]
  have:n≠y:=fun e=>h (y,v) (.head _) e.symm
  split <;> simp[this]
theorem zaz{y:Nat}(hj:∀ x y,cx.N x=cx.N y->x=y)(h:y ∉ xs):∀ p∈(xs.map cx.N).zip vals,p.1≠cx.N y:=fun p hp e=>by
 have:=List.of_mem_zip hp
 obtain⟨x,hx,e2⟩:=List.mem_map.mp this.1
 exact h (hj _ _ (e2.trans e) ▸ hx)
inductive zjR (O:Rho)(h:Heap)(v:MV)(isL inX:Prop)(l c:Option Value):Prop
 | mk (val:Value) (r:zp O h v val) (m:inX) (a:isL->l=some val) (b:¬ isL->c=some val):zjR O h v isL inX l c
theorem kZ (hj:∀ x y,cx.N x=cx.N y->x=y){kindOf:Str->Option NameKind}{y:Nat}{v:MV}:∀ (xs:List Nat) (vs:List MV) (vals:List Value) (m c:Str->Option Value),xs.Nodup->zc O h vs vals->bindP xs vs y=some v->
  zjR O h v (kindOf (cx.N y)=some .local) (y∈xs) (bindL kindOf ((xs.map cx.N).zip vals) m (cx.N y)) (bindC kindOf ((xs.map cx.N).zip vals) c (cx.N y))
 | [],[]=>fun vals m c _ _ e=>nn e
 | [],_ :: _=>fun vals m c _ _ e=>nn e
 | x :: xs,[]=>fun vals m c _ _ e=>nn e
 | x :: xs,w :: vs=>fun vals m c nd r e=>by
  have nd:=List.nodup_cons.mp nd
  refine wCons r fun val vals a r=>?_
  have e:(if y=x then some w else bindP xs vs y)=some v:=e
  rw[List.map_cons,List.zip_cons_cons]
  by_cases hyx:y=x
  ·rw[if_pos hyx] at e
   cases e
   rw[hyx]
   refine .mk val a (.head _) (fun hk=>?_) fun hk=>?_
   ·unfold bindL;rw[zax _ _ _ (zaz hj nd.1),if_pos hk];exact if_pos rfl
   ·unfold bindC;rw[zaJ _ _ _ (zaz hj nd.1),if_neg hk];exact if_pos rfl
  ·rw[if_neg hyx] at e
   obtain⟨val',b1,b2,b3,b4⟩:=kZ hj xs vs vals (if kindOf (cx.N x)=some .local then fun y=>if y=cx.N x then some val else m y else m) (if kindOf (cx.N x)=some .local then c else fun y=>if y=cx.N x then some val else c y) nd.2 r e
   exact .mk val' b1 (.tail _ b2) b3 b4
theorem zea (B:Base cx)(nd:xs.Nodup)(rf:zc O h full fvals)(kind:env.scope.kind=.function)(glob:env.globals=mainGlobals)(bn:env.builtins=builtinsNs)(CO:CellsOk env)
  (kinds:∀ x∈xs,env.kindOf (cx.N x)=some .local∨env.kindOf (cx.N x)=some .cell) (hns:hO.Ns env.locals (bindL env.kindOf ((xs.map cx.N).zip fvals) fun _=>none)) (hcell:∀ n c,env.cells.lookup n=some c->hO.IsCell c (bindC env.kindOf ((xs.map cx.N).zip fvals) (fun _=>none) n))
  (inj:∀ n m c,env.cells.lookup n=some c->env.cells.lookup m=some c->n=m) (above:∀ n c,env.cells.lookup n=some c->env.locals < c) (xa:Ext O h W0 O hO) (nR:∀ c,env.locals<=c->¬ inR O c) (sz:cx.hJ.objs.size<=env.locals):zL cx env O hO (bindP xs full):=by
 have BA:=fun {y v}=>kZ (cx:=cx) (O:=O) (h:=h) B.inj (kindOf:=env.kindOf) (y:=y) (v:=v) xs full fvals (fun _=>none) (fun _=>none) nd rf
 refine⟨kind,glob,bn,⟨_,hns,fun y v e hk=>?_⟩,fun y v e hk=>?_,fun n c hc=>?_,inj,⟨nR _ (Nat.le_refl _),sz⟩⟩
 ·obtain⟨val,b1,_,b3,_⟩:=BA e
  exact⟨val,b3 hk,xa.yR b1⟩
 ·obtain⟨val,b1,b2,_,b4⟩:=BA e
  have hl:¬ env.kindOf (cx.N y)=some .local:=fun z=>by rw[z] at hk;rcases hk with hk | hk <;> cases hk
  obtain⟨c,hcc⟩:=CO _ ((kinds y b2).resolve_left hl)
  exact⟨c,val,hcc,b4 hl ▸ hcell _ _ hcc,xa.yR b1⟩
 ·have:=above n c hc
  exact⟨nR _ (Nat.le_of_lt this),Nat.ne_of_gt this,Nat.le_trans sz (Nat.le_of_lt this),_,hcell n c hc⟩
theorem zit (B:Base cx){f:Nat}{F:MF}(FA:FnAt cx f F fd body ds)(hP:cx.P.fn f=some F)
  (hb:∀ A env,qg A k->env.scope=fd.scope->CellsOk env->SndS cx k A env F.body (PySem.execs body env)) (R:xd A (k+1)) (S:Sim cx O J s.heap) {vs:List MV} {vals:List Value} (r:zc O s.heap vs vals) {v:MV} {J':Hp}
  (q:callN cx.P (k+1) f vs J=some (v,J')):codeAny (model cx.prog cx.w) A (.call (.ref (cx.fa f)) ⟨vals,[]⟩) (Back cx O s J' v) s:=by
 have q:oX (cx.P.fn f) .none (fun F=>(fullArgs F vs).bind fun full=>(Mine.execs cx.P (callN cx.P k) F.body (bindP F.params full) J).bind fun r=>some (r.1.getD .none,r.2.2))=some (v,J'):=q
 rw[hP] at q
 refine bG q fun full q1 q=>bG3 q fun res ml' J1 q2 q=>pG q ?_
 clear q
 revert q2
 refine iG q1 fun hl q1=>sG q1 fun q2=>?_
 clear q1
 obtain⟨oc,od,osl,ho⟩:=FA.obj
 have X:=S.K B
 have hlenF:=(FA.dok O s.heap).length
 have hvl:=r.length
 have rf:zc O s.heap (vs ++ F.dflts.drop (vs.length+F.dflts.length - F.params.length)) (vals ++ ds.drop (vals.length+ds.length - (F.params.map cx.N).length)):=by
  refine r.append ?_
  rw[List.length_map,<- hvl,<- hlenF]
  exact (FA.dok O s.heap).drop _
 have bt:BindsTo s fd ⟨vals,[]⟩ ((F.params.map cx.N).zip (vals ++ ds.drop (vals.length+ds.length - (F.params.map cx.N).length))):=by
  refine za9 FA.posonly FA.vararg FA.kwonly FA.kwarg FA.ns (List.Pairwise.map _ (fun x y hxy e=>hxy (B.inj _ _ e)) FA.nd) ?_ ?_ ?_ ?_
  ·rcases FA.dfl with h | ⟨T,oc,od,osl,n,e,h⟩
   ·exact .inl h
   ·exact .inr ⟨T,_,n,e,X _ _ h,rfl⟩
  ·rw[List.length_map,<- hvl];exact hl.2
  ·rw[List.length_map,<- hvl,<- hlenF];exact Nat.le_add_of_sub_le hl.1
  ·rw[List.length_map,<- hlenF];exact FA.dlen
 refine codeAny_call_function (Nat.lt_of_lt_of_le (Nat.lt_succ_of_le (Nat.le_trans (Nat.le_add_right _ _) R.depth)) (by decide)) (X _ _ ho) rfl FA.co FA.gen FA.body (codeRec_of X FA.code) (bt _ _ _ _ ?_)
 rw[FA.clo]
 clear bt
 generalize vals ++ ds.drop (vals.length+ds.length - (F.params.map cx.N).length)=fvals at rf ⊢
 generalize vs ++ F.dflts.drop (vs.length+F.dflts.length - F.params.length)=full at rf q2
 refine wpAny_newFunctionEnv_cells FA.kind (fun p hp=>?_) fun env he se x=>?_
 ·obtain⟨x,hx,e⟩:=List.mem_map.mp (List.of_mem_zip hp).1
  rw[<- e]
  exact (FA.kinds x hx).imp_right fun h=>⟨h,qx _ _ _ _ h⟩
 obtain⟨⟨⟨hO,tk1,rfl⟩,hns,hkeep,hfresh⟩,hcell,hapart,habove⟩:=x
 refine⟨(B.lim.keeps S.base).keeps hkeep,?_⟩
 obtain⟨Sa,xa⟩:=zZ S hkeep (Nat.le_trans hfresh (Nat.le_of_lt hns.lt))
 have scope:env.scope=fd.scope:=by rw[he];rfl
 have CO:CellsOk env:=fun n hn=>Option.isSome_iff_exists.mp (by
  rw[he] at hn ⊢;exact qx _ _ _ _ hn)
 have above:∀ n c,env.cells.lookup n=some c->env.locals < c:=fun n c hc=>habove n c (mem_of_lookup hc)
 have E1:=zea B FA.nd rf (scope ▸ FA.kind) (by rw[he];exact FA.glob) (by rw[he];exact FA.bn) CO (fun x hx=>by show env.scope.names.lookup _=_∨env.scope.names.lookup _=_;rw[scope];exact FA.kinds x hx) hns hcell
  (fun n m c h1 h2=>name_of_addr hapart (mem_of_lookup h1) (mem_of_lookup h2)) above xa (fun c hc z=>Nat.lt_irrefl _ (Nat.lt_of_lt_of_le (S.lt z) (Nat.le_trans hfresh hc))) (Nat.le_trans S.size hfresh)
 refine codeAny_func (wpAny_mono (hb _ env (R.zii env) scope CO _ _ _ _ _ O _ E1 Sa q2) (fun fl s' p=>?_) fun _ _ z=>z.elim)
 obtain⟨O',h',tk,rfl,S',x',_,fr⟩:=p
 have xx:Ext O s.heap W0 O' h':=
  Ext.narrow (W:=Wenv env) ((xa.weaken (W':=Wenv env) fun _ z=>z.elim).trans x') fun b hb=>.inr (Heap.get?_none_of_le (Nat.le_trans hfresh (hb.elim (fun e=>Nat.le_of_eq e.symm) fun⟨n,hc⟩=>Nat.le_of_lt (above n b hc))))
 exact fr.back S' xx (fun _ e=>by rw[e]) fun e=>by rw[e]
end
section
variable {cx:Cx}{k:Nat}{A:Around}{env:Env}
theorem yM (B:Base cx){fv:Value}(hk:keepIn cx.K fv=true)(L:zbJ cx k A env es ts){vs:List MV}(E:zL cx env O s.heap ml)(S:Sim cx O J s.heap)
  (q:evalL cx.P (callN cx.P k) es ml J=some (vs,J')) {Q:Value->Shared->Prop}
  (h:∀ vals O' h' tk,Sim cx O' J' h'->Ext O s.heap W0 O' h'->zc O' h' vs vals->wpM cx A (call fv (first ++ vals)) Q { s with heap:=h',toks:=tk }):wpM cx A (callWith pos fv first ts []) Q s:=
 callWith_of (by rw[L.plain];rfl) (keeps_K hk) (yz L E S q fun vals O' h' tk S' x r=>⟨S'.K B (s:={ s with heap:=h',toks:=tk }),h vals O' h' tk S' x r⟩)
theorem zdk (B:Base cx)(R:qg A k)(C:xP cx k){f:Nat}{x:Str}(L:zbJ cx k A env es (backTo pos (starEach res env)))(hx:env.kindOf x=some .globalImplicit)(hd:(x == ("__debug__" : Str))=false)
  (hv:nsIn cx.K mainGlobals x=some (some (.ref (cx.fa f)))) (hk:keepIn cx.K (.ref (cx.fa f))=true):SndE cx k A env (.f f es) (PySem.eval (.Call (.Name x p) res [] pos) env):=fun ml J v J' O s E S q=>by
 exact bG2 q fun vs J1 q1 q2=>Call_Name rfl (wO B E S hx hd hv (yM B hk L E S q1 fun vals O' h' tk S' x r=>wpA x (C.call (s:={ s with heap:=h',toks:=tk }) R.room S' r q2)))
structure Made (cx:Cx)(c f:Nat):Prop where
 makes:makesIn cx.K (cx.ca c)=true
 init:findIn cx.K (.ref (cx.ca c)) "__init__" = some (some (.ref (cx.fa f)))
 fn:typeIn cx.K (.ref (cx.fa f))=some (.type "function")
theorem zfe(S:Sim cx O J h)(c:Nat){P:Prop}(k:∀ O':Rho,Sim cx O' (J ++ [.inst c []]) ((h.push emptyDict).push (instObj (cx.ca c) h.objs.size))->Ext O h W0 O' ((h.push emptyDict).push (instObj (cx.ca c) h.objs.size))->(∃ d,O'[J.length]?=some (h.objs.size+1,d))->P):P:=by
 have g1:((h.push emptyDict).push (instObj (cx.ca c) h.objs.size)).get? (h.objs.size+1)=some (instObj (cx.ca c) h.objs.size):=by
  have:=Heap.get?_push_size (h.push emptyDict) (o:=instObj (cx.ca c) h.objs.size) rfl
  rwa [Heap.size_push] at this
 have nR:∀ b,h.objs.size<=b->¬ inR O b:=fun b hb z=>Nat.lt_irrefl _ (Nat.lt_of_lt_of_le (S.lt z) hb)
 obtain⟨a1,a2,a3,_⟩:=((S.push emptyDict).push (instObj (cx.ca c) h.objs.size)).adopt ((Ext.push O h W0 emptyDict).trans (Ext.push O (h.push emptyDict) W0 (instObj (cx.ca c) h.objs.size)))
  (p:=(h.objs.size+1,h.objs.size)) (o:=.inst c []) ⟨Nat.ne_of_lt (Nat.lt_succ_self _),⟨_,g1⟩,[],0,Heap.get?_push_of_some _ (Heap.get?_push_size _ rfl),.nil⟩ (nR _ (Nat.le_succ _)) (nR _ (Nat.le_refl _)) (Nat.le_succ _) (Nat.le_refl _) S.size
 exact k _ a1 a2 ⟨_,a3⟩
theorem zdZ (B:Base cx)(R:qg A k)(C:xP cx k){f:Nat}{x:Str}(L:zbJ cx k A env es (backTo pos (starEach res env)))(hx:env.kindOf x=some .globalImplicit)(hd:(x == ("__debug__" : Str))=false)
  (hv:nsIn cx.K mainGlobals x=some (some (.ref (cx.ca c)))) (hk:keepIn cx.K (.ref (cx.ca c))=true) (hi:cx.P.init c=some f) (M:Made cx c f):SndE cx k A env (.c c es) (PySem.eval (.Call (.Name x p) res [] pos) env):=fun ml J v J' O s E S q=>by
 refine bG2 q fun vs J1 q1 q=>bG q fun f' hf q=>bG2 q fun w Ja q2 q3=>?_
 cases hi.symm.trans hf
 refine Call_Name rfl (wO B E S hx hd hv (yM B hk L E S q1 fun vals O' h' tk S' x r=>?_))
 have X:=S'.K B (s:={ s with heap:=h',toks:=tk })
 refine wpAny_call (make_core (makes_of X M.makes) (looks_findIn X M.init) (fun self=>bind_fn X self M.fn) (.inl rfl) (zfe S' c fun O2 a1 a2 ⟨d,a3⟩=>?_))
 refine cdB (C _ f (.ref J1.length :: vs) (.ref (h'.objs.size+1) :: vals) _ _ ⟨(h'.push emptyDict).push (instObj (cx.ca c) h'.objs.size),s.gens,s.drawn,tk,s.os⟩ _ _ (R.cls _ _ _) a1 (.cons (.ref a3) (a2.qi r)) q2) fun val O3 hU tk3 S3 xh rj=>?_
 revert rj
 exact eNG (v:=w) q3 fun q rj=>vNo rj (pG q ⟨rfl,O3,hU,tk3,rfl,S3,x.trans (a2.trans xh),.ref (xh.at a3)⟩)
theorem zgd (B:Base cx)(R:qg A k)(C:xP cx k)(CL:Cls cx){x:Nat}{apos:Pos}{a:ME}(ha:SndE cx k A env a (PySem.eval ra env))(hb:baseFree ra=true)(L:zbJ cx k A env es (backTo pos (starEach res env)))(hn:res.length < 30)
  (hline:(apos.endLine == pos.line)=true) (hkp:∀ c f,cx.P.meth c x=some f->keepIn cx.K (.ref (cx.fa f))=true):SndE cx k A env (.m a x es) (PySem.eval (.Call (.Attribute ra (cx.N x) apos) res [] pos) env):=fun ml J v J' O s E S q=>by
 refine bG2 q fun va J1 q1 q=>?_
 rw[arm_eval_Call]
 refine wpAny_bind (zbl hb (wpE (ha ml J va J1 O s E S q1) fun o O1 hO tk1 Sa xa rg=>wpAny_bind (wpAny_standAt ?_)))
 clear q1 S
 refine eRG (P:=fun va=>zp O1 hO va o->_) q (fun i q rg=>qIG q fun c l e0 q=>bG q fun f hm q=>?_) rg
 have hp:methodCallPos true ra env apos pos=pure pos:=by unfold methodCallPos;simp[hline]
 unfold methodCall
 rw[zeY L hn]
 refine wpAny_bind (wpAny_holding ?_)
 obtain⟨ad,d,sl,es',n,rfl,e1,ne,g,g2,rr⟩:=Sim.inst (s:={ s with heap:=hO,toks:=tk1 }) Sa rg e0
 obtain⟨c1,c2,c3⟩:=CL.meth c x f hm
 refine oXG (P:=fun o=>lk x l=o->_) q (fun q hl=>bG2 q fun vs Ja q2 q3=>?_) (fun _ q=>nn q) rfl
 refine method_fn (Sa.K B (s:={ s with heap:=hO,toks:=tk1 })) (zca g g2) (plainGet_of c1).1 (plainGet_of c1).2 c2 (beq_iff_eq.mp c3) (by show (lookIn (cx.N x) (dictOf es' n)).map _=_;rw[lookIn_dict,rr.ziF B.inj hl];rfl) (wpAny_bind (wpAny_of_eq hp ?_))
 refine yM B (hkp c f hm) (s:={ s with heap:=hO,toks:=tk1 }) L (E.ext xa) Sa q2 fun vals O' h' tk S' x' r=>?_
 exact wpAny_mono (C.call (s:={ s with heap:=h',toks:=tk }) R.room S' (.cons (x'.yR rg) r) q3) (fun _ _ p=>(p.after x').after xa) fun _ _ z=>z
end
mutual
theorem zi5:∀ (a b:MV),MV.beq a b=true->a=b
 | .none=>fun b h=>by cases b with | none=>rfl | _=>exact ff h
 | .bool x=>fun b h=>by cases b with | bool y=>exact congrArg MV.bool (beq_iff_eq.mp h) | _=>exact ff h
 | .int x=>fun b h=>by cases b with | int y=>exact congrArg MV.int (of_decide_eq_true h) | _=>exact ff h
 | .str x=>fun b h=>by cases b with | str y=>exact congrArg MV.str (beq_iff_eq.mp h) | _=>exact ff h
 | .ref x=>fun b h=>by cases b with | ref y=>exact congrArg MV.ref (Nat.eq_of_beq_eq_true h) | _=>exact ff h
 | .tup x=>fun b h=>by cases b with | tup y=>exact congrArg MV.tup (za8 x y h) | _=>exact ff h
theorem za8:∀ (a b:List MV),MV.beqs a b=true->a=b
 | []=>fun b h=>by cases b with | nil=>rfl | cons _ _=>exact ff h
 | x :: a=>fun b h=>by
  cases b with
  | nil=>exact ff h
  | cons y b=>rw[zi5 _ _ (Bool.and_eq_true_iff.mp h).1,za8 _ _ (Bool.and_eq_true_iff.mp h).2]
end
theorem lst_is {l:List MV}{o:Option za}(h:isLst l o=true):o=some (.list l):=by
 cases o with
 | none=>exact ff h
 | some o=>cases o with
  | list x=>exact congrArg (fun l=>some (za.list l)) (za8 x l h)
  | _=>exact ff h
theorem zj2 {o:Option za}(h:isHid o=true):o=some .hid:=by
 cases o with
 | none=>exact ff h
 | some o=>cases o with
  | hid=>rfl
  | _=>exact ff h
theorem xj(h:chkOk J chk=true){i:Nat}{l:List MV}(hm:(i,some l)∈chk):J[i]?=some (.list l):=lst_is (List.all_eq_true.mp h _ hm)
theorem ziw(h:chkOk J chk=true){i:Nat}(hm:(i,Option.none)∈chk):J[i]?=some .hid:=zj2 (List.all_eq_true.mp h _ hm)
structure Own (cx:Cx)(O:Rho)(h:Heap)(b:Addr):Prop where
 n:¬ inR O b
 z:cx.hJ.get? b=none
 g:∃ o,h.get? b=some o/\o.cls≠.type "tuple"
theorem Own.t{b:Addr}(x:Own cx O h b):ym h b:=by obtain⟨o,g,c⟩:=x.g;exact zM g c
theorem Own.lt{b:Addr}(x:Own cx O h b):b < h.objs.size:=by obtain⟨o,g,c⟩:=x.g;exact Heap.lt_size g
structure xr (cx:Cx)(A:Around)(I:Addr)(q:List MV)(chk:List (Nat×Option (List MV)))(tt:Bool)(W:Addr->Prop)(St:Nat->Rho->Heap->Prop)(Mid:Nat->Value->Rho->Heap->Prop):Prop where
 keep:∀ {i O h O' h' W'},St i O h->Ext O h W' O' h'->WOk h W'->(∀ b,W b->¬ W' b)->St i O' h'
 own:∀ {i O h},St i O h->∀ b,W b->Own cx O h b
 ownM:∀ {i v O h},Mid i v O h->∀ b,W b->Own cx O h b
 next:∀ {i O J m} {s:Shared} {Q:Option Value->Shared->Prop} {E:Value->Shared->Prop},q[i]?=some m->St i O s.heap->Sim cx O J s.heap->chkOk J chk=true->
  (∀ v h' tk,Sim cx O J h'->Ext O s.heap W O h'->Mid i v O h'->zp O h' m v->Q (some v) { s with heap:=h',toks:=tk })->wpAny (model cx.prog cx.w) A (pyNext (.ref I)) Q E s
 go:∀ {i v O J} {s:Shared} {target} {Q:Unit->Shared->Prop} {E:Value->Shared->Prop},(tt=true->∃ elts k pos,target=.Tuple elts k pos)->Mid i v O s.heap->Sim cx O J s.heap->
  (∀ h' tk,Sim cx O J h'->Ext O s.heap W O h'->St (i+1) O h'->Q () { s with heap:=h',toks:=tk })->wpAny (model cx.prog cx.w) A (letOwnedTupleGo target (.ref I) v) Q E s
 done:∀ {O J} {s:Shared} {Q:Option Value->Shared->Prop} {E:Value->Shared->Prop},St q.length O s.heap->Sim cx O J s.heap->chkOk J chk=true->
  (∀ h' tk,Sim cx O J h'->Ext O s.heap W O h'->Q none { s with heap:=h',toks:=tk })->wpAny (model cx.prog cx.w) A (pyNext (.ref I)) Q E s
 self:∀ {i O} {s:Shared} {Q:Value->Shared->Prop} {E:Value->Shared->Prop},St i O s.heap->Q (.ref I) s->wpAny (model cx.prog cx.w) A (pyIter (.ref I)) Q E s
theorem ite_no{c:Bool}{x y:Sem Unit}{Q:Unit->Shared->Prop}(hc:c=false)(h:wpAny (model cx.prog cx.w) A y Q E s):wpAny (model cx.prog cx.w) A (if c=true then x else y) Q E s:=by
 rw[hc];exact h
theorem zgg{Q:Unit->Shared->Prop}{o:Obj}{n:String}(ho:s.heap.get? I=some o)(hc:o.cls=.type n)
  (hn:(["enumerate", "zip", "dict_itemiterator", "dict_reverseitemiterator", "odict_iterator", "itertools.zip_longest", "itertools.pairwise"]:List String).contains n=false) (h:Q () s):wpAny (model cx.prog cx.w) A (letOwnedTupleGo target (.ref I) v) Q E s:=by
 obtain⟨c,d,dt,sl⟩:=o
 cases (show c=.type n from hc)
 have key:∀ e k p a,wpAny (model cx.prog cx.w) A (letOwnedTupleGo (.Tuple e k p) (.ref I) (.ref a)) Q E s:=fun e k p a=>by
  refine wpAny_bind (wpAny_load ho ?_)
  cases dt with
  | fields vs=>exact ite_no (by rw[hn];rfl) (wpAny_pure h)
  | _=>exact wpAny_pure h
 cases target with
 | Tuple e k p=>cases v with
  | ref a=>exact key e k p a
  | _=>exact wpAny_pure h
 | List e p=>cases v with
  | ref a=>exact key [] 0 p a
  | _=>exact wpAny_pure h
 | _=>exact wpAny_pure h
section
variable {cx:Cx}{A:Around}{O:Rho}{J:Hp}{s:Shared}{I:Addr}
theorem Own.wok(Jjb:∀ b,W b->Own cx O h b):WOk h W:=fun b hb=>(Jjb b hb).t
theorem qP{P:Prop}(S:Sim cx O J h)(Jjb:∀ b,W b->Own cx O h b)(k:∀ b o,h.get? b=some o->¬ W b->h'.get? b=some o)(hs:h.objs.size<=h'.objs.size)(q:Sim cx O J h'->Ext O h W O h'->P):P:=by
 obtain⟨a,b⟩:=S.other (Own.wok Jjb) k (fun b hb=>⟨(Jjb b hb).n,(Jjb b hb).z⟩) hs
 exact q a b
theorem zb6 {b:Addr}{l:List Addr}(w:∀ c∈l,W c)(h:¬ W b):b ∉ l:=fun m=>h (w b m)
structure ItK (I:Addr)(T:String)(It:Nat->Heap->Prop):Prop where
 get:∀ {i h},It i h->∃ o,h.get? I=some o/\o.cls=.type T/\∀ h',h'.get? I=some o->It i h'
 nt:T ≠ "tuple"
 ns:(["enumerate", "zip", "dict_itemiterator", "dict_reverseitemiterator", "odict_iterator", "itertools.zip_longest", "itertools.pairwise"]:List String).contains T=false
structure PSt (cx:Cx)(I:Addr)(It:Nat->Heap->Prop)(Src:Rho->Heap->Prop)(i:Nat)(O:Rho)(h:Heap):Prop where
 it:It i h
 src:Src O h
 n:¬ inR O I
 z:cx.hJ.get? I=none
theorem PSt.own(K:ItK I T It){i:Nat}(x:PSt cx I It Src i O h):Own cx O h I:=by
 obtain⟨o,g,c,_⟩:=K.get x.it
 exact⟨x.n,x.z,_,g,fun e=>K.nt (by rw[c] at e;cases e;rfl)⟩
noncomputable def Stays (Src:Rho->Heap->Prop):Prop:=∀ {O h O' h' W'},Src O h->Ext O h W' O' h'->WOk h W'->Src O' h'
theorem PSt.keep(K:ItK I T It)(Y:Stays Src){i:Nat}(st:PSt cx I It Src i O h)(x:Ext O h W' O' h')(w:WOk h W')(hw:¬ W' I):PSt cx I It Src i O' h':=by
 obtain⟨o,g,c,k⟩:=K.get st.it
 exact⟨k _ (x.keep _ _ g st.n hw),Y st.src x w,x.yh g st.n,st.z⟩
inductive Drawn (cx:Cx)(A:Around)(I:Addr)(q:List MV)(It:Nat->Heap->Prop)(O:Rho)(h:Heap):Prop
 | mk {fp:List Addr} {P:Nat->Value->Prop} {X:Heap->Prop} (wk:Walks cx.prog cx.w A I fp [I] q.length P (fun i h=>It i h/\X h)) (x:X h) (r:∀ i m v,q[i]?=some m->P i v->zp O h m v):Drawn cx A I q It O h
theorem xA(K:ItK I T It)(Y:Stays Src)
  (D:∀ {O J} {s:Shared},Src O s.heap->Sim cx O J s.heap->chkOk J chk=true->Drawn cx A I q It O s.heap)
  (F:∀ {i} {s:Shared} {Q:Value->Shared->Prop} {E:Value->Shared->Prop},It i s.heap->Q (.ref I) s->wpAny (model cx.prog cx.w) A (pyIter (.ref I)) Q E s):xr cx A I q chk false (·=I) (PSt cx I It Src) (fun i _ O h=>PSt cx I It Src (i+1) O h) where
 keep:=fun st x w hw=>st.keep K Y x w (hw I rfl)
 own:=fun st b hb=>hb ▸ st.own K
 ownM:=fun st b hb=>hb ▸ st.own K
 next:=fun {i O J m s Q E} hm st S hc k=>by
  obtain⟨wk,x,r⟩:=D st.src S hc
  have Jjb:∀ b,b=I->Own cx O s.heap b:=fun b hb=>hb ▸ st.own K
  exact zy (Nat.le_refl _) (wk.item i s _ _ (List.getElem?_eq_some_iff.mp hm).1 ⟨st.it,x⟩ fun v h' tk hP st' hk hs=>
   qP S Jjb (fun b o e hb=>hk b o (zb6 (fun c hc=>List.mem_singleton.mp hc) hb) e) hs fun S' y=>k v h' tk S' y ⟨st'.1,Y st.src y (Own.wok Jjb),st.n,st.z⟩ ((r i m v hm hP).mono y (Own.wok Jjb)))
 go:=fun {i v O J s target Q E} _ st S k=>by
  obtain⟨o,g,c,_⟩:=K.get st.it
  exact zgg g c K.ns (k s.heap s.toks S (Ext.refl ..) st)
 done:=fun {O J s Q E} st S hc k=>by
  obtain⟨wk,x,r⟩:=D st.src S hc
  have Jjb:∀ b,b=I->Own cx O s.heap b:=fun b hb=>hb ▸ st.own K
  exact zy (Nat.le_refl _) (wk.done s _ _ ⟨st.it,x⟩ fun h' tk hk hs=>qP S Jjb (fun b o e hb=>hk b o (zb6 (fun c hc=>List.mem_singleton.mp hc) hb) e) hs fun S' y=>k h' tk S' y)
 self:=fun st h=>F st.it h
theorem zbh {l:List MV}{vs:List Value}(rr:zc O h l vs){i:Nat}(hm:l[i]?=some m)(hv:vs.toArray[i]?=some v):zp O h m v:=by
 obtain⟨v',hv',rv⟩:=rr.get hm
 rw[show vs.toArray[i]?=some v' by simpa using hv'] at hv
 exact Option.some.inj hv ▸ rv
theorem kLi:ItK I "list_iterator" (fun i h=>h.IsListIter I a i):=⟨fun w=>w.elim fun o w=>⟨o,w.1,w.2.1,fun h' g'=>⟨o,g',w.2⟩⟩,by decide,by decide⟩
noncomputable def zid (j:Nat) (a:Addr) (O:Rho) (_:Heap):Prop:=O[j]?=some (a,a)
theorem zid.stays:Stays (zid j a):=fun e x _=>x.at e
theorem zbk(hh:A.handled=none)(ne:a≠I):xr cx A I q [(j,some q)] false (·=I) (PSt cx I (fun i h=>h.IsListIter I a i) (zid j a)) (fun i _ O h=>PSt cx I (fun i h=>h.IsListIter I a i) (zid j a) (i+1) O h):=
 xA kLi zid.stays (fun {O J s} e S hc=>S.pL (xj hc (.head _)) e fun vs n _ g rr=>by
  have W:=Walks.list (prog:=cx.prog) (w:=cx.w) (A:=A) hh I a ne vs.toArray
  rw[List.size_toArray,<- rr.length] at W
  exact .mk W (zx g) fun i m v hm hv=>zbh rr hm hv) fun it h=>wpAny_pyIter_listiter it h
theorem kTu:ItK I "tuple_iterator" (fun i h=>h.IsTupleIter I a i):=⟨fun w=>w.elim fun o w=>⟨o,w.1,w.2.1,fun h' g'=>⟨o,g',w.2⟩⟩,by decide,by decide⟩
structure zjS (a:Addr)(vs:List Value)(q:List MV)(O:Rho)(h:Heap):Prop where
 t:h.IsTuple a (List.toArray vs)
 n:¬ inR O a
 r:zc O h q vs
theorem zjS.stays{vs:List Value}:Stays (zjS a vs q):=fun {O h O' h' W'} st x w=>by
 obtain⟨t,n,r⟩:=st
 obtain⟨ot,gt,ct,dt⟩:=id t
 exact⟨⟨ot,x.keep _ _ gt n (fun hb=>w _ hb _ t),ct,dt⟩,x.yh gt n,r.mono x w⟩
theorem km{vs:List Value}(hh:A.handled=none)(ne:a≠I):xr cx A I q [] false (·=I) (PSt cx I (fun i h=>h.IsTupleIter I a i) (zjS a vs q)) (fun i _ O h=>PSt cx I (fun i h=>h.IsTupleIter I a i) (zjS a vs q) (i+1) O h):=
 xA kTu zjS.stays (fun {O J s} t S hc=>by
  have W:=Walks.tuple (prog:=cx.prog) (w:=cx.w) (A:=A) hh I a ne vs.toArray
  rw[List.size_toArray,<- t.r.length] at W
  exact .mk W t.t fun i m v hm hv=>zbh t.r hm hv) fun it h=>wpAny_pyIter_tupleiter it h
noncomputable def SIt (I:Addr) (x:List Nat) (t:Tok) (i:Nat) (h:Heap):Prop:=h.IsStrIter I (strIterType (toS x)) (toS x) t i
noncomputable def Any (_:Rho) (_:Heap):Prop:=True
theorem Any.stays:Stays Any:=fun _ _ _=>trivial
theorem kSt {x:List Nat}{t:Tok}:ItK I (strIterType (toS x)) (SIt I x t):=⟨fun w=>w.elim fun o w=>⟨o,w.1,w.2.1,fun h' g'=>⟨o,g',w.2⟩⟩,by unfold strIterType;split <;> decide,by unfold strIterType;split <;> decide⟩
theorem zeU (hh:A.handled=none)(x:List Nat)(t:Tok):Walks cx.prog cx.w A I [I] [I] (toS x).cps.size (SignAt (toS x)) (fun i h=>SIt I x t i h/\True):=by
 have W:Walks cx.prog cx.w A I [I] [I] (toS x).cps.size (SignAt (toS x)) (SIt I x t):=by
  unfold SIt strIterType
  split
  ·exact Walks.strAscii hh I (toS x) t
  ·exact Walks.strWide hh I (toS x) t
 rwa [show (fun i h=>SIt I x t i h/\True)=SIt I x t from funext fun i=>funext fun h=>and_true _]
theorem zgE {x:List Nat}{i:Nat}(hm:(chrs x)[i]?=some m)(hv:SignAt (toS x) i v):zp O h m v:=by
 obtain⟨c,u,e,rfl⟩:=hv
 have e':x[i]?=some c:=by simpa[toS] using e
 simp only[chrs,List.getElem?_map,e',Option.map_some,Option.some.injEq] at hm
 subst hm
 exact .str [c] u
theorem zb8 (x:List Nat):(toS x).cps.size=(chrs x).length:=by simp[chrs,toS]
theorem zcy {x:List Nat}{t:Tok}(hh:A.handled=none):xr cx A I (chrs x) [] false (·=I) (PSt cx I (SIt I x t) Any) (fun i _ O h=>PSt cx I (SIt I x t) Any (i+1) O h):=
 xA kSt Any.stays (fun {O J s} _ S hc=>.mk (zb8 x ▸ zeU hh x t) trivial fun i m v hm hv=>zgE hm hv) fun {i s Q E} it h=>by
  unfold SIt strIterType at it
  split at it
  ·exact wpAny_pyIter_striter_ascii it h
  ·exact wpAny_pyIter_striter_wide it h
noncomputable def RIt (I:Addr) (n i:Nat) (h:Heap):Prop:=IsRangeIter h I ((i:Nat):Int) ((n:Int) - (i:Nat)) 1
theorem kRa {n:Nat}:ItK I "range_iterator" (RIt I n):=⟨fun g=>⟨_,g,rfl,fun _ g'=>g'⟩,by decide,by decide⟩
theorem zei (n:Nat):n=((List.range n).map fun (i:Nat)=>MV.int (i:Int)).length:=by rw[List.length_map,List.length_range]
theorem zbi (hh:A.handled=none){n:Nat}(e:n=k):Walks cx.prog cx.w A I [I] [I] k (fun i v=>∃ t,v=.int (0+(i:Int) * 1) t) (fun i h=>RIt I n i h/\True):=by
 rw[<- e]
 have W:=Walks.range (prog:=cx.prog) (w:=cx.w) (A:=A) hh I 0 1 n
 rwa [show (fun i h=>RIt I n i h/\True)=fun (i:Nat) h=>IsRangeIter h I (0+(i:Int) * 1) ((n:Int) - (i:Nat)) 1 from funext fun i=>funext fun h=>by rw[and_true];unfold RIt;rw[Int.zero_add,Int.mul_one]]
theorem zaP {n:Nat}(hh:A.handled=none):xr cx A I ((List.range n).map fun (i:Nat)=>MV.int (i:Int)) [] false (·=I) (PSt cx I (RIt I n) Any) (fun i _ O h=>PSt cx I (RIt I n) Any (i+1) O h):=
 xA kRa Any.stays (fun {O J s} _ S hc=>.mk (zbi hh (zei n)) trivial fun i m v hm hv=>by
  obtain⟨t,rfl⟩:=hv
  rw[Int.zero_add,Int.mul_one]
  have hi:=(List.getElem?_eq_some_iff.mp hm).1
  rw[<- zei] at hi
  rw[List.getElem?_map,List.getElem?_range hi] at hm
  cases hm
  exact .int _ _) fun it h=>wpAny_pyIter_rangeiter it h
end
section
variable {cx:Cx}{A:Around}{O:Rho}{J:Hp}{s:Shared}
theorem zbg {b x:Addr}(h:x∈[a,b]):x=a∨x=b:=(List.mem_cons.mp h).imp_right List.mem_singleton.mp
inductive zgT (cx:Cx)(A:Around)(it:Addr)(q:List MV)(In:Nat->Rho->Heap->Prop)(i:Nat)(O:Rho)(h:Heap):Prop
 | mk {fp:List Addr} {P:Nat->Value->Prop} {St:Nat->Heap->Prop} (D:Draws cx.prog cx.w A.in1 it fp q.length P St) (hif:it∈fp) (hfp:∀ b∈fp,b=it∨inR O b) (st:St i h) (back:∀ i' h',St i' h'->In i' O h') (r:∀ m v,q[i]?=some m->P i v->zp O h m v):zgT cx A it q In i O h
structure Inner (cx:Cx)(A:Around)(it:Addr)(q:List MV)(chk:List (Nat×Option (List MV)))(In:Nat->Rho->Heap->Prop):Prop where
 keep:∀ {i O h O' h' W'},In i O h->Ext O h W' O' h'->WOk h W'->¬ W' it->In i O' h'
 own:∀ {i O h},In i O h->Own cx O h it
 draws:∀ {i O J h},In i O h->Sim cx O J h->chkOk J chk=true->zgT cx A it q In i O h
theorem zcP(hh:A.handled=none)(ne:a≠it):Inner cx A it q [(j,some q)] (PSt cx it (fun i h=>h.IsListIter it a i) (zid j a)) where
 keep:=fun st x w hw=>st.keep kLi zid.stays x w hw
 own:=fun st=>st.own kLi
 draws:=fun {i O J h} st S hc=>S.pL (xj hc (.head _)) st.src fun vs n _ g rr=>by
  have D:=Draws.list (prog:=cx.prog) (w:=cx.w) (A:=A.in1) hh it a ne vs.toArray
  rw[List.size_toArray,<- rr.length] at D
  exact .mk D (.head _) (fun b hb=>(zbg hb).imp_right fun (h:b=a)=>by rw[h];exact (z9 st.src).1) ⟨st.it,zx g⟩ (fun i' h' st'=>⟨st'.1,st.src,st.n,st.z⟩) fun m v hm hv=>zbh rr hm hv
theorem zdi(hh:A.handled=none)(x:List Nat)(t:Tok):Draws cx.prog cx.w A.in1 it [it] (toS x).cps.size (SignAt (toS x)) (SIt it x t):=by
 unfold SIt strIterType
 split
 ·exact Draws.strAscii (A:=A.in1) hh it (toS x) t
 ·exact Draws.strWide (A:=A.in1) hh it (toS x) t
theorem zer{x:List Nat}{t:Tok}(hh:A.handled=none):Inner cx A it (chrs x) [] (PSt cx it (SIt it x t) Any) where
 keep:=fun st x w hw=>st.keep kSt Any.stays x w hw
 own:=fun st=>st.own kSt
 draws:=fun {i O J h} st S hc=>.mk (zb8 x ▸ zdi hh x t) (.head _) (fun b hb=>.inl (List.mem_singleton.mp hb)) st.it (fun i' h' st'=>⟨st',trivial,st.n,st.z⟩) fun m v hm hv=>zgE hm hv
structure ESt (cx:Cx)(e it:Addr)(In:Nat->Rho->Heap->Prop)(i:Nat)(O:Rho)(h:Heap):Prop where
 en:∃ old,IsEnum h e it i old
 inn:In i O h
 ne:e≠it
 n:¬ inR O e
 z:cx.hJ.get? e=none
inductive zms (cx:Cx)(e it:Addr)(In:Nat->Rho->Heap->Prop)(i:Nat):Value->Rho->Heap->Prop
 | mk {O:Rho} {h:Heap} {T:Addr} {x:Value} (g:IsEnumOut h e it ((i:Int)+1) x T) (inn:In (i+1) O h) (ne:e≠it) (n:¬ inR O e) (z:cx.hJ.get? e=none):zms cx e it In i (.ref T) O h
noncomputable def enumQ (q:List MV):List MV:=q.zipIdx.map fun p=>.tup [.int (p.2:Int),p.1]
@[elab_as_elim] theorem enumQ_get {i:Nat} {P:MV->Prop} (h:(enumQ q)[i]?=some m) (k:∀ m0,q[i]?=some m0->P (.tup [.int (i:Int),m0])):P m:=by
 unfold enumQ at h
 rw[List.getElem?_map,List.getElem?_zipIdx] at h
 cases hq:q[i]? with
 | none=>rw[hq] at h;cases h
 | some m0=>rw[hq,Nat.zero_add] at h;cases h;exact k m0 hq
theorem zee (q:List MV):(enumQ q).length=q.length:=by unfold enumQ;rw[List.length_map,List.length_zipIdx]
theorem ESt.own {e:Addr}(I:Inner cx A it q chk In){i:Nat}(st:ESt cx e it In i O h):∀ b,b=e∨b=it->Own cx O h b:=fun b w=>w.elim (fun e=>e ▸ st.en.elim fun _ g=>⟨st.n,st.z,⟨_,g,by simp⟩⟩) fun e=>e ▸ I.own st.inn
theorem zbr {e:Addr}(I:Inner cx A it q chk In):
  xr cx A e (enumQ q) chk true (fun b=>b=e∨b=it) (ESt cx e it In) (zms cx e it In) where
 keep:=fun st x w hw=>by
  obtain⟨⟨old,g⟩,inn,ne,n,z⟩:=st
  exact⟨⟨old,x.keep _ _ g n (hw e (.inl rfl))⟩,I.keep inn x w (hw it (.inr rfl)),ne,x.yh g n,z⟩
 own:=fun st=>st.own I
 ownM:=fun st b hb=>by
  cases st with | mk g inn ne n z=>
  exact hb.elim (fun e=>e ▸ ⟨n,z,⟨_,g,by simp⟩⟩) fun e=>e ▸ I.own inn
 next:=fun {i O J m s Q E} hm st S hc k=>by
  revert k
  refine enumQ_get hm fun m0 hm0 k=>?_
  obtain⟨D,hif,hfp,st0,back,rel⟩:=I.draws st.inn S hc
  have Jjb:=st.own I
  refine zy (Nat.le_refl _) ((WalksT.enumerateD D e st.ne (fun hm=>(hfp e hm).elim st.ne st.n) hif).item i s _ _ (List.getElem?_eq_some_iff.mp hm0).1 ⟨st.en,st0⟩ fun T vals h' tk hP hT ht hm hk hs=>?_)
  obtain⟨t,y,hy,rfl⟩:=hP
  obtain⟨⟨x',go⟩,st',_⟩:=hm
  exact qP S Jjb (fun b o e hb=>hk b o (zb6 (fun c hc=>zbg hc) hb) e) hs fun S' x=>k (.ref T) h' tk S' x ⟨go,back _ _ st',st.ne,st.n,st.z⟩ (.tup ht (fun z=>Nat.lt_irrefl _ (Nat.lt_of_lt_of_le (S.lt z) hT)) (.cons (.int _ _) (.cons ((rel m0 y hm0 hy).mono x (Own.wok Jjb)) .nil)))
 go:=fun {i v O J s target Q E} ht st S k=>by
  obtain⟨elts,kk,pos,rfl⟩:=ht rfl
  cases st with | mk g inn ne n z=>
  have Jjb:∀ b,b=e->Own cx O s.heap b:=fun b hb=>hb ▸ ⟨n,z,⟨_,g,by simp⟩⟩
  exact zy (Nat.le_refl _) (wpAny_letOwnedTupleGo_enum g fun h' he' hs' hsz=>qP S Jjb (fun b o e0 hb=>(hs'.2 b hb).trans e0) hsz fun S' x=>k h' s.toks S' (x.weaken fun b hb=>.inl hb) ⟨⟨_,he'⟩,I.keep inn x (Own.wok Jjb) (fun hb=>ne hb.symm),ne,n,z⟩)
 done:=fun {O J s Q E} st S hc k=>by
  rw[zee] at st
  obtain⟨D,hif,hfp,st0,back,rel⟩:=I.draws st.inn S hc
  exact zy (Nat.le_refl _) ((WalksT.enumerateD D e st.ne (fun hm=>(hfp e hm).elim st.ne st.n) hif).done s _ _ ⟨st.en,st0⟩ fun h' tk hk hs=>qP S (st.own I) (fun b o e hb=>hk b o (zb6 (fun c hc=>zbg hc) hb) e) hs fun S' x=>k h' tk S' x)
 self:=fun st h=>by
  obtain⟨old,g⟩:=st.en
  exact wpAny_pyIter_enum g h
end
section
variable {cx:Cx}{A:Around}{O:Rho}{J:Hp}{s:Shared}
theorem Sim.zgk(S:Sim cx O J h)(w:WOk h W){T:Addr}{a b:Value}(e1:J[j]?=some .hid)(e2:O[j]?=some (T,T))(g:h'.get? T=some { cls:=.type "tuple", data:=.seq #[a,b] })
  (k:∀ b o,h.get? b=some o->¬ W b->b≠T->h'.get? b=some o) (wn:∀ b,W b->¬ inR O b/\cx.hJ.get? b=none) (hs:h.objs.size<=h'.objs.size):Sim cx O J h'/\Ext O h W O h':=by
 have I:=z9 e2
 have x:Ext O h W O h':=⟨⟨[],by simp⟩,fun b o e n q=>k b o e q (fun z=>n (z ▸ I.1)),fun _ q=>.inl q,hs⟩
 refine⟨⟨S.len,fun i o p f1 f2=>?_,S.apart,S.fresh,fun b o e=>?_,Nat.le_trans S.size hs⟩,x⟩
 ·by_cases hj:i=j
  ·subst hj
   rw[e2] at f2;cases f2
   rw[e1] at f1;cases f1
   exact⟨rfl,a,b,g⟩
  ·have Ap:=S.apart i j p (T,T) f2 e2 hj
   exact (S.obj i o p f1 f2).grow (x.gr w) (fun ob g=>k _ _ g (fun z=>(wn _ z).1 (z9 f2).1) Ap.1) (fun ob g=>k _ _ g (fun z=>(wn _ z).1 (z9 f2).2) Ap.2.2.1)
 ·refine k b o (S.base b o e) (fun z=>by rw[(wn b z).2] at e;cases e) fun z=>?_
  subst z
  exact Nat.lt_irrefl _ (Nat.lt_of_lt_of_le (Heap.lt_size e) (S.fresh _ _ _ e1 e2 (by intro l h;cases h)).1)
theorem zfQ {z TI TO i1 i2 l1:Addr}{k1:Nat}{xs:Array Value}{Q:Option Value->Shared->Prop}(hh:A.handled=none)(n1:i1≠z)(n2:l1≠z)(gz:IsZip s.heap z TI TO .none)(gi:IsPair s.heap TI (.ref i1) (.ref i2))
  (h1:s.heap.IsListIter i1 l1 k1) (hl1:s.heap.IsList l1 xs) (hx:xs[k1]?=none) (hQ:∀ h',(∀ c o,c≠z->c≠i1->s.heap.get? c=some o->h'.get? c=some o)->Q none { s with heap:=h' }):wpAny (model cx.prog cx.w) A (pyNext (.ref z)) Q E s:=by
 have hT:s.TypeIs (.ref z) "zip" := ⟨_,gz,rfl⟩
 unfold pyNext
 refine wpAny_bind (wpAny_attempt (wpAny_callSpecial?_slot (name:=Str.ofString "__next__") hT PySem.F.slot_zip_next
  (wpAny_call_entry PySem.F.slot_zip_next hT PySem.F.entry_zip_next ?_ (PySem.F.args_zip_next_1 _))))
 show wpAny _ _ (field (.ref z) 2 >>= _) _ _ _
 refine wpAny_bind (wpAny_field gz rfl (x:=.bool false) rfl ?_)
 show wpAny _ _ (field (.ref z) 3 >>= _) _ _ _
 refine wpAny_bind (wpAny_field gz rfl (x:=.ref TI) rfl (wpAny_bind (wpAny_seqItems gi rfl ?_)))
 show wpAny _ _ (Builtin.SmallTypes.ownedTupleIsFree (.ref z) >>= _) _ _ _
 unfold Builtin.SmallTypes.ownedTupleIsFree
 refine wpAny_bind (wpAny_bind (wpAny_field gz rfl (x:=.none) rfl (wpAny_pure ?_)))
 refine zir rfl ?_
 refine wpAny_bind (wpAny_rule (wpAny_bind (wpAny_field gz rfl (x:=.ref TO) rfl (wpAny_bind (wpAny_setField_rec gz (by simp) fun ha ga sa=>?_)))))
 replace ga:IsZip ha z TI TO .ellipsis:=ga
 simp only[List.zipIdx_cons,List.zipIdx_nil,List.forIn_cons,List.forIn_nil]
 refine wpAny_bind (wpAny_bind (wpAny_bind (wpAny_onRaise ?_)))
 show wpAny _ _ (Builtin.SmallTypes.nextOf (.ref i1) >>= _) _ _ _
 refine wpAny_bind (wpAny_nextOf_list_end hh (h1.extBut sa.extBut n1) (hl1.extBut sa.extBut n2) hx fun hb e kb ⟨oe,ge,ce⟩=>?_)
 have gb:IsZip hb z TI TO .ellipsis:=kb _ _ n1.symm ga
 have ne:e≠z:=fun q=>by subst q;rw[gb] at ge;cases ge;simp at ce
 refine wpAny_setField_rec gb (by simp) fun hc _ sc=>?_
 refine wpAny_bind (wpAny_isInstance (T := "StopIteration") (b:=true) ⟨oe,sc.extBut _ _ ne ge,ce⟩ isSubtype_stop ?_)
 exact wpAny_pure (hQ _ fun c o c1 c2 g=>sc.extBut _ _ c1 (kb _ _ c2 (sa.extBut _ _ c1 g)))
structure ZN where
 z:Addr
 TI:Addr
 i1:Addr
 i2:Addr
 l1:Addr
 l2:Addr
 TO:Addr
 j1:Nat
 j2:Nat
 jt:Nat
structure ZAp (Z:ZN):Prop where
 p1:Z.TI≠Z.z
 p2:Z.i1≠Z.z
 p3:Z.i2≠Z.z
 p4:Z.TI≠Z.i1
 p5:Z.TI≠Z.i2
 p6:Z.i1≠Z.i2
 d1:Z.j1≠Z.jt
 d2:Z.j2≠Z.jt
structure ZSt (cx:Cx)(Z:ZN)(f0:Value)(k:Nat)(O:Rho)(h:Heap):Prop where
 e1:O[Z.j1]?=some (Z.l1,Z.l1)
 e2:O[Z.j2]?=some (Z.l2,Z.l2)
 et:O[Z.jt]?=some (Z.TO,Z.TO)
 t1:h.IsListIter Z.i1 Z.l1 k
 t2:h.IsListIter Z.i2 Z.l2 k
 g:IsZip h Z.z Z.TI Z.TO f0
 ti:IsPair h Z.TI (.ref Z.i1) (.ref Z.i2)
 nz:¬ inR O Z.z/\cx.hJ.get? Z.z=none
 n1:¬ inR O Z.i1/\cx.hJ.get? Z.i1=none
 n2:¬ inR O Z.i2/\cx.hJ.get? Z.i2=none
 nt:¬ inR O Z.TI
noncomputable def zw (Z:ZN):Addr->Prop:=fun b=>b=Z.z∨b=Z.i1∨b=Z.i2
theorem zw.no {Z:ZN}{b:Addr}{P:Prop}(h:¬ zw Z b)(k:b≠Z.z->b≠Z.i1->b≠Z.i2->P):P:=k (fun q=>h (.inl q)) (fun q=>h (.inr (.inl q))) fun q=>h (.inr (.inr q))
theorem zg5{i l:Addr}(t:h.IsListIter i l k)(n:¬ inR O i/\cx.hJ.get? i=none):Own cx O h i:=by
 obtain⟨o,g,c,_⟩:=t;exact⟨n.1,n.2,_,g,by rw[c];simp⟩
theorem zes{i l:Addr}(t:h.IsListIter i l k)(x:Ext O h W' O' h')(n:¬ inR O i/\cx.hJ.get? i=none)(hw:¬ W' i){P:Prop}(q:h'.IsListIter i l k->(¬ inR O' i/\cx.hJ.get? i=none)->P):P:=by
 obtain⟨o,g,c,d⟩:=t;exact q ⟨o,x.keep _ _ g n.1 hw,c,d⟩ ⟨x.yh g n.1,n.2⟩
theorem ZSt.own {Z:ZN}{f0:Value}(st:ZSt cx Z f0 k O h):∀ b,zw Z b->Own cx O h b:=fun b w=>w.elim (fun e=>e ▸ ⟨st.nz.1,st.nz.2,_,st.g,by simp⟩) fun w=>w.elim (fun e=>e ▸ zg5 st.t1 st.n1) fun e=>e ▸ zg5 st.t2 st.n2
theorem ZSt.apart {Z:ZN}{f0:Value}(st:ZSt cx Z f0 k O h)(D:ZAp Z)(S:Sim cx O J h):ZipApart Z.z Z.TI Z.TO Z.i1 Z.i2 Z.l1 Z.l2:=by
 have r1:=(z9 st.e1).1
 have r2:=(z9 st.e2).1
 have rt:=(z9 st.et).1
 exact⟨D.p1,fun q=>st.nz.1 (q ▸ rt),D.p2,D.p3,fun q=>st.nt (q ▸ rt),D.p4,D.p5,fun q=>st.n1.1 (q ▸ rt),fun q=>st.n2.1 (q ▸ rt),D.p6,
  fun q=>st.nz.1 (q ▸ r1),(S.apart _ _ _ _ st.e1 st.et D.d1).1,fun q=>st.n1.1 (q ▸ r1),fun q=>st.n2.1 (q ▸ r1),fun q=>st.nz.1 (q ▸ r2),(S.apart _ _ _ _ st.e2 st.et D.d2).1,fun q=>st.n1.1 (q ▸ r2),fun q=>st.n2.1 (q ▸ r2)⟩
@[elab_as_elim] theorem zip_get {q1 q2:List MV} {i:Nat} {P:MV->Prop} (h:(List.zipWith (fun a b=>MV.tup [a,b]) q1 q2)[i]?=some m) (k:∀ a b,q1[i]?=some a->q2[i]?=some b->P (.tup [a,b])):P m:=by
 rw[List.getElem?_zipWith] at h
 cases h1:q1[i]? with
 | none=>rw[h1] at h;cases h
 | some a=>
  cases h2:q2[i]? with
  | none=>rw[h1,h2] at h;cases h
  | some b=>rw[h1,h2] at h;cases h;exact k a b h1 h2
theorem Sim.pH(S:Sim cx O J h){i:Nat}{d:Addr}(m:J[i]?=some .hid)(e:O[i]?=some (a,d)){P:Prop}(k:∀ x y,h.get? a=some { cls:=.type "tuple", data:=.seq #[x,y] }->P):P:=by
 obtain⟨_,x,y,g⟩:=S.obj i _ _ m e;exact k x y g
inductive zmi (cx:Cx)(Z:ZN)(i:Nat):Value->Rho->Heap->Prop
 | mk {T:Addr} {O:Rho} {h:Heap} (st:ZSt cx Z (rawInt T) (i+1) O h):zmi cx Z i (.ref T) O h
theorem zcK {Z:ZN}{q1 q2:List MV}(hh:A.handled=none)(hl:q1.length=q2.length)(D:ZAp Z):
  xr cx A Z.z (List.zipWith (fun a b=>MV.tup [a,b]) q1 q2) [(Z.j1,some q1),(Z.j2,some q2),(Z.jt,.none)] true (zw Z) (ZSt cx Z .none) (zmi cx Z) where
 keep:=fun {i O h O' h' W'} st x w hw=>zes st.t1 x st.n1 (hw _ (.inr (.inl rfl))) fun t1 n1=>zes st.t2 x st.n2 (hw _ (.inr (.inr rfl))) fun t2 n2=>
  ⟨x.at st.e1,x.at st.e2,x.at st.et,t1,t2,x.keep _ _ st.g st.nz.1 (hw _ (.inl rfl)),x.keep _ _ st.ti st.nt (fun hb=>w _ hb _ ⟨_,st.ti,rfl,_,rfl⟩),⟨x.yh st.g st.nz.1,st.nz.2⟩,n1,n2,x.yh st.ti st.nt⟩
 own:=fun st=>st.own
 ownM:=fun st=>by cases st with | mk st=>exact st.own
 next:=fun {i O J m s Q E} hm st S hc k=>by
  revert k
  refine zip_get hm fun a b ha hb k=>?_
  have c3:=ziw hc (.tail _ (.tail _ (.head _)))
  refine S.pL (xj hc (.head _)) st.e1 fun vs1 _ _ g1 rr1=>S.pL (xj hc (.tail _ (.head _))) st.e2 fun vs2 _ _ g2 rr2=>S.pH c3 st.et fun pa pb gt=>?_
  obtain⟨x,hx,rx⟩:=rr1.get ha
  obtain⟨y,hy,ry⟩:=rr2.get hb
  have Jjb:=st.own
  have F:=st.apart D S
  refine zy (Nat.le_refl _) (wpAny_pyNext_zip_item F st.g st.ti gt st.t1 st.t2 (zx g1) (zx g2) (x:=x) (y:=y) (by simpa using hx) (by simpa using hy) fun h' b1 b2 b3 b4 b5 b6 hk hs=>?_)
  obtain⟨S',x'⟩:=S.zgk (h':=h') (W:=zw Z) (Own.wok Jjb) c3 st.et b2 (fun c o e hw hT=>zw.no hw fun w1 w2 w3=>hk c o w1 hT w2 w3 e) (fun b hb=>⟨(Jjb b hb).n,(Jjb b hb).z⟩) hs
  exact k (.ref s.heap.objs.size) h' s.toks S' x' ⟨⟨st.e1,st.e2,st.et,b3,b4,b1,hk _ _ F.TIz F.TITO F.TIi1 F.TIi2 st.ti,st.nz,st.n1,st.n2,st.nt⟩⟩ (.tup ⟨_,b5,rfl,_,rfl⟩ (fun q=>Nat.lt_irrefl _ (S.lt q)) (.cons (rx.mono x' (Own.wok Jjb)) (.cons (ry.mono x' (Own.wok Jjb)) .nil)))
 go:=fun {i v O J s target Q E} ht st S k=>by
  obtain⟨elts,kk,pos,rfl⟩:=ht rfl
  cases st with | mk st=>
  exact zy (Nat.le_refl _) (wpAny_letOwnedTupleGo_zip st.g fun h' hz' hs' hsz=>qP (W:=fun b=>b=Z.z) S (fun b hb=>st.own b (.inl hb)) (fun b o e0 hb=>(hs'.2 b hb).trans e0) hsz fun S' x=>k h' s.toks S' (x.weaken fun b hb=>.inl hb)
   ⟨st.e1,st.e2,st.et,st.t1.extBut hs'.extBut D.p2,st.t2.extBut hs'.extBut D.p3,hz',(hs'.2 _ D.p1).trans st.ti,st.nz,st.n1,st.n2,st.nt⟩)
 done:=fun {O J s Q E} st S hc k=>by
  refine S.pL (xj hc (.head _)) st.e1 fun vs1 _ _ g1 rr1=>?_
  have hz:(List.zipWith (fun a b=>MV.tup [a,b]) q1 q2).length=vs1.length:=by rw[List.length_zipWith,<- hl,Nat.min_self,<- rr1.length]
  exact zy (Nat.le_refl _) (zfQ hh D.p2 (st.apart D S).l1z st.g st.ti st.t1 (zx g1) (by rw[hz];simp) fun h' hk hs=>qP S st.own (fun c o e hw=>zw.no hw fun w1 w2 _=>hk c o w1 w2 e) hs fun S' x=>k h' s.toks S' x)
 self:=fun st h=>wpAny_pyIter_zip st.g h
end
variable{Z:ZN}
inductive wZ (cx:Cx)(O:Rho)(s:Shared)(J':Hp)(q:List MV)(chk:List (Nat×Option (List MV)))(tt:Bool):Value->Shared->Prop
 | mk {I:Addr} {O':Rho} {h':Heap} {tk:Tok} {W:Addr->Prop} {St:Nat->Rho->Heap->Prop} {Mid:Nat->Value->Rho->Heap->Prop} (S:Sim cx O' J' h') (x:Ext O s.heap W0 O' h') (wk:∀ A':Around,A'.handled=none->xr cx A' I q chk tt W St Mid) (st:St 0 O' h') (fr:∀ b,W b->s.heap.objs.size<=b):
  wZ cx O s J' q chk tt (.ref I) { s with heap:=h',toks:=tk }
noncomputable def kindTup:IK->Bool
 | .enum | .zip=>true
 | _=>false
noncomputable def ItE (cx:Cx) (k:Nat) (A:Around) (env:Env) (ik:IK) (its:List ME) (re:Expr):Prop:=
 ∀ ml J vs J1 q chk Ja O s,zL cx env O s.heap ml->Sim cx O J s.heap->evalL cx.P (callN cx.P k) its ml J=some (vs,J1)->iterOf ik vs J1=some (q,chk,Ja)->
  wpM cx A (PySem.eval re env) (fun x se=>wpM cx A (pyIter x) (fun it sf=>wZ cx O s Ja q chk (kindTup ik) it sf) se) s
section
variable {cx:Cx}{k:Nat}{A:Around}{env:Env}{O:Rho}{J:Hp}{s:Shared}
theorem wZ.after{tt:Bool}{it:Value}(x:Ext O s.heap W0 O1 hO)(p:wZ cx O1 { s with heap:=hO,toks:=tk1 } J' q chk tt it s'):wZ cx O s J' q chk tt it s':=by
 cases p with | mk S y wk st fr=>exact .mk S (x.trans y) wk st fun b hb=>Nat.le_trans x.size (fr b hb)
theorem xO(S:Sim cx O J h){b:Addr}(hb:h.objs.size<=b):¬ inR O b:=fun z=>Nat.lt_irrefl _ (Nat.lt_of_lt_of_le (S.lt z) hb)
theorem xJ(S:Sim cx O J h){b:Addr}(hb:h.objs.size<=b):cx.hJ.get? b=none:=Heap.get?_none_of_le (Nat.le_trans S.size hb)
@[elab_as_elim] theorem tG {γ:Type} {a x:α} {b y:β} {c z:γ} {P:α->β->γ->Prop} (h:some (a,b,c)=some (x,y,z)) (k:P a b c):P x y z:=by cases h;exact k
@[elab_as_elim] theorem evalL_1 {P:zfu} {call:CallT} {e:ME} {vs:List MV} {J1:Hp} (q:evalL P call [e] ml J=some (vs,J1)) (k:∀ v J',evalE P call e ml J=some (v,J')->R [v] J'):R vs J1:=
 bG2 q fun v J' q1 q=>pG (P:=R) q (k v J' q1)
theorem zb0 (S:Sim cx O J s.heap)(r:zp O s.heap m x){Ja:Hp}(e:iterOf .val [m] J=some (q,chk,Ja)):wpM cx A (pyIter x) (wZ cx O s Ja q chk false) s:=by
 have n:=xO S (Nat.le_refl _)
 have z:=xJ S (Nat.le_refl _)
 have fr:∀ b,b=s.heap.objs.size->s.heap.objs.size<=b:=fun b hb=>Nat.le_of_eq hb.symm
 exact rSRT e r (fun w t e=>tG e (wpAny_pyIter_strU (.mk (tk:=s.toks) (S.push _) (Ext.push ..) (fun A' hA=>zcy (t:=t) hA) ⟨⟨_,Heap.get?_push_size _ rfl,rfl,rfl⟩,trivial,n,z⟩ fr)))
  (fun i a d e1 e=>qLG e fun l m e=>S.pL m e1 fun vs _ de g rr=>tG e (wpAny_pyIter_list (zx g) (.mk (tk:=s.toks) (S.push _) (Ext.push ..) (fun A' hA=>zbk hA (Nat.ne_of_lt (Heap.lt_size g))) ⟨⟨_,Heap.get?_push_size _ rfl,rfl,rfl⟩,de ▸ e1,n,z⟩ fr)))
  fun l a vs it nr rr e=>tG e (wpAny_pyIter_tuple it (have x:=Ext.push O s.heap W0 { cls:=.type "tuple_iterator", data:=.fields #[.ref a,.int 0 0] }
   let ⟨ot,gt,ct,dt⟩:=it
   .mk (tk:=s.toks) (S.push _) x (fun A' hA=>km (vs:=vs) hA (Nat.ne_of_lt (Heap.lt_size gt))) ⟨⟨_,Heap.get?_push_size _ rfl,rfl,rfl⟩,⟨⟨ot,Heap.get?_push_of_some _ gt,ct,dt⟩,nr,x.qi rr⟩,n,z⟩ fr))
theorem zgF {e:ME}(h:SndE cx k A env e (PySem.eval re env)):ItE cx k A env .val [e] re:=fun ml J vs J1 q chk Ja O s E S q1 q2=>by
 revert q2
 exact evalL_1 q1 fun v J' q1 q2=>wpE (h ml J v J' O s E S q1) fun x O1 hO tk1 Sa xa rg=>wpAny_mono (zb0 (s:={ s with heap:=hO,toks:=tk1 }) Sa rg q2) (fun it sf p=>p.after xa) fun _ _ z=>z
theorem wC (B:Base cx){x:Str}(L:zbJ cx k A env es (backTo pos (starEach res env)))(hx:env.kindOf x=some .globalImplicit)(hd:(x == ("__debug__" : Str))=false) (hn:x ≠ "__name__") (hv:nsIn cx.K mainGlobals x=some none)
  (hb:bootBuiltins x=some (.type T)) {ml:Loc} {J J':Hp} {vs:List MV} (E:zL cx env O s.heap ml) (S:Sim cx O J s.heap) (q:evalL cx.P (callN cx.P k) es ml J=some (vs,J')) {Q:Value->Shared->Prop}
  (h:∀ vals O' h' tk,Sim cx O' J' h'->Ext O s.heap W0 O' h'->zc O' h' vs vals->wpM cx A (call (.type T) vals) Q { s with heap:=h',toks:=tk }):wpM cx A (PySem.eval (.Call (.Name x p) res [] pos) env) Q s:=by
 refine Call_Name rfl (xZ B E S hx hd hn hv hb ?_)
 exact PySem.callWith_type L.plain (yz L E S q fun vals O' h' tk S' y r=>h vals O' h' tk S' y r)
theorem ju {n:Int}(h:0<=n):Builtin.Range.rangeSize 0 n 1=n:=by
 unfold Builtin.Range.rangeSize
 by_cases h0:0 < n
 ·simp[h0]
 ·have:n=0:=by lia
  subst this;simp
theorem zbd {n:Int}(h:0<=n/\n<=1000000):Builtin.Range.small 0 n 1=true:=by
 unfold Builtin.Range.small
 rw[ju h.1]
 simp only[Builtin.Range.rangeFitsLong,Bool.and_eq_true,Bool.or_eq_true,decide_eq_true_eq,beq_iff_eq]
 refine⟨⟨⟨⟨?_,?_⟩,?_⟩,?_⟩,.inr ?_⟩
 ·lia
 ·lia
 ·lia
 ·lia
 ·rw[if_pos (by decide)]
  simp only[Bool.and_eq_true,decide_eq_true_eq]
  lia
theorem zfy (B:Base cx){e:ME}(L:zbJ cx k A env [e] (backTo pos (starEach res env)))(hx:env.kindOf "range" = some .globalImplicit) (hv:nsIn cx.K mainGlobals "range" = some none) (hb:bootBuiltins "range" = some (.type "range")):
  ItE cx k A env .range [e] (.Call (.Name "range" p) res [] pos):=fun ml J vs J1 q chk Ja O s E S q1 q2=>
 wC B L hx (by decide) (by decide) hv hb E S q1 fun vals O' h' tk S' x r=>w1R q2 r fun v y ry q2=>rI q2 ry fun n t q2=>iG q2 fun hn q2=>tG q2 (call_range_1 (wpAny_pyIter_range (IsRange.new h' 0 n 1 tk t (tk+1)) (zbd hn) (by
  rw[ju hn.1]
  have S1:=S'.push { cls:=.type "range", data:=.fields #[.int 0 tk,.int n t,.int 1 (tk+1)] }
  have x1:=Ext.push O' h' W0 { cls:=.type "range", data:=.fields #[.int 0 tk,.int n t,.int 1 (tk+1)] }
  refine .mk (tk:=tk+1+1) (S1.push _) ((x.trans x1).trans (Ext.push ..)) (fun A' hA=>zaP hA) ⟨?_,trivial,xO S1 (Nat.le_refl _),xJ S1 (Nat.le_refl _)⟩ fun b hb=>hb ▸ Nat.le_trans x.size x1.size
  show IsRangeIter _ _ _ (((n.toNat:Nat):Int) - ((0:Nat):Int)) 1
  rw[show ((n.toNat:Nat):Int) - ((0:Nat):Int)=n by rw[Int.toNat_of_nonneg hn.1];exact Int.sub_zero n]
  exact Heap.get?_push_size _ rfl)))
theorem zaq{h2:Heap}{old:Value}(S':Sim cx O' J h')(x:Ext O s.heap W0 O' h')(kk:∀ b o,h'.get? b=some o->h2.get? b=some o)(hsz:h'.objs.size<=h2.objs.size)(he:IsEnum h2 (h'.objs.size+1) h'.objs.size ((0:Nat):Int) old)
  (inn:∀ A':Around,A'.handled=none->Inner cx A' h'.objs.size q chk In) (i0:In 0 O' h2):wpM cx A (pyIter (.ref (h'.objs.size+1))) (wZ cx O s J (enumQ q) chk true) { s with heap:=h2,toks:=tk }:=by
 obtain⟨S2,x2⟩:=zZ S' kk hsz
 exact wpAny_pyIter_enum he (.mk S2 (x.trans x2) (fun A' hA=>zbr (inn A' hA)) ⟨⟨_,he⟩,i0,Nat.ne_of_gt (Nat.lt_succ_self _),xO S' (Nat.le_succ _),xJ S' (Nat.le_succ _)⟩ fun b hb=>hb.elim (fun e=>e ▸ Nat.le_trans x.size (Nat.le_succ _)) fun e=>e ▸ x.size)
theorem ziu (B:Base cx){e:ME}(L:zbJ cx k A env [e] (backTo pos (starEach res env)))(hx:env.kindOf "enumerate" = some .globalImplicit) (hv:nsIn cx.K mainGlobals "enumerate" = some none) (hb:bootBuiltins "enumerate" = some (.type "enumerate")):
  ItE cx k A env .enum [e] (.Call (.Name "enumerate" p) res [] pos):=fun ml J vs J1 q chk Ja O s E S q1 q2=>
 wC B L hx (by decide) (by decide) hv hb E S q1 fun vals O' h' tk S' x r=>w1R q2 r fun v y ry q2=>rSR q2 ry
  (fun w t q2=>tG q2 (call_enumerate_str fun h2 he hit hsz kk=>zaq S' x kk (by dsimp only at hsz;lia) he (fun A' hA=>zer (t:=t) hA) ⟨hit,trivial,xO S' (Nat.le_refl _),xJ S' (Nat.le_refl _)⟩))
  fun i a d e1 q2=>qLG q2 fun l m q2=>S'.pL m e1 fun ws n de g rr=>tG q2 (call_enumerate_list (zx g) fun h2 he hit hsz kk=>zaq S' x kk (by dsimp only at hsz;lia) he (fun A' hA=>zcP hA (Nat.ne_of_lt (Heap.lt_size g))) ⟨hit,de ▸ e1,xO S' (Nat.le_refl _),xJ S' (Nat.le_refl _)⟩)
theorem zjm (B:Base cx){e1 e2:ME}(L:zbJ cx k A env [e1,e2] (backTo pos (starEach res env)))(hx:env.kindOf "zip" = some .globalImplicit) (hv:nsIn cx.K mainGlobals "zip" = some none) (hb:bootBuiltins "zip" = some (.type "zip")):
  ItE cx k A env .zip [e1,e2] (.Call (.Name "zip" p) res [] pos):=fun ml J vs J1 q chk Ja O s E S q1 q2=>by
 refine wC B L hx (by decide) (by decide) hv hb E S q1 fun vals O' h' tk S' x r=>w2R q2 r fun v w y z ry rz q2=>rR q2 ry fun i a1 d1 g1 q2=>rR q2 rz fun j a2 d2 g2 q2=>qLG q2 fun l1 f1 q2=>qLG q2 fun l2 f2 q2=>iG q2 fun hl q2=>tG q2 ?_
 refine S'.pL f1 g1 fun ws1 n1 de1 gg1 rr1=>S'.pL f2 g2 fun ws2 n2 de2 gg2 rr2=>call_zip_2 (zx gg1) (zx gg2) fun h2 gz gi gt hi1 hi2 hsz kk=>?_
 cases de1
 cases de2
 dsimp only at gz gi gt hi1 hi2 hsz kk
 obtain⟨S2,x2⟩:=S'.hidden kk gt (by lia)
 have fr:∀ b,h'.objs.size<=b->b≠h'.objs.size+3->¬ inR (O' ++ [(h'.objs.size+3,h'.objs.size+3)]) b/\cx.hJ.get? b=none:=fun b hb hn=>⟨fun z=>(qy z).elim (xO S' hb) fun z=>z.elim hn hn,xJ S' hb⟩
 have ne:∀ {m n:Nat},m≠n->h'.objs.size+m≠h'.objs.size+n:=fun h e=>h (Nat.add_left_cancel e)
 refine wpAny_pyIter_zip gz (.mk (I:=h'.objs.size+4) S2 (x.trans x2) (fun A' hA=>zcK (Z:=⟨h'.objs.size+4,h'.objs.size+2,h'.objs.size,h'.objs.size+1,a1,a2,h'.objs.size+3,i,j,J1.length⟩) hA hl
  ⟨ne (by decide),ne (m:=0) (by decide),ne (by decide),ne (n:=0) (by decide),ne (by decide),ne (m:=0) (by decide),Nat.ne_of_lt (List.getElem?_eq_some_iff.mp f1).1,Nat.ne_of_lt (List.getElem?_eq_some_iff.mp f2).1⟩) ?_ fun b hb=>?_)
 ·exact⟨x2.at g1,x2.at g2,by rw[<- S'.len];simp,hi1,hi2,gz,gi,fr _ (Nat.le_add_right _ _) (ne (by decide)),fr _ (Nat.le_refl _) (ne (m:=0) (by decide)),fr _ (Nat.le_add_right _ _) (ne (by decide)),(fr _ (Nat.le_add_right _ _) (ne (by decide))).1⟩
 ·rcases hb with e | e | e
  ·exact e ▸ Nat.le_trans x.size (Nat.le_add_right _ _)
  ·exact e ▸ x.size
  ·exact e ▸ Nat.le_trans x.size (Nat.le_add_right _ _)
end
noncomputable def Wloc (env:Env):Addr->Prop:=fun b=>b=env.locals
noncomputable def bindable (env:Env) (x:Str):Prop:=env.kindOf x=some .local∨env.kindOf x=some .cell
inductive wg (cx:Cx)(env:Env)(O:Rho)(s:Shared)(W:Addr->Prop)(J:Hp)(ml':Loc):Shared->Prop
 | mk {h':Heap} {tk:Tok} (S:Sim cx O J h') (x:Ext O s.heap W O h') (E:zL cx env O h' ml'):wg cx env O s W J ml' { s with heap:=h',toks:=tk }
theorem wpB{t:Sem Unit}{Q:Unit->Shared->Prop}(h:wpM cx A t (fun _ s'=>wg cx env O s W J ml' s') s)
  (k:∀ h' tk,Sim cx O J h'->Ext O s.heap W O h'->zL cx env O h' ml'->Q () { s with heap:=h',toks:=tk }):wpAny (model cx.prog cx.w) A t Q E s:=
 wpAny_mono h (fun _ s' p=>by cases p with | mk S x E=>exact k _ _ S x E) fun _ _ z=>z.elim
theorem zcd {x y:Nat}{v w:MV}{m:Loc}{P:Prop}(e:upd m x v y=some w)(k1:y=x->v=w->P)(k2:y≠x->m y=some w->P):P:=by
 have e:(if y=x then some v else m y)=some w:=e
 by_cases h:y=x
 ·rw[if_pos h] at e;cases e;exact k1 h rfl
 ·rw[if_neg h] at e;exact k2 h e
section
variable {cx:Cx}{A:Around}{env:Env}{O:Rho}{J:Hp}{s:Shared}{ml:Loc}
theorem zL.wok(E:zL cx env O h ml):WOk h (Wenv env):=fun b hb=>by
 rcases hb with rfl | ⟨n,hc⟩
 ·obtain⟨m,hm,_⟩:=E.loc;exact yr hm
 ·obtain⟨_,_,_,v,i⟩:=E.cells n b hc;exact qU i
theorem zL.own(E:zL cx env O h ml){b:Addr}(hb:Wenv env b):¬ inR O b/\cx.hJ.get? b=none:=by
 rcases hb with rfl | ⟨n,hc⟩
 ·exact⟨E.locN.1,Heap.get?_none_of_le E.locN.2⟩
 ·obtain⟨a,_,b,_⟩:=E.cells n b hc;exact⟨a,Heap.get?_none_of_le b⟩
theorem plainKind (h:env.scope.kind=.function):(env.scope.kind == .class || (env.scope.kind == .module && env.locals != env.globals))=false:=by rw[h];rfl
theorem yD (B:Base cx)(E:zL cx env O s.heap ml)(S:Sim cx O J s.heap){x:Nat}{v:MV}(r:zp O s.heap v val)(hk:env.kindOf (cx.N x)=some .local):
  wpM cx A (bindName env (cx.N x) val) (fun _ s'=>wg cx env O s (Wloc env) J (upd ml x v) s') s:=by
 obtain⟨m,hm,rl⟩:=E.loc
 have W1:∀ b,Wloc env b->Wenv env b:=fun b hb=>.inl hb
 refine wpAny_bindName (wpAny_storeName_local hk hm (fun h' hn hs=>?_) (plainKind E.kind))
 obtain⟨S',x'⟩:=S.other (h':=h') (W:=Wloc env) (fun b hb=>E.wok b (W1 b hb)) (fun b o e hb=>(hs.2 b hb).trans e) (fun b hb=>E.own (W1 b hb)) (Nat.le_of_eq hs.1.symm)
 have wok:WOk s.heap (Wloc env):=fun b hb=>E.wok b (W1 b hb)
 refine .mk S' x' ⟨E.kind,E.glob,E.bn,⟨_,hn,fun y w e k=>zcd e (fun hy hv=>?_) fun hy e=>?_⟩,fun y w e k=>zcd e (fun hy _=>?_) fun hy e=>?_,fun n c hc=>?_,E.inj,E.locN⟩
 ·exact⟨val,if_pos (congrArg cx.N hy),hv ▸ r.mono x' wok⟩
 ·obtain⟨u,a,b⟩:=rl y w e k
  exact⟨u,(if_neg fun z=>hy (B.inj _ _ z)).trans a,b.mono x' wok⟩
 ·rw[hy,hk] at k;rcases k with k | k <;> cases k
 ·obtain⟨c,u,a,b,d⟩:=E.cell y w e k
  exact⟨c,u,a,b.sameBut hs (E.cells _ c a).2.1,d.mono x' wok⟩
 ·obtain⟨a,b,d,w,i⟩:=E.cells n c hc
  exact⟨a,b,d,w,i.sameBut hs b⟩
theorem zdD (B:Base cx)(E:zL cx env O s.heap ml)(S:Sim cx O J s.heap){x:Nat}{v:MV}(r:zp O s.heap v val)(hk:env.kindOf (cx.N x)=some .cell)(hc:∃ c,env.cells.lookup (cx.N x)=some c):
  wpM cx A (bindName env (cx.N x) val) (fun _ s'=>wg cx env O s (Wenv env) J (upd ml x v) s') s:=by
 obtain⟨c,hc⟩:=hc
 obtain⟨m,hm,rl⟩:=E.loc
 obtain⟨c1,c2,c3,w0,ic⟩:=E.cells _ c hc
 have wok:WOk s.heap (·=c):=fun b hb=>by subst hb;exact qU ic
 refine wpAny_bindName (wpAny_storeName_cell E.kind hk hc ic fun h' hn hs=>?_)
 obtain⟨S',x'⟩:=S.other (h':=h') (W:=(·=c)) wok (fun b o e hb=>(hs.2 b hb).trans e) (fun b hb=>hb ▸ ⟨c1,Heap.get?_none_of_le c3⟩) (Nat.le_of_eq hs.1.symm)
 refine .mk S' (x'.weaken fun b hb=>.inr ⟨_,hb ▸ hc⟩) ⟨E.kind,E.glob,E.bn,⟨m,hm.sameBut hs (Ne.symm c2),fun y w e k=>zcd e (fun hy _=>?_) fun hy e=>?_⟩,fun y w e k=>zcd e (fun hy hv=>?_) fun hy e=>?_,fun n d hd=>?_,E.inj,E.locN⟩
 ·rw[hy,hk] at k;cases k
 ·obtain⟨u,a,b⟩:=rl y w e k
  exact⟨u,a,b.mono x' wok⟩
 ·exact⟨c,val,hy ▸ hc,hn,hv ▸ r.mono x' wok⟩
 ·obtain⟨d,u,a,b,f⟩:=E.cell y w e k
  exact⟨d,u,a,b.sameBut hs fun z=>hy (B.inj _ _ (E.inj _ _ c (z ▸ a) hc)),f.mono x' wok⟩
 ·obtain⟨a,b,f,w,i⟩:=E.cells n d hd
  by_cases hdc:d=c
  ·exact⟨a,b,f,_,hdc ▸ hn⟩
  ·exact⟨a,b,f,w,i.sameBut hs hdc⟩
theorem zaU (B:Base cx)(CO:CellsOk env)(E:zL cx env O s.heap ml)(S:Sim cx O J s.heap){x:Nat}{v:MV}(r:zp O s.heap v val)(hk:bindable env (cx.N x)):
  wpM cx A (bindName env (cx.N x) val) (fun _ s'=>wg cx env O s (Wenv env) J (upd ml x v) s') s:=by
 rcases hk with hk | hk
 ·exact wpB (yD B E S r hk) fun h' tk S' x' E'=>.mk S' (x'.weaken fun b hb=>.inl hb) E'
 ·exact zdD B E S r hk (CO _ hk)
inductive Names (N:Nat->Str):List Nat->List Expr->Prop
 | nil:Names N [] []
 | cons {x:Nat} {p:Pos} {xs:List Nat} {elts:List Expr} (r:Names N xs elts):Names N (x :: xs) (.Name (N x) p :: elts)
inductive Tgt (N:Nat->Str):Bool->List Nat->Expr->Prop
 | name {x:Nat} {pos:Pos}:Tgt N false [x] (.Name (N x) pos)
 | tup {xs:List Nat} {elts:List Expr} {k:Nat} {pos:Pos} (h:Names N xs elts):Tgt N true xs (.Tuple elts k pos)
theorem zcL(h:Names cx.N xs elts):(assignEach elts env).length=xs.length/\(assignEach elts env).findIdx? (·.1)=none:=by
 induction h with
 | nil=>exact⟨rfl,rfl⟩
 | @cons x p xs elts _ ih=>
  show ((false,assign (.Name _ p) env) :: assignEach _ env).length=_/\((false,assign (.Name _ p) env) :: assignEach _ env).findIdx? (·.1)=none
  exact⟨by simp[ih.1],by simp[List.findIdx?_cons,ih.2]⟩
structure zaM (cx:Cx)(A:Around)(env:Env)(W:Addr->Prop)(xs:List Nat):Prop where
 wok:∀ O h ml,zL cx env O h ml->WOk h W
 bind:∀ x∈xs,∀ O J (s:Shared) ml v val,zL cx env O s.heap ml->Sim cx O J s.heap->zp O s.heap v val->wpM cx A (bindName env (cx.N x) val) (fun _ s'=>wg cx env O s W J (upd ml x v) s') s
theorem jo (B:Base cx)(CO:CellsOk env)(hk:∀ x∈xs,bindable env (cx.N x)):zaM cx A env (Wenv env) xs:=
 ⟨fun O h ml E=>E.wok,fun x hx O J s ml v val E S r=>zaU B CO E S r (hk x hx)⟩
theorem xV (B:Base cx)(hk:∀ x∈xs,env.kindOf (cx.N x)=some .local):zaM cx A env (Wloc env) xs:=
 ⟨fun O h ml E b hb=>E.wok b (.inl hb),fun x hx O J s ml v val E S r=>yD B E S r (hk x hx)⟩
theorem zeH(bn:zaM cx A env W xs0):∀ {xs:List Nat} {elts:List Expr},Names cx.N xs elts->(∀ x∈xs,x∈xs0)->∀ {vs:List MV} {vals:List Value} {ml ml':Loc} {s:Shared},zL cx env O s.heap ml->Sim cx O J s.heap->zc O s.heap vs vals->
  bindV xs vs ml=some ml'->wpM cx A (assignInOrder ((assignEach elts env).map (·.2)) vals) (fun _ s'=>wg cx env O s W J ml' s') s:=by
 intro xs elts h
 induction h with
 | nil=>
  intro _ vs vals ml ml' s E S r q
  revert r
  exact aNG q fun q r=>wNil r (sG q (wpAny_pure (.mk (tk:=s.toks) S (Ext.refl ..) E)))
 | @cons x p xs elts _ ih=>
  intro hk vs vals ml ml' s E S r q
  revert r
  refine aCG q fun v vs q r=>wCons r fun val vals rv r=>?_
  show wpM cx A (do holding vals (assign (.Name (cx.N x) p) env val);assignInOrder ((assignEach elts env).map (·.2)) vals) _ s
  refine wpAny_bind (wpAny_holding ?_)
  rw[arm_assign_Name]
  exact wpAny_bind (wpAny_standAt (wpB (bn.bind x (hk x (.head _)) O J s ml v val E S rv) fun hO tk1 Sa xa E1=>
   wpB (ih (fun y hy=>hk y (.tail _ hy)) (s:={ s with heap:=hO,toks:=tk1 }) E1 Sa (r.mono xa (bn.wok _ _ _ E)) q) fun hS tk2 Sb xc E2=>.mk Sb (xa.trans xc) E2))
theorem wQ:∀ {xs:List Nat} {vs:List MV} {m m':Loc},bindV xs vs m=some m'->xs.length=vs.length
 | [],_,_,_,q=>aNG (P:=fun vs=>_=List.length vs) q fun _=>rfl
 | _ :: xs,_,_,_,q=>aCG (P:=fun vs=>_=List.length vs) q fun _ _ q=>congrArg Nat.succ (wQ q)
theorem yG(hh:A.handled=none){t:Bool}(bn:zaM cx A env W xs)(T:Tgt cx.N t xs te)(E:zL cx env O s.heap ml)(S:Sim cx O J s.heap){v:MV}(r:zp O s.heap v val)
  (q:bindT t xs v ml=some ml'):wpM cx A (assign te env val) (fun _ s'=>wg cx env O s W J ml' s') s:=by
 cases T with
 | @name x pos=>
  refine sG q ?_
  rw[arm_assign_Name]
  exact wpAny_bind (wpAny_standAt (bn.bind x (.head _) O J s ml v val E S r))
 | @tup _ elts k pos h=>
  refine rT q r fun vs a vals it nr rr q=>?_
  obtain⟨h1,h2⟩:=zcL (env:=env) h
  rw[arm_assign_Tuple]
  refine wpAny_bind (wpAny_standAt ?_)
  unfold unpack
  rw[h2,h1,show xs.length=vals.toArray.size by rw[wQ q,rr.length];simp]
  refine wpAny_bind (wpAny_holding (zy (Nat.le_refl _) (wpAny_unpackItems_tuple hh it fun h' kk hs=>?_)))
  obtain⟨Sa,xa⟩:=zZ (h':=h') S (fun b o e=>kk b o (Nat.ne_of_lt (Heap.lt_size e)) e) hs
  exact wpB (zeH bn h (fun _ hx=>hx) (s:={ s with heap:=h' }) (E.ext xa) Sa (xa.qi rr) q) fun hS tk2 Sb xc E2=>.mk Sb ((xa.weaken fun _ z=>z.elim).trans xc) E2
end
noncomputable def SndX (cx:Cx) (k:Nat) (A:Around) (env:Env) (b:MS) (t:Sem Flow):Prop:=
 ∀ ml J r ml' J' O s,zL cx env O s.heap ml->Sim cx O J s.heap->Mine.exec cx.P (callN cx.P k) b ml J=some (r,ml',J')->wpM cx A t (zJ cx env O s J' ml' r) s
section
variable {cx:Cx}{k:Nat}{A:Around}{env:Env}{O:Rho}{J:Hp}{s:Shared}{ml:Loc}
theorem zL.zgH(E:zL cx env O h ml)(x:Ext O h W O' h')(w:WOk h W)(d:∀ b,Wenv env b->¬ W b):zL cx env O' h' ml:=by
 have kl:∀ o,h.get? env.locals=some o->h'.get? env.locals=some o:=fun o e=>x.keep _ o e E.locN.1 (d _ (.inl rfl))
 have kc:∀ n c,env.cells.lookup n=some c->∀ o,h.get? c=some o->h'.get? c=some o:=fun n c hc o e=>x.keep _ o e (E.cells n c hc).1 (d _ (.inr ⟨n,hc⟩))
 refine⟨E.kind,E.glob,E.bn,?_,fun y v e1 e2=>?_,fun n c e=>?_,E.inj,?_,E.locN.2⟩
 ·obtain⟨m,hm,r⟩:=E.loc
  exact⟨m,Ns.stay hm kl,fun y v e1 e2=>(r y v e1 e2).imp fun _ z=>⟨z.1,z.2.mono x w⟩⟩
 ·obtain⟨c,val,a,b,f⟩:=E.cell y v e1 e2
  exact⟨c,val,a,IsCell.stay b (kc _ _ a),f.mono x w⟩
 ·obtain⟨a,b,f,v,i⟩:=E.cells n c e
  refine⟨?_,b,f,v,IsCell.stay i (kc _ _ e)⟩
  obtain⟨o,q,_⟩:=i
  exact x.yh q a
 ·obtain⟨m,⟨o,_,_,q,_⟩,r⟩:=E.loc
  exact x.yh q E.locN.1
theorem zL.below(E:zL cx env O h ml){b:Addr}(hb:Wenv env b):b < h.objs.size:=by
 rcases hb with rfl | ⟨n,hc⟩
 ·obtain⟨m,hm,_⟩:=E.loc;exact hm.lt
 ·obtain⟨_,_,_,v,i⟩:=E.cells n b hc;exact i.lt
theorem wpS{r:Option MV}{t:Sem Flow}{Q:Flow->Shared->Prop}(h:wpM cx A t (zJ cx env O s J' ml' r) s)
  (k:∀ fl O' h' tk,Sim cx O' J' h'->Ext O s.heap (Wenv env) O' h'->zL cx env O' h' ml'->zaY O' h' r fl->Q fl { s with heap:=h',toks:=tk }):wpAny (model cx.prog cx.w) A t Q X s:=by
 refine wpAny_mono h (fun fl s' p=>?_) fun _ _ z=>z.elim
 obtain⟨O',h',tk,rfl,S,x,E,f⟩:=p
 exact k fl O' h' tk S x E f
@[elab_as_elim] theorem zaY.go {P:Option MV->Flow->Prop}:∀ {r:Option MV} {fl:Flow},zaY O h r fl->P .none .next->(∀ v val,zp O h v val->P (some v) (.ret val))->P r fl
 | .none,_,f,k1,_=>by cases (show _=Flow.next from f);exact k1
 | some v,_,⟨val,e,r⟩,_,k2=>by cases e;exact k2 v val r
theorem Tgt.tok{b t:Bool}(ht:b=true->t=true)(T:Tgt N t tgt te)(h:b=true):∃ elts k pos,te=.Tuple elts k pos:=by
 cases ht h
 cases T with | tup h=>exact⟨_,_,_,rfl⟩
theorem zjV{l r:List α}{i:Nat}{v:α}(h:l.drop i=v :: r):l[i]?=some v/\l.drop (i+1)=r:=⟨by rw[<- List.head?_drop,h];rfl,by rw[<- List.tail_drop,h];rfl⟩
theorem zkO{l:List α}{i:Nat}(hi:i<=l.length)(h:l.drop i=[]):i=l.length:=Nat.le_antisymm hi (List.drop_eq_nil_iff.mp h)
inductive zmv (cx:Cx)(k:Nat)(env:Env)(O:Rho)(s:Shared)(isTup:Bool)(tgt:List Nat)(b:List MS)(items:List MV)(chk:List (Nat×Option (List MV)))(W:Addr->Prop)(St:Nat->Rho->Heap->Prop)(r:Option MV)(ml':Loc)(J':Hp):Nat->Shared->Prop
 | mk {i:Nat} {rest:List MV} {O':Rho} {Jc:Hp} {m:Loc} {h':Heap} {tk:Tok} (hi:i<=items.length) (hr:items.drop i=rest) (q:forL chk isTup tgt (Mine.execs cx.P (callN cx.P k) b) rest m Jc=some (r,ml',J')) (E:zL cx env O' h' m) (S:Sim cx O' Jc h') (st:St i O' h')
  (x:Ext O s.heap (fun a=>Wenv env a∨W a) O' h'):zmv cx k env O s isTup tgt b items chk W St r ml' J' rest.length { s with heap:=h',toks:=tk }
theorem zhI (B:Base cx)(CO:CellsOk env)(hh:A.handled=none){b:List MS}(It:ItE cx k A env ik its re)(T:Tgt cx.N isTup tgt te)(hk:∀ x∈tgt,bindable env (cx.N x))
  (ht:kindTup ik=true->isTup=true) (hs:∀ x,foldedSetIterable re env x=pure x) (Hb:SndS cx k A env b (PySem.execs body env)):SndX cx k A env (.fors isTup tgt ik its b) (PySem.exec (.For te re body [] pos) env):=fun ml J r ml' J' O s E S q=>by
 refine bG2 q fun vs J1 q1 q=>bG3 q fun items chk Ja q2 q3=>?_
 clear q
 refine wpAny_For (wpAny_mono (It ml J vs J1 items chk Ja O s E S q1 q2) (fun x se p=>wpAny_mono p (fun it sf p=>?_) fun _ _ z=>z) fun _ _ z=>z) hs
 clear q1 q2
 refine p.casesOn fun {I O1 hO tk1 W St Mid} Sa xa wk st fr=>?_
 clear p
 have Wk:=wk A hh
 have dis:∀ b,W b->¬ Wenv env b:=fun b hb hw=>Nat.lt_irrefl _ (Nat.lt_of_lt_of_le (E.below hw) (fr b hb))
 have dis':∀ b,Wenv env b->¬ W b:=fun b hw hb=>dis b hb hw
 have nar:∀ {O' h'},Ext O s.heap (fun a=>Wenv env a∨W a) O' h'->Ext O s.heap (Wenv env) O' h':=fun xx=>xx.narrow fun b hb=>hb.elim .inl fun hw=>.inr (Heap.get?_none_of_le (fr b hw))
 refine codeAny_forLoop_any (zmv cx k env O s isTup tgt b items chk W St r ml' J') ?_ _ (.mk (tk:=tk1) (Nat.zero_le _) rfl q3 (E.ext xa) Sa st (xa.weaken fun _ z=>z.elim))
 refine fun n s' inv=>inv.casesOn fun {i rest O' Jc m h' tk} hi hr qf E' S' st' x'=>?_
 clear inv
 cases rest with
 | cons v rest=>
  obtain⟨hv,hr⟩:=zjV hr
  refine iG qf fun hc qf=>bG qf fun m' qb qf=>bG3 qf fun r' m2 J3 qe qf=>Wk.next hv st' S' hc fun v hU tk3 S3 xh mid rv=>Wk.go (T.tok ht) mid S3 fun hZ tk4 S4 xi st4=>?_
  have W3:=Own.wok (Wk.ownM mid)
  have E4:=(E'.zgH xh (Own.wok (Wk.own st')) dis').zgH xi W3 dis'
  refine wpB (yG hh (jo B CO hk) T (s:={ s with heap:=hZ,toks:=tk4 }) E4 S4 (rv.mono xi W3) qb) fun h_ tk5 S5 xk E5=>wpS (Hb m' Jc r' m2 J3 O' { s with heap:=h_,toks:=tk5 } E5 S5 qe) fun fl O6 h₆ tk6 S6 xv E6 fr6=>?_
  have xx:Ext O s.heap (fun a=>Wenv env a∨W a) O6 h₆:=(((x'.trans (xh.weaken fun _ z=>.inr z)).trans (xi.weaken fun _ z=>.inr z)).trans (xk.weaken fun _ z=>.inl z)).trans (xv.weaken fun _ z=>.inl z)
  have st6:=Wk.keep (Wk.keep st4 xk E4.wok dis) xv E5.wok dis
  clear x' xh xi xk xv st4 E4 E5 S3 S4 S5 mid rv qb qe
  revert qf
  exact fr6.go (fun qf=>⟨_,Nat.lt_succ_self _,.mk (Nat.lt_of_lt_of_le (Nat.lt_succ_self i) (List.getElem?_eq_some_iff.mp hv).1) hr qf E6 S6 st6 xx⟩)
   fun w val rw' qf=>tG (P:=fun r ml' J'=>zJ cx env O s J' ml' r _ _) qf ⟨O6,h₆,tk6,rfl,S6,nar xx,E6,⟨val,rfl,rw'⟩⟩
 | nil=>
  have st':St items.length O' h':=zkO hi hr ▸ st'
  exact iG qf fun hc qf=>Wk.done st' S' hc fun hU tk3 S3 xh=>wpAny_execs_nil (tG (P:=fun r ml' J'=>zJ cx env O s J' ml' r _ _) qf ⟨O',hU,tk3,rfl,S3,nar (x'.trans (xh.weaken fun _ z=>.inr z)),E'.zgH xh (Own.wok (Wk.own st')) dis',rfl⟩)
end
noncomputable def closL (env:Env):List (Str×NameKind)->List (Str×Addr)->List (Str×Addr)
 | [],cs=>cs
 | (n,k) :: r,cs=>if k == .free then closL env r ((n,(env.cells.lookup n).getD 0) :: cs) else closL env r cs
theorem zgp (env:Env)(n:Str)(k:NameKind)(r:List (Str×NameKind))(cs:List (Str×Addr)):closL env ((n,k) :: r) cs=if k == .free then closL env r ((n,(env.cells.lookup n).getD 0) :: cs) else closL env r cs:=rfl
noncomputable def freeOk (env:Env) (l:List (Str×NameKind)):Prop:=∀ x∈l,x.2=.free->env.kindOf x.1=some .cell/\∃ c,env.cells.lookup x.1=some c
section
variable {M:Model}{A:Around}{E:Value->Shared->Prop}{s:Shared}{env:Env}
theorem jZ(h:freeOk env scope.names):closureFor scope env=pure (closL env scope.names []):=by
 simp only[closureFor]
 have key:∀ (l:List (Str×NameKind)) (cs:List (Str×Addr)),freeOk env l->(forIn l cs fun (x:Str×NameKind) (r:List (Str×Addr))=>if (x.snd == NameKind.free)=true then (do let a <- cellOf env x.fst;pure (ForInStep.yield ((x.fst,a) :: r)):Sem (ForInStep (List (Str×Addr)))) else pure (ForInStep.yield r):Sem (List (Str×Addr)))=pure (closL env l cs):=by
  intro l
  induction l with
  | nil=>intro cs _;rw[List.forIn_nil];rfl
  | cons x l ih=>
   obtain⟨n,k⟩:=x
   intro cs hf
   have hf':freeOk env l:=fun y hy=>hf y (.tail _ hy)
   rw[List.forIn_cons]
   rw[zgp]
   by_cases hk:(k == NameKind.free)=true
   ·obtain⟨_,c,hc⟩:=hf (n,k) (.head _) (by simpa using hk)
    have hco:cellOf env n=pure c:=by unfold cellOf;rw[show env.cells.lookup n=some c from hc]
    rw[if_pos hk,if_pos hk,hco,show env.cells.lookup n=some c from hc]
    exact ih _ hf'
   ·rw[if_neg hk,if_neg hk]
    exact ih _ hf'
 show (forIn scope.names [] _ >>= fun r=>pure r)=_
 rw[key _ _ h];rfl
theorem xf:∀ (l:List (Str×NameKind)) (cs:List (Str×Addr)),freeOk env l->∀ n c,(closL env l cs).lookup n=some c->cs.lookup n=some c∨env.cells.lookup n=some c
 | []=>fun cs _ n c h=>.inl h
 | (m,k) :: r=>fun cs hf n c h=>by
  have hf':freeOk env r:=fun y hy=>hf y (.tail _ hy)
  rw[zgp] at h
  split at h
  ·rename_i hk
   obtain⟨_,d,hd⟩:=hf (m,k) (.head _) (by simpa using hk)
   rcases xf r _ hf' n c h with h2 | h2
   ·simp only[List.lookup] at h2
    cases hnm:n == m with
    | true=>
     rw[hnm] at h2
     dsimp only at hd
     rw[hd] at h2
     rw[beq_iff_eq] at hnm
     subst hnm
     exact .inr (hd.trans h2)
    | false=>rw[hnm] at h2;exact .inl h2
   ·exact .inr h2
  ·exact xf r cs hf' n c h
theorem j6:∀ (l:List (Str×NameKind)) (cs:List (Str×Addr)) (n:Str),(cs.lookup n).isSome=true->((closL env l cs).lookup n).isSome=true
 | []=>fun cs n h=>h
 | (m,k) :: r=>fun cs n h=>by
  rw[zgp]
  split
  ·refine j6 r _ n ?_
   simp only[List.lookup]
   cases n == m <;> simp[h]
  ·exact j6 r cs n h
theorem kh:∀ (l:List (Str×NameKind)) (cs:List (Str×Addr)) (n:Str),(n,NameKind.free)∈l->((closL env l cs).lookup n).isSome=true
 | []=>fun cs n h=>nomatch h
 | (m,k) :: r=>fun cs n h=>by
  rw[zgp]
  rcases List.mem_cons.mp h with h | h
  ·obtain⟨rfl,rfl⟩:=Prod.mk.inj h
   simp only[beq_self_eq_true,if_true]
   refine j6 r _ n ?_
   simp[List.lookup]
  ·split <;> exact kh r _ n h
noncomputable def ownKind (env:Env) (n:Str) (k:NameKind):Bool:=k == .free && env.scope.kind == .function && env.kindOf n == some .cell
noncomputable def compNames (env:Env) (scope:Scope):List (Str×NameKind):=scope.names.map fun (n,k)=>if ownKind env n k then (n,.cell) else (n,k)
noncomputable def compEnv (env:Env) (scope:Scope) (L:Addr):Env:=
 { scope:={ scope with names:=compNames env scope },locals:=L,globals:=env.globals,cells:=closL env scope.names [],qual:=env.qual,func:=none,code:=env.code,frame:=env.frame,builtins:=env.builtins }
structure wM (env:Env)(scope:Scope):Prop where
 free:freeOk env scope.names
 cell:∀ x∈scope.names,x.2≠.cell
 kind:scope.kind=.function
 loc:∀ x∈scope.names,x.2=.local->(compNames env scope).lookup x.1=some .local
noncomputable def UsePost (M:Model) (A:Around) (E:Value->Shared->Prop) (use:Option (Value->Sem Unit)) (Q:Value->Shared->Prop) (L:Addr) (acc:Value) (r:Result) (s':Shared):Prop:=match r with
 | .error _=>False
 | .ok _=>match use with
  | none=>∃ m,s'.heap.Ns L m/\∀ h',Heap.SameBut L s'.heap h'->Q acc { s' with heap:=h' }
  | some u=>wpAny M A (u acc) (fun _ s''=>∃ m,s''.heap.Ns L m/\∀ h',Heap.SameBut L s''.heap h'->Q .none { s'' with heap:=h' }) E s'
theorem zdQ{first:Sem Value}{g:Comprehension}{gs:List Comprehension}(hcl:clausesOf e=g :: gs)(hs:∀ x,foldedSetIterable g.iter env x=pure x)(C:wM env scope)
  (h:wpAny M A first (fun x se=>wpAny M A (pyIter x) (fun it sf=>∀ D L h',sf.heap.objs.size<=D->D < L->h'.get? D=some { cls:=.type "list", data:=.seq (List.toArray ([]:List Value)) 0 }->h'.Ns L (fun _=>none)->(∀ b o,sf.heap.get? b=some o->h'.get? b=some o)->sf.heap.objs.size<=h'.objs.size->
   codeAny M A (.compStart e 0 it (.ref D) (compEnv env scope L)) (UsePost M A E use Q L (.ref D)) { sf with heap:=h' }) E se) E s):
  wpAny M A (comprehension e scope env pos (newList []) false first use) Q E s:=by
 unfold comprehension
 rw[jZ C.free,hcl]
 refine wpAny_bind (wpAny_mono h (fun x se hO=>wpAny_bind (wpAny_standAt (wpAny_bind (wpAny_of_eq (hs x) (wpAny_bind (wpAny_holding (wpAny_mono hO (fun it sf hS=>
  wpAny_standIf (wpAny_bind (wpAny_newList (wpAny_bind (wpAny_pure (wpAny_bind (wpAny_newFunctionEnv C.cell (fun x hx=>(nomatch hx)) (fun h' hn hsb=>?_) C.kind)))) (Nat.zero_le _))))
   fun _ _ h'=>h'))))))) fun _ _ h'=>h')
 dsimp only at hn hsb
 have hz0:(sf.heap.push { cls:=.type "list", data:=.seq (List.toArray ([]:List Value)) }).objs.size=sf.heap.objs.size+1:=Heap.size_push ..
 have kp:∀ b o,(sf.heap.push { cls:=.type "list", data:=.seq (List.toArray ([]:List Value)) }).get? b=some o->h'.get? b=some o:=fun b o q=>hsb.extBut b o (Nat.ne_of_lt (Heap.lt_size q)) (Heap.get?_push_of_some _ q)
 have hk':∀ b o,sf.heap.get? b=some o->h'.get? b=some o:=fun b o q=>kp b o (Heap.get?_push_of_some _ q)
 have hz:sf.heap.objs.size<=h'.objs.size:=by rw[hsb.1,Heap.size_push];lia
 have hZ:=hS sf.heap.objs.size _ h' (Nat.le_refl _) (by rw[hz0];exact Nat.lt_succ_self _) (kp _ _ (Heap.get?_push_size _ rfl)) hn hk' hz
 dsimp only[newEnv]
 have hv:∀ x∈(scope.names.filter fun x=>(x.2 == .local || x.2 == .cell) && x.1 != (".0" : Str)).reverse,x.2=.local->
   Env.kindOf (compEnv env scope (sf.heap.push { cls:=.type "list", data:=.seq (List.toArray ([]:List Value)) }).objs.size) x.1=some .local:=fun x hx hl=>C.loc x (List.mem_filter.mp (List.mem_reverse.mp hx)).1 hl
 have hv':∀ x∈(scope.names.filter fun x=>(x.2 == .local || x.2 == .cell) && x.1 != (".0" : Str)).reverse.drop 1 ++ (scope.names.filter fun x=>(x.2 == .local || x.2 == .cell) && x.1 != (".0" : Str)).reverse.take 1,
   x.2=.local->Env.kindOf (compEnv env scope (sf.heap.push { cls:=.type "list", data:=.seq (List.toArray ([]:List Value)) }).objs.size) x.1=some .local:=fun x hx hl=>by
  rcases List.mem_append.mp hx with h1 | h1
  ·exact hv x (List.mem_of_mem_drop h1) hl
  ·exact hv x (List.mem_of_mem_take h1) hl
 refine wpAny_holding (wpAny_bind (wpAny_attempt (wpAny_holding (wpAny_run (codeAny_mono hZ fun r s' hr=>?_)))))
 cases r with
 | error x=>exact hr.elim
 | ok f=>
  cases use with
  | none=>
   obtain⟨m,hn',hr⟩:=hr
   exact wpAny_bind (wpAny_holding (wpAny_comp_letGo (cenv:=compEnv env scope (sf.heap.push { cls:=.type "list", data:=.seq (List.toArray ([]:List Value)) }).objs.size) C.kind _ s' m hv hn' fun h' m' _ hs'=>wpAny_pure (hr h' hs')))
  | some u=>
   refine wpAny_bind (wpAny_rule (wpAny_bind (wpAny_holding (wpAny_mono hr (fun _ s'' hr'=>?_) fun _ _ h'=>h'))))
   obtain⟨m,hn',hr'⟩:=hr'
   exact wpAny_bind (wpAny_comp_letGo (cenv:=compEnv env scope (sf.heap.push { cls:=.type "list", data:=.seq (List.toArray ([]:List Value)) }).objs.size) C.kind _ s'' m hv' hn' fun h' m' _ hs'=>wpAny_pure (hr' h' hs'))
end
section
variable {cx:Cx}{k:Nat}{A:Around}{env:Env}{O:Rho}{J:Hp}{s:Shared}{ml:Loc}
theorem zL.sub{ml2:Loc}(E:zL cx env O h ml)(hs:∀ y v,ml2 y=some v->ml y=some v):zL cx env O h ml2:=by
 obtain⟨m,hm,r⟩:=E.loc
 exact⟨E.kind,E.glob,E.bn,⟨m,hm,fun y v e=>r y v (hs y v e)⟩,fun y v e=>E.cell y v (hs y v e),E.cells,E.inj,E.locN⟩
theorem jC:∀ {xs:List Nat} {vs:List MV} {m m':Loc},bindV xs vs m=some m'->∀ y,y ∉ xs->m' y=m y
 | [],_,m,m',q,y,_=>aNG (P:=fun _=>m' y=m y) q fun q=>by cases q;rfl
 | x :: xs,vs,m,m',q,y,h=>aCG (P:=fun _=>m' y=m y) q fun v vs q=>(jC q y fun z=>h (.tail _ z)).trans (if_neg fun (e:y=x)=>h (e ▸ .head _))
theorem zcF {t:Bool}{v:MV}{m m':Loc}(q:bindT t xs v m=some m'):∀ y,y ∉ xs->m' y=m y:=by
 cases t with
 | false=>exact a1G (P:=fun xs=>∀ y,y ∉ xs->m' y=m y) q fun x q y hy=>by cases q;exact if_neg fun (e:y=x)=>hy (e ▸ .head _)
 | true=>exact eTG (P:=fun _=>∀ y,y ∉ xs->m' y=m y) q fun vs q=>jC q
theorem xF{n:Str}{kd:NameKind}(h:(compNames env scope).lookup n=some kd):∃ k0,(n,k0)∈scope.names/\kd=if ownKind env n k0 then .cell else k0:=by
 unfold compNames at h
 have:∀ l:List (Str×NameKind),(l.map fun (n,k)=>if ownKind env n k then (n,NameKind.cell) else (n,k)).lookup n=some kd->∃ k0,(n,k0)∈l/\kd=if ownKind env n k0 then .cell else k0:=by
  intro l
  induction l with
  | nil=>intro h;simp at h
  | cons x l ih=>
   obtain⟨m,k0⟩:=x
   intro h
   rw[List.map_cons] at h
   by_cases ho:ownKind env m k0=true
   ·simp only[ho,if_true,List.lookup] at h
    cases hnm:n == m with
    | true=>
     rw[hnm] at h
     rw[beq_iff_eq] at hnm
     subst hnm
     exact⟨k0,.head _,by rw[ho];simp only[if_true];exact (Option.some.inj h).symm⟩
    | false=>
     rw[hnm] at h
     obtain⟨k1,a,b⟩:=ih h
     exact⟨k1,.tail _ a,b⟩
   ·simp only[ho,Bool.false_eq_true,if_false,List.lookup] at h
    cases hnm:n == m with
    | true=>
     rw[hnm] at h
     rw[beq_iff_eq] at hnm
     subst hnm
     exact⟨k0,.head _,by rw[if_neg ho];exact (Option.some.inj h).symm⟩
    | false=>
     rw[hnm] at h
     obtain⟨k1,a,b⟩:=ih h
     exact⟨k1,.tail _ a,b⟩
 exact this _ h
noncomputable def TgtsOnly (N:Nat->Str) (scope:Scope) (tgt:List Nat):Prop:=∀ x∈scope.names,x.2=.local->x.1 = ".0" ∨ ∃ t∈tgt,x.1=N t
theorem zgf (B:Base cx)(C:wM env scope)(TO:TgtsOnly cx.N scope tgt){L:Addr}(E:zL cx env O h ml)(S:Sim cx O J h)(x:Ext O h W0 O h')(hL:h.objs.size<=L)(hn:h'.Ns L fun _=>none):
  zL cx (compEnv env scope L) O h' (hide tgt ml):=by
 have E':=E.ext x
 have nL:¬ inR O L:=fun z=>Nat.lt_irrefl _ (Nat.lt_of_lt_of_le (S.lt z) hL)
 have free_of:∀ n,(compNames env scope).lookup n=some .cell∨(compNames env scope).lookup n=some .free->(n,NameKind.free)∈scope.names/\env.kindOf n=some .cell:=fun n hk=>by
  rcases hk with hk | hk
  ·obtain⟨k0,m,e⟩:=xF hk
   split at e
   ·rename_i ho
    unfold ownKind at ho
    simp only[Bool.and_eq_true,beq_iff_eq] at ho
    obtain⟨⟨rfl,_⟩,hc⟩:=ho
    exact⟨m,hc⟩
   ·exact absurd e.symm (C.cell _ m)
  ·obtain⟨k0,m,e⟩:=xF hk
   split at e
   ·cases e
   ·rename_i ho
    subst e
    have:=(C.free _ m rfl).1
    refine absurd ?_ ho
    unfold ownKind
    simp[E.kind,this]
 have cells_in:∀ n c,(closL env scope.names []).lookup n=some c->env.cells.lookup n=some c:=fun n c hc=>by
  rcases xf scope.names [] C.free n c hc with h | h
  ·simp at h
  ·exact h
 refine⟨C.kind,E.glob,E.bn,⟨_,hn,fun y v e hk=>?_⟩,fun y v e hk=>?_,fun n c hc=>?_,fun n m c h1 h2=>E.inj n m c (cells_in _ _ h1) (cells_in _ _ h2),⟨nL,Nat.le_trans S.size hL⟩⟩
 ·exfalso
  obtain⟨k0,m,ek⟩:=xF hk
  have k0l:k0=.local:=by
   split at ek
   ·cases ek
   ·exact ek.symm
  subst k0l
  simp only[hide] at e
  split at e
  ·cases e
  ·rename_i hy
   rcases TO _ m rfl with h0 | ⟨t,ht,e2⟩
   ·exact B.nz y h0
   ·have:=B.inj _ _ e2
    subst this
    exact hy (by simpa using ht)
 ·have e':ml y=some v:=by
   simp only[hide] at e
   split at e
   ·cases e
   ·exact e
  obtain⟨hf,hc⟩:=free_of _ hk
  obtain⟨c,val,a,b,d⟩:=E'.cell y v e' (.inl hc)
  refine⟨c,val,?_,b,d⟩
  have:=kh (env:=env) scope.names [] _ hf
  obtain⟨c',hc'⟩:=Option.isSome_iff_exists.mp this
  have:=cells_in _ _ hc'
  rw[a] at this
  cases this
  exact hc'
 ·obtain⟨a,b,d,v,i⟩:=E'.cells n c (cells_in _ _ hc)
  refine⟨a,?_,d,v,i⟩
  obtain⟨_,_,_,v0,i0⟩:=E.cells n c (cells_in _ _ hc)
  exact Nat.ne_of_lt (Nat.lt_of_lt_of_le i0.lt hL)
structure AccAt (cx:Cx)(O:Rho)(h:Heap)(D:Addr)(ms:List MV):Prop where
 n:¬ inR O D
 z:cx.hJ.get? D=none
 g:∃ vs c,h.get? D=some { cls:=.type "list", data:=.seq (List.toArray vs) c }/\zc O h ms vs
theorem AccAt.t{D:Addr}(a:AccAt cx O h D ms):ym h D:=by obtain⟨vs,c,g,_⟩:=a.g;exact zM g (by simp)
theorem AccAt.ext{D:Addr}(a:AccAt cx O h D ms)(x:Ext O h W O' h')(w:WOk h W)(hD:¬ W D):AccAt cx O' h' D ms:=by
 obtain⟨n,z,vs,c,g,r⟩:=a
 exact⟨x.yh g n,z,vs,c,x.keep _ _ g n hD,r.mono x w⟩
noncomputable def turnT (p:Pos) (te:Expr) (ifs:List Expr) (it:Value) (env:Env) (emit:Sem Unit) (c:Code):Sem PySem.Fin:=do
 standAt p
 match <- pyNext it with
 | none=>pure (.done .next)
 | some v=>
  letOwnedTupleGo te it v
  assign te env v
  let mut ok:=true
  for c in ifs do
   if ok then ok <- isTrue c env (PySem.eval c env)
  if ok then emit
  again c
inductive jg (cx:Cx)(k:Nat)(A:Around)(env:Env):List ME->List Expr->Prop
 | nil:jg cx k A env [] []
 | cons {e:ME} {re:Expr} {es:List ME} {res:List Expr} (h:SndT cx k A env e re) (r:jg cx k A env es res):jg cx k A env (e :: es) (re :: res)
theorem zcz{Q:Bool->Shared->Prop}(h:Q false s):
  wpM cx A (forIn res false fun c r=>if r=true then do let ok <- isTrue c env (PySem.eval c env);pure (ForInStep.yield ok) else pure (ForInStep.yield r)) Q s:=by
 induction res with
 | nil=>exact wpAny_pure h
 | cons c res ih=>
  rw[List.forIn_cons]
  exact wpAny_bind (wpAny_pure ih)
inductive zaA (cx:Cx)(O:Rho)(s:Shared)(J':Hp)(t:Bool):Bool->Shared->Prop
 | mk {O':Rho} {h':Heap} {tk:Tok} (S:Sim cx O' J' h') (x:Ext O s.heap W0 O' h'):zaA cx O s J' t t { s with heap:=h',toks:=tk }
theorem zl7{t:Bool}{tr:Sem Bool}{Q:Bool->Shared->Prop}(h:wpM cx A tr (zaA cx O s J' t) s)(k:∀ O' h' tk,Sim cx O' J' h'->Ext O s.heap W0 O' h'->Q t { s with heap:=h',toks:=tk }):wpAny (model cx.prog cx.w) A tr Q X s:=
 wpAny_mono h (fun _ _ p=>p.casesOn fun S x=>k _ _ _ S x) fun _ _ z=>z.elim
theorem xH(h:jg cx k A env es res):∀ ml J t J' O s,zL cx env O s.heap ml->Sim cx O J s.heap->evalAll cx.P (callN cx.P k) es ml J=some (t,J')->
  wpM cx A (forIn res true fun c r=>if r=true then do let ok <- isTrue c env (PySem.eval c env);pure (ForInStep.yield ok) else pure (ForInStep.yield r)) (zaA cx O s J' t) s:=by
 induction h with
 | nil=>intro ml J t J' O s E S q;exact pG q (wpAny_tests_nil (.mk (tk:=s.toks) S (Ext.refl ..)))
 | @cons e re es res h r ih=>
  intro ml J t J' O s E S q
  refine bG2 q fun v J1 q1 q=>bG q fun t1 q2 q3=>?_
  rw[List.forIn_cons]
  rw[if_pos rfl]
  refine wpAny_bind (wpAny_bind (wpT (h ml J v t1 J1 O s E S q1 q2) fun O1 hO tk1 Sa xa _=>wpAny_pure ?_))
  cases t1 with
  | true=>exact zl7 (ih ml J1 t J' O1 { s with heap:=hO,toks:=tk1 } (E.ext xa) Sa q3) fun O2 hS tk2 Sb xc=>.mk Sb (xa.trans xc)
  | false=>exact pG (P:=fun t J'=>wpM cx A _ (zaA cx O s J' t) _) q3 (zcz (.mk Sa xa))
end
inductive xu (cx:Cx)(env:Env)(O:Rho)(s:Shared)(D:Addr)(J':Hp)(ms:List MV)(ml:Loc):Shared->Prop
 | mk {O':Rho} {h':Heap} {tk:Tok} (S:Sim cx O' J' h') (x:Ext O s.heap (fun b=>b=D∨b=env.locals) O' h') (E:zL cx env O' h' ml) (a:AccAt cx O' h' D ms):xu cx env O s D J' ms ml { s with heap:=h',toks:=tk }
noncomputable def EmitOk (cx:Cx) (A:Around) (env:Env) (D:Addr) (pre:Loc->Prop) (step:Loc->Hp->Option (List MV×Hp)) (emit:Sem Unit):Prop:=
 ∀ ml J outs J' O (s:Shared) ms,pre ml->zL cx env O s.heap ml->Sim cx O J s.heap->AccAt cx O s.heap D ms->step ml J=some (outs,J')->ms.length+outs.length<=1000000->wpM cx A emit (fun _ s'=>xu cx env O s D J' (ms ++ outs) ml s') s
noncomputable def TestsOk (cx:Cx) (A:Around) (env:Env) (tst:Loc->Hp->Option (Bool×Hp)) (ifs:List Expr):Prop:=
 ∀ ml J t J' O (s:Shared),zL cx env O s.heap ml->Sim cx O J s.heap->tst ml J=some (t,J')->
  wpM cx A (forIn ifs true fun c r=>if r=true then do let ok <- isTrue c env (PySem.eval c env);pure (ForInStep.yield ok) else pure (ForInStep.yield r)) (zaA cx O s J' t) s
noncomputable def WC (W:Addr->Prop) (D:Addr) (env:Env):Addr->Prop:=fun b=>W b∨b=D∨b=env.locals
theorem WC.w{D:Addr}(x:Ext O h (WC W D env) O' h')(y:Ext O' h' W O1 hO):Ext O h (WC W D env) O1 hO:=x.trans (y.weaken fun _ z=>.inl z)
theorem WC.d{D:Addr}(x:Ext O h (WC W D env) O' h')(y:Ext O' h' (fun b=>b=D∨b=env.locals) O1 hO):Ext O h (WC W D env) O1 hO:=x.trans (y.weaken fun _ z=>.inr z)
noncomputable def cStep (isTup:Bool) (tgt:List Nat) (base:Loc) (tst:Loc->Hp->Option (Bool×Hp)) (step:Loc->Hp->Option (List MV×Hp)) (v:MV) (J:Hp):Option (List MV×Hp):=
 (bindT isTup tgt v base).bind fun m'=>(tst m' J).bind fun t=>if t.1 then step m' t.2 else some ([],t.2)
inductive zi1 (cx:Cx)(env:Env)(O:Rho)(s:Shared)(W:Addr->Prop)(D:Addr)(J':Hp)(base:Loc)(ms:List MV):Result->Shared->Prop
 | mk {O':Rho} {h':Heap} {tk:Tok} (S:Sim cx O' J' h') (x:Ext O s.heap (WC W D env) O' h') (E:zL cx env O' h' base) (a:AccAt cx O' h' D ms):zi1 cx env O s W D J' base ms (.ok .next) { s with heap:=h',toks:=tk }
inductive zme (cx:Cx)(env:Env)(O:Rho)(s:Shared)(W:Addr->Prop)(D:Addr)(St:Nat->Rho->Heap->Prop)(chk:List (Nat×Option (List MV)))(F:MV->Hp->Option (List MV×Hp))(base:Loc)(items ms out:List MV)(J':Hp):Nat->Shared->Prop
 | mk {i:Nat} {rest done left:List MV} {O':Rho} {Jc:Hp} {h':Heap} {tk:Tok} (hi:i<=items.length) (hr:items.drop i=rest) (q:Mine.compLoop chk F rest Jc=some (left,J')) (e:out=done ++ left) (E:zL cx env O' h' base) (S:Sim cx O' Jc h') (a:AccAt cx O' h' D (ms ++ done)) (st:St i O' h')
  (x:Ext O s.heap (WC W D env) O' h'):zme cx env O s W D St chk F base items ms out J' rest.length { s with heap:=h',toks:=tk }
section
variable {cx:Cx}{k:Nat}{A:Around}{env:Env}{O:Rho}{J:Hp}{s:Shared}
theorem zm4 {D:Addr}{t:Sem Unit}{Q:Unit->Shared->Prop}(h:wpM cx A t (fun _ s'=>xu cx env O s D J' ms ml s') s)
  (k:∀ O' h' tk,Sim cx O' J' h'->Ext O s.heap (fun b=>b=D∨b=env.locals) O' h'->zL cx env O' h' ml->AccAt cx O' h' D ms->Q () { s with heap:=h',toks:=tk }):wpAny (model cx.prog cx.w) A t Q X s:=
 wpAny_mono h (fun _ _ p=>p.casesOn fun S x E a=>k _ _ _ S x E a) fun _ _ z=>z.elim
theorem pE{a c:α}{b d:β}(h:some (a,b)=some (c,d)):a=c/\b=d:=by cases h;exact⟨rfl,rfl⟩
theorem zkN {D:Addr}(a:AccAt cx O h D ms)(E:zL cx env O h ml):WOk h (fun b=>b=D∨b=env.locals):=fun b hb=>hb.elim (fun e=>e ▸ a.t) fun e=>E.wok _ (.inl e)
theorem zaL{base m':Loc}{v:MV}(hbase:∀ y∈tgt,base y=.none)(q:bindT isTup tgt v base=some m'):∀ y v,base y=some v->m' y=some v:=fun y v e=>by
 by_cases hy:y∈tgt
 ·rw[hbase y hy] at e;cases e
 ·rw[zcF q y hy];exact e
theorem kW (hh:A.handled=none){D:Addr}{items:List MV}{tt:Bool}(Wk:xr cx A I items chk tt W St Mid)
  {tgt:List Nat} {isTup:Bool} {te:Expr} (bn:zaM cx A env (Wloc env) tgt) (T:Tgt cx.N isTup tgt te) (tok:tt=true->∃ elts k pos,te=.Tuple elts k pos) {ifs:List Expr} {tst:Loc->Hp->Option (Bool×Hp)} (ts:TestsOk cx A env tst ifs)
  {step:Loc->Hp->Option (List MV×Hp)} {emit:Sem Unit} {pre:Loc->Prop} (em:EmitOk cx A env D pre step emit) {elt:Expr} {gens:List Comprehension} {scope:Scope} {pos p:Pos} {d:Nat}
  (hturn:compTurn (.ListComp elt gens scope pos) d (.ref I) (.ref D) env=turnT p te ifs (.ref I) env emit (.compLoop (.ListComp elt gens scope pos) d (.ref I) (.ref D) env))
  {base:Loc} (hbase:∀ y∈tgt,base y=.none) (hpre:∀ v m',bindT isTup tgt v base=some m'->pre m') (disW:∀ b,W b->b≠D/\¬ Wenv env b) (disD:∀ b,Wenv env b->b≠D) {out ms:List MV} {J':Hp}
  (q:Mine.compLoop chk (cStep isTup tgt base tst step) items J=some (out,J'))
  (E:zL cx env O s.heap base) (S:Sim cx O J s.heap) (acc:AccAt cx O s.heap D ms) (st:St 0 O s.heap) (hlen:ms.length+out.length<=1000000):
  codeAny (model cx.prog cx.w) A (.compLoop (.ListComp elt gens scope pos) d (.ref I) (.ref D) env) (zi1 cx env O s W D J' base (ms ++ out)) s:=by
 refine codeAny_loop rfl (zme cx env O s W D St chk (cStep isTup tgt base tst step) base items ms out J') ?_ _ (.mk (tk:=s.toks) (done:=[]) (Nat.zero_le _) rfl q rfl E S (by rw[List.append_nil];exact acc) st (Ext.refl ..))
 clear q E S acc st
 refine fun n s' inv=>inv.casesOn fun {i rest done left O' Jc h' tk} hi hr qf e E' S' acc' st' x'=>?_
 clear inv
 show wpAny _ A ((compTurn (.ListComp elt gens scope pos) d (.ref I) (.ref D) env).onRaise (fun x=>do noteFrame x env;theTreesLotGoes x)) _ _ _
 refine wpAny_noted ?_
 rw[hturn]
 unfold turnT
 refine wpAny_bind (wpAny_standAt (wpAny_bind ?_))
 have W1:=Own.wok (Wk.own st')
 have dE:∀ b,Wenv env b->¬ W b:=fun b hb hw=>(disW b hw).2 hb
 have dD:¬ W D:=fun hw=>(disW D hw).1 rfl
 cases rest with
 | cons v rest=>
  obtain⟨hv,hr⟩:=zjV hr
  refine iG qf fun hc qf=>bG2 qf fun o1 J3 q1 qf=>bG2 qf fun o2 J4 qr qe=>bG q1 fun m' qb q1=>bG2 q1 fun t J2 qt qs=>Wk.next hv st' S' hc fun v hU tk3 S3 xh mid rv=>wpAny_bind (Wk.go tok mid S3 fun hZ tk4 S4 xi st4=>?_)
  clear qf q1
  have W3:=Own.wok (Wk.ownM mid)
  have E4:=(E'.zgH xh W1 dE).zgH xi W3 dE
  refine wpAny_bind (wpB (yG hh bn T (s:={ s with heap:=hZ,toks:=tk4 }) E4 S4 (rv.mono xi W3) qb) fun h_ tk5 S5 xk E5=>wpAny_bind (zl7 (ts m' Jc t J2 O' { s with heap:=h_,toks:=tk5 } E5 S5 qt) fun O6 h₆ tk6 S6 xv=>?_))
  have w5:WOk hZ (Wloc env):=bn.wok _ _ _ E4
  have st6:=Wk.keep (Wk.keep st4 xk w5 fun b hb hw=>(disW b hb).2 (.inl hw)) xv (WOk.w0 _) fun _ _ z=>z
  have A6:=(((acc'.ext xh W1 dD).ext xi W3 dD).ext xk w5 fun hw=>disD D (.inl hw) rfl).ext xv (WOk.w0 _) fun z=>z
  have xx:Ext O s.heap (WC W D env) O6 h₆:=((WC.w (WC.w x' xh) xi).trans (xk.weaken fun _ z=>.inr (.inr z))).trans (xv.weaken fun _ z=>z.elim)
  have E6:=E5.ext xv
  have hi':i+1<=items.length:=(List.getElem?_eq_some_iff.mp hv).1
  clear x' xh xi xk xv st4 E4 E5 S3 S4 S5 mid rv qt W1 W3 w5 hv hi acc' st'
  have e:out=done ++ (o1 ++ o2):=(pE qe).1 ▸ e
  have qr:Mine.compLoop chk (cStep isTup tgt base tst step) rest J3=some (o2,J'):=(pE qe).2 ▸ qr
  clear qe
  cases t with
  | true=>
   refine wpAny_bind (zm4 (em m' J2 o1 J3 O6 { s with heap:=h₆,toks:=tk6 } (ms ++ done) (hpre _ _ qb) E6 S6 A6 qs (by rw[e] at hlen;simp only[List.length_append] at hlen ⊢;lia)) fun O7 h₇ tk7 S7 xw E7 A7=>?_)
   have st7:=Wk.keep st6 xw (zkN A6 E6) fun b hb hw=>hw.elim (disW b hb).1 fun hw=>(disW b hb).2 (.inl hw)
   exact wpAny_pure ⟨rfl,_,Nat.lt_succ_self _,.mk hi' hr qr (by rw[List.append_assoc];exact e) (E7.sub (zaL hbase qb)) S7 (by rw[<- List.append_assoc];exact A7) st7 (WC.d xx xw)⟩
  | false=>
   have e:out=done ++ o2:=by rw[e,<- show []=o1 from (pE qs).1];rfl
   have qr:Mine.compLoop chk (cStep isTup tgt base tst step) rest J2=some (o2,J'):=(show J2=J3 from (pE qs).2) ▸ qr
   exact wpAny_pure ⟨rfl,_,Nat.lt_succ_self _,.mk hi' hr qr e (E6.sub (zaL hbase qb)) S6 A6 st6 xx⟩
 | nil=>
  have st':St items.length O' h':=zkO hi hr ▸ st'
  refine iG qf fun hc qf=>Wk.done st' S' hc fun hU tk3 S3 xh=>wpAny_pure ?_
  rw[e]
  exact pG (P:=fun l J'=>zi1 cx env O s W D J' base (ms ++ (done ++ l)) _ _) qf ⟨S3,WC.w x' xh,E'.zgH xh W1 dE,by rw[List.append_nil];exact acc'.ext xh W1 dD⟩
end
section
variable {cx:Cx}{k:Nat}{A:Around}{env:Env}{O:Rho}{J:Hp}{s:Shared}{ml:Loc}
noncomputable def stepOne (P:zfu) (call:CallT) (elt:ME):Loc->Hp->Option (List MV×Hp):=fun m' J=>(evalE P call elt m' J).bind fun w=>some ([w.1],w.2)
theorem zL.zgB(E:zL cx env O h ml){D:Addr}{xs:Array Value}(g:h.get? D=some { cls:=.type "list", data:=.seq xs c }):∀ b,Wenv env b->¬ b=D:=fun b hb hD=>by
 rw[<- hD] at g
 rcases hb with rfl | ⟨nm,hc⟩
 ·obtain⟨m,⟨o,es,ep,e,q,_⟩,_⟩:=E.loc
  rw[g] at e;cases e;cases q
 ·obtain⟨_,_,_,v,⟨o,e,q⟩⟩:=E.cells nm b hc
  rw[g] at e;cases e;cases q
theorem zgq{D:Addr}{v:MV}(S:Sim cx O J h)(A:AccAt cx O h D ms)(E:zL cx env O h ml)(r:zp O h v x){vs:List Value}(g:h.get? D=some { cls:=.type "list", data:=.seq (List.toArray vs) c }) (rr:zc O h ms vs) {P:Prop}
  (k:Sim cx O J (h.update D (Obj.mapSeq fun y=>y.push x))->Ext O h (·=D) O (h.update D (Obj.mapSeq fun y=>y.push x))->zL cx env O (h.update D (Obj.mapSeq fun y=>y.push x)) ml->AccAt cx O (h.update D (Obj.mapSeq fun y=>y.push x)) D (ms ++ [v])->P):P:=by
 have w:WOk h (·=D):=fun b hb=>hb ▸ A.t
 obtain⟨Sb,xc⟩:=S.other (h':=h.update D (Obj.mapSeq fun y=>y.push x)) (W:=(·=D)) w (fun b o e hb=>(Heap.get?_update_other _ _ (Ne.symm hb)).trans e) (fun b hb=>hb ▸ ⟨A.n,A.z⟩) (by rw[Heap.size_after_update];exact Nat.le_refl _)
 refine k Sb xc (E.zgH xc w (E.zgB g)) ⟨A.n,A.z,vs ++ [x],(if (vs ++ [x]).toArray.size == vs.toArray.size then c else c+1),?_,(rr.mono xc w).append (.cons (r.mono xc w) .nil)⟩
 rw[Heap.get?_update_self _ g (by rfl)]
 show some ({ cls:=.type "list", data:=.seq (vs.toArray.push x) (if (vs.toArray.push x).size == vs.toArray.size then c else c+1) }:Obj)=_
 rw[List.push_toArray]
theorem zeh {D:Addr}(h:SndE cx k A env elt (PySem.eval relt env)):EmitOk cx A env D (fun _=>True) (stepOne cx.P (callN cx.P k) elt) (do let _ <- call (.builtin "list.append") [.ref D,<- PySem.eval relt env]):=fun ml J outs J' O s ms _ E S acc q hl=>by
 revert hl
 refine bG2 q fun v J1 q1 q=>pG (P:=fun outs J'=>ms.length+outs.length<=1000000->wpM cx A _ (fun _ s'=>xu cx env O s D J' (ms ++ outs) ml s') s) q fun hl=>?_
 refine wpAny_bind (wpE (h ml J v J1 O s E S q1) fun x O1 hO tk1 Sa xa rg=>?_)
 have A1:=acc.ext xa (WOk.w0 _) fun z=>z
 obtain⟨vs,c,g,rr⟩:=A1.g
 exact wpAny_bind (call_meets PySem.F.slot_list_append (zx g).typeIs PySem.F.entry_list_append (PySem.F.args_list_append_2 _ _) (PySem.list_append D vs.toArray c x (by rw[List.size_toArray,<- rr.length];exact zB (Nat.le_trans (Nat.le_add_right _ _) hl))) ⟨g,
  zgq Sa A1 (E.ext xa) rg g rr fun Sb xc E2 Aa=>wpAny_pure (.mk Sb ((xa.weaken fun _ z=>z.elim).trans (xc.weaken fun _ z=>.inl z)) E2 Aa)⟩)
structure wA (cx:Cx)(env:Env)(scope:Scope)(tgt all:List Nat):Prop where
 sc:wM env scope
 only:TgtsOnly cx.N scope all
 loc:∀ x∈tgt,(compNames env scope).lookup (cx.N x)=some .local
theorem wF (B:Base cx)(hh:A.handled=none){elt:Expr}{more:List Comprehension}{fpos:Pos}(It:ItE cx k A env ik its riter)(T:Tgt cx.N isTup tgt te)
  (ht:kindTup ik=true->isTup=true) (hs:∀ x,foldedSetIterable riter env x=pure x) (C:wA cx env scope tgt all) (hsub:∀ x∈tgt,x∈all) {tst:Loc->Hp->Option (Bool×Hp)} (ts:∀ L,TestsOk cx A (compEnv env scope L) tst rifs)
  {step:Loc->Hp->Option (List MV×Hp)} {emit:Addr->Env->Sem Unit} {pre:Loc->Prop} (hpre:∀ v m',bindT isTup tgt v (hide all ml)=some m'->pre m') (em:∀ D L,EmitOk cx A (compEnv env scope L) D pre step (emit D (compEnv env scope L)))
  (hturn:∀ I D L,compTurn (.ListComp elt (⟨te,riter,rifs,0⟩ :: more) scope pos) 0 (.ref I) (.ref D) (compEnv env scope L)=turnT riter.pos te rifs (.ref I) (compEnv env scope L) (emit D (compEnv env scope L)) (.compLoop (.ListComp elt (⟨te,riter,rifs,0⟩ :: more) scope pos) 0 (.ref I) (.ref D) (compEnv env scope L)))
  {use:Option (Value->Sem Unit)} {Q:Value->Shared->Prop} {vs:List MV} {J1 Ja J':Hp} {items:List MV} {chk:List (Nat×Option (List MV))} {out:List MV} (E:zL cx env O s.heap ml) (S:Sim cx O J s.heap)
  (q1:evalL cx.P (callN cx.P k) its ml J=some (vs,J1)) (q2:iterOf ik vs J1=some (items,chk,Ja))
  (q3:Mine.compLoop chk (fun v J=>(bindT isTup tgt v (hide all ml)).bind fun m'=>(tst m' J).bind fun t=>if t.1 then step m' t.2 else some ([],t.2)) items Ja=some (out,J')) (hlen:out.length<=1000000)
  (fin:∀ O' h' tk D L m,Sim cx O' (J' ++ [.list out]) h'->Ext O s.heap W0 O' h'->zp O' h' (.ref J'.length) (.ref D)->h'.Ns L m->s.heap.objs.size<=L->¬ inR O' L->match use with
   | none=>∀ h'',Heap.SameBut L h' h''->Q (.ref D) { s with heap:=h'',toks:=tk }
   | some u=>wpM cx A (u (.ref D)) (fun _ s''=>∃ m,s''.heap.Ns L m/\∀ h'',Heap.SameBut L s''.heap h''->Q .none { s'' with heap:=h'' }) { s with heap:=h',toks:=tk }):
  wpM cx A (comprehension (.ListComp elt (⟨te,riter,rifs,0⟩ :: more) scope pos) scope env fpos (newList []) false (PySem.eval riter env) use) Q s:=by
 refine zdQ (g:=⟨te,riter,rifs,0⟩) (gs:=more) rfl hs C.sc (wpAny_mono (It ml J vs J1 items chk Ja O s E S q1 q2) (fun x se p=>wpAny_mono p (fun it sf p=>?_) fun _ _ z=>z) fun _ _ z=>z)
 refine p.casesOn fun {I O1 hO tk1 W St Mid} Sa xa wk st fr=>?_
 clear p
 have Wk:=wk A hh
 intro D L hS hD hDL gD hn2 kk1 hz2
 dsimp only at hD kk1 hz2
 obtain⟨Sb,xc⟩:=zZ Sa kk1 hz2
 have nD:¬ inR O1 D:=fun z=>Nat.lt_irrefl _ (Nat.lt_of_lt_of_le (Sa.lt z) hD)
 have zD:cx.hJ.get? D=none:=Heap.get?_none_of_le (Nat.le_trans Sa.size hD)
 have acc:AccAt cx O1 hS D []:=⟨nD,zD,[],0,gD,.nil⟩
 have E1:=E.ext xa
 have Lz:hO.objs.size<=L:=Nat.le_trans hD (Nat.le_of_lt hDL)
 have EC:=zgf B C.sc C.only E1 Sa xc Lz hn2
 have below:∀ b,W b->b < hO.objs.size:=fun b hb=>(Wk.own st b hb).lt
 have st2:=Wk.keep st xc (WOk.w0 _) fun _ _ z=>z
 have cellsE:∀ n c,(compEnv env scope L).cells.lookup n=some c->env.cells.lookup n=some c:=fun n c hc=>by
  rcases xf scope.names [] C.sc.free n c hc with h | h
  ·simp at h
  ·exact h
 have disW:∀ b,W b->b≠D/\¬ Wenv (compEnv env scope L) b:=fun b hb=>by
  have h1:=below b hb
  exact⟨Nat.ne_of_lt (Nat.lt_of_lt_of_le h1 hD),fun hw=>hw.elim (fun (e:b=L)=>Nat.ne_of_lt (Nat.lt_of_lt_of_le h1 Lz) e) fun⟨n,hc⟩=>Nat.lt_irrefl _ (Nat.lt_of_lt_of_le (E.below (.inr ⟨n,cellsE n b hc⟩)) (fr b hb))⟩
 have disD:∀ b,Wenv (compEnv env scope L) b->b≠D:=fun b hb e=>hb.elim (fun (f:b=L)=>Nat.ne_of_lt hDL (e.symm.trans f)) fun⟨n,hc⟩=>Nat.lt_irrefl _ (Nat.lt_of_lt_of_le (e ▸ E1.below (.inr ⟨n,cellsE n _ hc⟩)) hD)
 have hbase:∀ y∈tgt,hide all ml y=.none:=fun y hy=>by simp[hide,hsub y hy]
 have core:=kW (s:={ s with heap:=hS,toks:=tk1 }) hh Wk (xV (A:=A) (env:=compEnv env scope L) B (xs:=tgt) C.loc) T (T.tok ht) (ts L) (em D L) (hturn I D L) hbase hpre disW disD q3 EC Sb acc st2 (by simpa using hlen)
 have post:∀ (r:Result) (s':Shared),zi1 cx (compEnv env scope L) O1 { s with heap:=hS,toks:=tk1 } W D J' (hide all ml) ([] ++ out) r s'->UsePost (model cx.prog cx.w) A FF use Q L (.ref D) r s':=by
  refine fun r s' p=>p.casesOn fun {O' h' tk} S' x' E' A'=>?_
  rw[List.nil_append] at A'
  obtain⟨nD',zD',ws,c,g',rr⟩:=A'
  have xx:Ext O s.heap W0 O' h':=by
   exact Ext.narrow (((xa.trans xc).weaken fun _ z=>z.elim).trans x') fun b hb=>.inr (Heap.get?_none_of_le (hb.elim (fr b) fun hb=>hb.elim (fun e=>e ▸ Nat.le_trans xa.size hD) fun (e:b=L)=>e ▸ Nat.le_trans xa.size Lz))
  obtain⟨S'',x'',e'',_⟩:=S'.adopt xx (p:=(D,D)) (o:=.list out) ⟨ws,c,g',rr,rfl⟩ nD' nD' (Nat.le_trans xa.size hD) (Nat.le_trans xa.size hD) S.size
  obtain⟨m,hm,_⟩:=E'.loc
  have nL:¬ inR (O' ++ [(D,D)]) L:=fun z=>by
   rcases qy z with z | z | z
   ·exact E'.locN.1 z
   ·exact Nat.ne_of_gt hDL z
   ·exact Nat.ne_of_gt hDL z
  have F:=fin _ h' tk D L m S'' x'' (.ref e'') hm (Nat.le_trans xa.size Lz) nL
  cases use with
  | none=>exact⟨m,hm,F⟩
  | some u=>exact F
 refine codeAny_compStart_list (codeAny_mono core fun r s' h=>post r s' h) ?_
 exact zek (Wk.self (s:={ s with heap:=hS,toks:=tk1 }) st2 (codeAny_mono core fun r s' h=>post r s' h))
end
section
variable {cx:Cx}{k:Nat}{A:Around}{env:Env}{O:Rho}{J:Hp}{s:Shared}{ml:Loc}
theorem zbP (te riter relt:Expr)(rifs:List Expr)(scope:Scope)(pos:Pos)(it acc:Value)(env:Env):
  compTurn (.ListComp relt [⟨te,riter,rifs,0⟩] scope pos) 0 it acc env=turnT riter.pos te rifs it env (do let _ <- call (.builtin "list.append") [acc,<- PySem.eval relt env]) (.compLoop (.ListComp relt [⟨te,riter,rifs,0⟩] scope pos) 0 it acc env):=by rfl
noncomputable def emitTwo (riter2:Expr) (e:Expr) (acc:Value) (env:Env):Sem Unit:=do
 let x <- PySem.eval riter2 env
 standAt riter2.pos
 let x <- foldedSetIterable riter2 env x
 let _ <- runOwn (.compStart e 1 (<- holding [x] (pyIter x)) acc env) env
theorem zfP (te riter te2 riter2 relt:Expr)(rifs rifs2:List Expr)(scope:Scope)(pos:Pos)(it acc:Value)(env:Env):
  compTurn (.ListComp relt [⟨te,riter,rifs,0⟩,⟨te2,riter2,rifs2,0⟩] scope pos) 0 it acc env=turnT riter.pos te rifs it env (emitTwo riter2 (.ListComp relt [⟨te,riter,rifs,0⟩,⟨te2,riter2,rifs2,0⟩] scope pos) acc env) (.compLoop (.ListComp relt [⟨te,riter,rifs,0⟩,⟨te2,riter2,rifs2,0⟩] scope pos) 0 it acc env):=by
 unfold compTurn turnT emitTwo
 simp[bind_assoc]
 rfl
theorem zik (te riter te2 riter2 relt:Expr)(rifs rifs2:List Expr)(scope:Scope)(pos:Pos)(it acc:Value)(env:Env):
  compTurn (.ListComp relt [⟨te,riter,rifs,0⟩,⟨te2,riter2,rifs2,0⟩] scope pos) 1 it acc env=turnT riter2.pos te2 rifs2 it env (do let _ <- call (.builtin "list.append") [acc,<- PySem.eval relt env]) (.compLoop (.ListComp relt [⟨te,riter,rifs,0⟩,⟨te2,riter2,rifs2,0⟩] scope pos) 1 it acc env):=by rfl
theorem jL{L:Addr}{m:Str->Option Value}(S:Sim cx O J h)(hm:h.Ns L m)(hL:¬ inR O L)(hz:cx.hJ.objs.size<=L)(hs:Heap.SameBut L h h'):Sim cx O J h'/\Ext O h (·=L) O h':=
 S.other (fun b hb=>hb ▸ yr hm) (fun b o e hb=>(hs.2 b hb).trans e) (fun b hb=>hb ▸ ⟨hL,Heap.get?_none_of_le hz⟩) (Nat.le_of_eq hs.1.symm)
theorem zfn (B:Base cx)(hh:A.handled=none)(It:ItE cx k A env ik its riter)(T:Tgt cx.N isTup tgt te)
  (ht:kindTup ik=true->isTup=true) (hs:∀ x,foldedSetIterable riter env x=pure x) (C:wA cx env scope tgt tgt) (hi:∀ L,jg cx k A (compEnv env scope L) ifs rifs) (he:∀ L,SndE cx k A (compEnv env scope L) elt (PySem.eval relt (compEnv env scope L))):
  SndE cx k A env (.comp elt isTup tgt ik its ifs) (PySem.eval (.ListComp relt [⟨te,riter,rifs,0⟩] scope pos) env):=fun ml J v J' O s E S q=>by
 refine bG2 q fun vs J1 q1 q=>bG3 q fun items chk Ja q2 q=>bG2 q fun out Jb q3 q=>iG q fun hlen q=>pG q ?_
 clear q
 show wpM cx A (comprehension (.ListComp relt [⟨te,riter,rifs,0⟩] scope pos) scope env _ (newList []) false (PySem.eval riter env) none) _ s
 refine wF B hh It T ht hs C (fun _ h=>h) (tst:=evalAll cx.P (callN cx.P k) ifs) (fun L=>xH (hi L)) (pre:=fun _=>True) (fun _ _ _=>trivial) (step:=stepOne cx.P (callN cx.P k) elt) (emit:=fun D ce=>do let _ <- call (.builtin "list.append") [.ref D,<- PySem.eval relt ce]) (fun D L=>zeh (he L)) (fun I D L=>zbP ..) E S q1 q2 q3 hlen ?_
 intro O' h' tk D L m S' x' r' hm hL nL h'' hs''
 obtain⟨S'',x''⟩:=jL S' hm nL (Nat.le_trans S.size hL) hs''
 exact⟨O',h'',tk,rfl,S'',Ext.narrow ((x'.weaken fun _ z=>z.elim).trans x'') fun b hb=>.inr (hb ▸ Heap.get?_none_of_le hL),r'.mono x'' (fun b hb=>hb ▸ yr hm)⟩
theorem zgn (B:Base cx)(hh:A.handled=none){tpos:Pos}{x:Nat}(It:ItE cx k A env ik its riter)(T:Tgt cx.N isTup tgt te)
  (ht:kindTup ik=true->isTup=true) (hs:∀ x,foldedSetIterable riter env x=pure x) (C:wA cx env scope tgt tgt) (hi:∀ L,jg cx k A (compEnv env scope L) ifs rifs) (he:∀ L,SndE cx k A (compEnv env scope L) elt (PySem.eval relt (compEnv env scope L))) (hk:env.kindOf (cx.N x)=some .local)
  {v:MV} {J':Hp} (E:zL cx env O s.heap ml) (S:Sim cx O J s.heap) (q:evalE cx.P (callN cx.P k) (.comp elt isTup tgt ik its ifs) ml J=some (v,J')):
  wpM cx A (evalThenUse (.ListComp relt [⟨te,riter,rifs,0⟩] scope pos) env (assign (.Name (cx.N x) tpos) env)) (fun _ s'=>zJ cx env O s J' (upd ml x v) .none .next s') s:=by
 refine bG2 q fun vs J1 q1 q=>bG3 q fun items chk Ja q2 q=>bG2 q fun out Jb q3 q=>iG q fun hlen q=>pG q ?_
 clear q
 show wpM cx A (comprehension (.ListComp relt [⟨te,riter,rifs,0⟩] scope pos) scope env _ (newList []) false (PySem.eval riter env) (some (assign (.Name (cx.N x) tpos) env)) >>= fun _=>pure ()) _ s
 refine wpAny_bind (wF B hh It T ht hs C (fun _ h=>h) (tst:=evalAll cx.P (callN cx.P k) ifs) (fun L=>xH (hi L)) (pre:=fun _=>True) (fun _ _ _=>trivial) (step:=stepOne cx.P (callN cx.P k) elt) (emit:=fun D ce=>do let _ <- call (.builtin "list.append") [.ref D,<- PySem.eval relt ce]) (fun D L=>zeh (he L)) (fun I D L=>zbP ..) E S q1 q2 q3 hlen ?_)
 clear q1 q2 q3
 intro O' h' tk D L m S' x' r' hm hL nL
 dsimp only
 rw[arm_assign_Name]
 refine wpAny_bind (wpAny_standAt (wpB (yD (s:={ s with heap:=h',toks:=tk }) B (E.ext x') S' r' hk) fun hS tk2 Sb xc E2=>?_))
 have hma:hS.Ns L m:=Ns.stay hm fun o e=>xc.keep _ _ e nL fun e=>Nat.lt_irrefl _ (Nat.lt_of_lt_of_le (E.below (.inl rfl)) (e ▸ hL))
 refine⟨m,hma,fun hU hs3=>wpAny_pure ?_⟩
 obtain⟨S3,xh⟩:=jL Sb hma nL (Nat.le_trans S.size hL) hs3
 refine⟨O',hU,tk2,rfl,S3,?_,E2.zgH xh (fun b hb=>hb ▸ yr hma) (fun b hb e=>Nat.lt_irrefl _ (Nat.lt_of_lt_of_le (E.below hb) (e ▸ hL))),rfl⟩
 exact Ext.narrow (W:=fun b=>Wenv env b∨b=L) (((x'.weaken fun _ z=>z.elim).trans (xc.weaken fun b hb=>.inl (.inl hb))).trans (xh.weaken fun b hb=>.inr hb)) fun b hb=>hb.elim .inl fun hb=>.inr (hb ▸ Heap.get?_none_of_le hL)
end
section
variable {cx:Cx}{k:Nat}{A:Around}{env:Env}{O:Rho}{J:Hp}{s:Shared}{ml:Loc}
noncomputable def stepTwo (P:zfu) (call:CallT) (elt it2:ME) (isTup:Bool) (tgt:List Nat) (ifs:List ME):Loc->Hp->Option (List MV×Hp):=fun m1 J=>(evalE P call it2 m1 J).bind fun p2=>(iterOf .val [p2.1] p2.2).bind fun q2=>
 Mine.compLoop q2.2.1 (fun u J=>(bindT isTup tgt u m1).bind fun m'=>(evalAll P call ifs m' J).bind fun t=>if t.1 then stepOne P call elt m' t.2 else some ([],t.2)) q2.1 q2.2.2
theorem zf0{it acc:Value}{R:Result->Shared->Prop}
  (h0:codeAny (model cx.prog cx.w) A (.compLoop (.ListComp relt [⟨te,riter,rifs,0⟩,⟨te2,riter2,rifs2,0⟩] scope pos) 1 it acc env) R s)
  (h:wpAny (model cx.prog cx.w) A (pyIter it) (fun it' s'=>codeAny (model cx.prog cx.w) A (.compLoop (.ListComp relt [⟨te,riter,rifs,0⟩,⟨te2,riter2,rifs2,0⟩] scope pos) 1 it' acc env) R s') (notedBy (model cx.prog cx.w) A env fun x s'=>R (.error x) s') s):
  codeAny (model cx.prog cx.w) A (.compStart (.ListComp relt [⟨te,riter,rifs,0⟩,⟨te2,riter2,rifs2,0⟩] scope pos) 1 it acc env) R s:=by
 refine codeAny_of_tree ?_
 show wpAny _ _ ((compStart (.ListComp relt [⟨te,riter,rifs,0⟩,⟨te2,riter2,rifs2,0⟩] scope pos) 1 it acc env).onRaise (fun x=>do noteFrame x env;standAt theWindowsPlace)) _ _ s
 refine wpAny_notedAt ?_
 unfold compStart
 show wpAny _ _ (ask >>= _) _ _ s
 refine wpAny_bind (wpAny_askSetting (wpAny_ite ?_))
 split
 ·first
   | exact wpAny_bind (wpAny_pure (wpAny_pure (And.intro rfl h0)))
   | exact wpAny_pure (And.intro rfl h0)
 ·first
   | exact wpAny_bind (wpAny_rule (wpAny_bind (wpAny_standAt (wpAny_bind (wpAny_mono h (fun it' s' h'=>wpAny_pure (And.intro rfl h')) fun _ _ x=>x)))))
   | exact wpAny_rule (wpAny_bind (wpAny_standAt (wpAny_bind (wpAny_mono h (fun it' s' h'=>wpAny_pure (And.intro rfl h')) fun _ _ x=>x))))
theorem AccAt.zm7 {D:Addr}(a:AccAt cx O h D ms)(E:zL cx env O h ml):∀ b,Wenv env b->b≠D:=by
 obtain⟨_,_,vs,c,g,_⟩:=a
 exact E.zgB g
theorem zkC (B:Base cx)(hh:A.handled=none){D:Addr}{it2:ME}(h2:SndE cx k A env it2 (PySem.eval riter2 env))(T:Tgt cx.N isTup tgt te2)
  (hs:∀ x,foldedSetIterable riter2 env x=pure x) (hk:∀ x∈tgt,env.kindOf (cx.N x)=some .local) (hi:jg cx k A env ifs rifs2) (he:SndE cx k A env elt (PySem.eval relt env)):
  EmitOk cx A env D (fun m=>∀ y∈tgt,m y=.none) (stepTwo cx.P (callN cx.P k) elt it2 isTup tgt ifs) (emitTwo riter2 (.ListComp relt [⟨te,riter,rifs,0⟩,⟨te2,riter2,rifs2,0⟩] scope pos) (.ref D) env):=fun ml J out J' O s ms hp E S acc q hlen=>by
 refine bG2 q fun v J1 q1 q=>bG3 q fun items chk Ja q2 q3=>?_
 clear q
 unfold emitTwo
 refine wpAny_bind (wpE (h2 ml J v J1 O s E S q1) fun x O1 hO tk1 Sa xa rg=>?_)
 refine wpAny_bind (wpAny_standAt (wpAny_bind (wpAny_of_eq (hs x) ?_)))
 refine wpAny_bind (wpAny_holding (wpAny_mono (zb0 (s:={ s with heap:=hO,toks:=tk1 }) Sa rg q2) (fun it sf p=>(p.after xa).casesOn fun {I O2 hS tk2 W St Mid} Sb xc wk st fr=>?_) fun _ _ z=>z))
 clear q1 q2 Sa xa rg
 have Wk:=wk A hh
 have E2:=E.ext xc
 have Aa:=acc.ext xc (WOk.w0 _) fun z=>z
 obtain⟨_,_,vsD,cD,gD,_⟩:=id acc
 have disW:∀ b,W b->b≠D/\¬ Wenv env b:=fun b hb=>⟨fun e=>Nat.lt_irrefl _ (Nat.lt_of_lt_of_le (Heap.lt_size gD) (e ▸ fr b hb)),fun hw=>Nat.lt_irrefl _ (Nat.lt_of_lt_of_le (E.below hw) (fr b hb))⟩
 have disD:=acc.zm7 E
 have core:=kW (s:={ s with heap:=hS,toks:=tk2 }) (d:=1) hh Wk (xV (A:=A) (env:=env) B (xs:=tgt) hk) T (fun z=>by cases z) (xH hi) (pre:=fun _=>True) (step:=stepOne cx.P (callN cx.P k) elt) (emit:=do let _ <- call (.builtin "list.append") [.ref D,<- PySem.eval relt env]) (zeh he) (zik te riter te2 riter2 relt rifs rifs2 scope pos (.ref I) (.ref D) env) hp (fun _ _ _=>trivial) disW disD q3 E2 Sb Aa st hlen
 have post:∀ (r:Result) (s':Shared),zi1 cx env O2 { s with heap:=hS,toks:=tk2 } W D J' ml (ms ++ out) r s'->(match r with
   | .ok f=>wpAny (model cx.prog cx.w) A (pure ()) (fun _ s'=>xu cx env O s D J' (ms ++ out) ml s') FF s'
   | .error e=>cameBackBy (model cx.prog cx.w) A env FF e s'):=fun r s' p=>p.casesOn fun {O' h' tk} S' x' E' A'=>
  wpAny_pure (.mk S' (Ext.narrow ((xc.weaken fun _ z=>z.elim).trans x') fun b hb=>hb.elim (fun hb=>.inr (Heap.get?_none_of_le (fr b hb))) .inl) E' A')
 refine wpAny_bind (wpAny_runOwn (zf0 (codeAny_mono core fun r s' h=>post r s' h) ?_))
 exact zek (Wk.self (s:={ s with heap:=hS,toks:=tk2 }) st (codeAny_mono core fun r s' h=>post r s' h))
theorem zdp (B:Base cx)(hh:A.handled=none){it it2:ME}{x:Nat}(h1:SndE cx k A env it (PySem.eval riter env))(T:Tgt cx.N isTup tgt te2)
  (hs:∀ x,foldedSetIterable riter env x=pure x) (hs2:∀ L x,foldedSetIterable riter2 (compEnv env scope L) x=pure x) (C:wA cx env scope (x :: tgt) (x :: tgt)) (hx:x ∉ tgt) (h2:∀ L,SndE cx k A (compEnv env scope L) it2 (PySem.eval riter2 (compEnv env scope L)))
  (hi:∀ L,jg cx k A (compEnv env scope L) ifs rifs2) (he:∀ L,SndE cx k A (compEnv env scope L) elt (PySem.eval relt (compEnv env scope L))):
  SndE cx k A env (.comp2 elt x it isTup tgt it2 ifs) (PySem.eval (.ListComp relt [⟨.Name (cx.N x) p,riter,[],0⟩,⟨te2,riter2,rifs2,0⟩] scope pos) env):=fun ml J v J' O s E S q=>by
 refine bG2 q fun w J1 q1 q=>bG3 q fun items chk Ja q2 q=>bG2 q fun out Jb q3 q=>iG q fun hlen q=>pG q ?_
 clear q
 have C1:wA cx env scope [x] (x :: tgt):=⟨C.sc,C.only,fun y hy=>C.loc y (by rw[List.mem_singleton.mp hy];exact .head _)⟩
 have el:evalL cx.P (callN cx.P k) [it] ml J=some ([w],J1):=by show (evalE cx.P (callN cx.P k) it ml J).bind _=_;rw[q1];rfl
 show wpM cx A (comprehension (.ListComp relt [⟨.Name (cx.N x) p,riter,[],0⟩,⟨te2,riter2,rifs2,0⟩] scope pos) scope env _ (newList []) false (PySem.eval riter env) none) _ s
 refine wF B hh (zgF h1) .name (fun z=>by cases z) hs C1 (fun y hy=>by rw[List.mem_singleton.mp hy];exact .head _) (tst:=fun _ J=>some (true,J)) (fun L ml J t J' O s E S q=>?_) (pre:=fun m=>∀ y∈tgt,m y=.none) (fun v m' hb y hy=>?_)
  (step:=stepTwo cx.P (callN cx.P k) elt it2 isTup tgt ifs) (emit:=fun D ce=>emitTwo riter2 (.ListComp relt [⟨.Name (cx.N x) p,riter,[],0⟩,⟨te2,riter2,rifs2,0⟩] scope pos) (.ref D) ce) (fun D L=>zkC B hh (h2 L) T (hs2 L) (fun y hy=>C.loc y (.tail _ hy)) (hi L) (he L)) (fun I D L=>zfP ..) E S el q2 q3 hlen ?_
 ·exact pG q (wpAny_tests_nil (.mk (tk:=s.toks) S (Ext.refl ..)))
 ·refine sG (P:=fun m'=>m' y=.none) hb ((if_neg (fun (e:y=x)=>hx (e ▸ hy))).trans ?_)
  exact if_pos (List.contains_iff_mem.mpr (.tail _ hy))
 ·intro O' h' tk D L m S' x' r' hm hL nL h'' hs''
  obtain⟨S'',x''⟩:=jL S' hm nL (Nat.le_trans S.size hL) hs''
  exact⟨O',h'',tk,rfl,S'',Ext.narrow ((x'.weaken fun _ z=>z.elim).trans x'') fun b hb=>.inr (hb ▸ Heap.get?_none_of_le hL),r'.mono x'' (fun b hb=>hb ▸ yr hm)⟩
end
noncomputable def isComp (e:Expr):Bool:=Nat.ble 8 e.ctorIdx && Nat.ble e.ctorIdx 10
noncomputable def isStar (e:Expr):Bool:=Nat.beq e.ctorIdx 22
theorem yL(h:isComp value=false)(t:Option Expr)(l:Nat)(env:Env):swapsWith value t l env=pure false:=by
 cases value <;> first | rfl | (cases h)
section
variable {cx:Cx}{k:Nat}{A:Around}{env:Env}{O:Rho}{J:Hp}{s:Shared}{ml:Loc}
theorem zJ.of{v:MV}{r:Option MV}{fl:Flow}(E:zL cx env O s.heap ml)(p:EPost cx O s J' v val s')(f:∀ O' h',zp O' h' v val->zaY O' h' r fl):zJ cx env O s J' ml r fl s':=by
 obtain⟨O',h',tk,rfl,S',x,rv⟩:=p
 exact⟨O',h',tk,rfl,S',x.weaken fun _ z=>z.elim,E.ext x,f _ _ rv⟩
theorem zJ.after{r:Option MV}{fl:Flow}(x:Ext O s.heap (Wenv env) O1 hO)(p:zJ cx env O1 { s with heap:=hO,toks:=tk1 } J' ml' r fl s'):zJ cx env O s J' ml' r fl s':=by
 obtain⟨O',h',tk,e,S',x',E',f⟩:=p
 exact⟨O',h',tk,e,S',x.trans x',E',f⟩
theorem zf8 (h:env.scope.kind=.function):interactive env=false:=by unfold interactive;rw[h];rfl
theorem zfM {e:ME}(he:SndE cx k A env e (PySem.eval re env))(hc:isComp re=false):SndX cx k A env (.expr e) (PySem.exec (.Expr re pos) env):=fun ml J r ml' J' O s E S q=>by
 exact bG2 q fun v J1 q1 q=>tG (P:=fun r ml' J'=>wpM cx A _ (zJ cx env O s J' ml' r) s) q (wpAny_Expr_any (wpAny_mono (he ml J v J1 O s E S q1) (fun val s' p=>zJ.of E p fun _ _ _=>rfl) fun _ _ z=>z) (zf8 E.kind) (yL hc ..))
theorem zhU {e:ME}(he:SndE cx k A env e (PySem.eval re env)):SndX cx k A env (.ret e) (PySem.exec (.Return (some re) pos) env):=fun ml J r ml' J' O s E S q=>by
 exact bG2 q fun v J1 q1 q=>tG (P:=fun r ml' J'=>wpM cx A _ (zJ cx env O s J' ml' r) s) q (wpAny_Return_some (wpAny_mono (he ml J v J1 O s E S q1) (fun val s' p=>zJ.of E p fun _ _ rv=>⟨val,rfl,rv⟩) fun _ _ z=>z))
theorem zbv:SndX cx k A env .retNone (PySem.exec (.Return none pos) env):=fun ml J r ml' J' O s E S q=>by
 exact tG (P:=fun r ml' J'=>wpM cx A _ (zJ cx env O s J' ml' r) s) q (wpAny_Return_none (zJ.of E (EPost.same S .none) fun _ _ rv=>⟨.none,rfl,rv⟩))
theorem zda {t:Sem Flow}:SndX cx k A env .raise t:=fun ml J r ml' J' O s E S q=>by
 exact nn q
theorem zfk:SndS cx k A env [] (PySem.execs [] env):=fun ml J r ml' J' O s E S q=>by
 exact tG (P:=fun r ml' J'=>wpM cx A _ (zJ cx env O s J' ml' r) s) q (wpAny_execs_nil (zJ.of E (EPost.same S .none) fun _ _ rv=>rfl))
theorem zeg {b:MS}{st:Stmt}(h1:SndX cx k A env b (PySem.exec st env))(h2:SndS cx k A env bs (PySem.execs rest env)):SndS cx k A env (b :: bs) (PySem.execs (st :: rest) env):=fun ml J r ml' J' O s E S q=>by
 refine bG3 q fun r1 m1 J1 q1 q2=>wpAny_execs_cons (wpS (h1 ml J r1 m1 J1 O s E S q1) fun fl O' h' tk S' x E' f=>?_)
 clear q
 revert q2
 exact f.go (fun q2=>wpAny_mono (h2 m1 J1 r ml' J' O' { s with heap:=h',toks:=tk } E' S' q2) (fun fl s' p=>p.after x) fun _ _ z=>z)
  fun v val rv q2=>tG (P:=fun r ml' J'=>zJ cx env O s J' ml' r _ _) q2 ⟨O',h',tk,rfl,S',x,E',val,rfl,rv⟩
theorem zkG {c:ME}{a b:List MS}{ra:List Stmt}(hc:SndT cx k A env c rc)(ha:SndS cx k A env a (PySem.execs ra env))(hb:SndS cx k A env b (PySem.execs rb env)):SndX cx k A env (.ifs c a b) (PySem.exec (.If rc ra rb pos) env):=fun ml J r ml' J' O s E S q=>by
 refine bG2 q fun v J1 q1 q=>bG q fun t q2 q3=>wpAny_If (wpT (hc ml J v t J1 O s E S q1 q2) fun O' h' tk S' x _=>?_)
 have E':=E.ext x
 have W:∀ {fl s'},zJ cx env O' { s with heap:=h',toks:=tk } J' ml' r fl s'->zJ cx env O s J' ml' r fl s':=fun p=>p.after (x.weaken fun _ z=>z.elim)
 cases t with
 | true=>exact wpAny_mono (ha ml J1 r ml' J' O' { s with heap:=h',toks:=tk } E' S' q3) (fun fl s' p=>W p) fun _ _ z=>z
 | false=>exact wpAny_mono (hb ml J1 r ml' J' O' { s with heap:=h',toks:=tk } E' S' q3) (fun fl s' p=>W p) fun _ _ z=>z
inductive zml (cx:Cx)(k:Nat)(env:Env)(O:Rho)(s:Shared)(c:ME)(b:List MS)(r:Option MV)(ml':Loc)(J':Hp)(n:Nat):Shared->Prop
 | mk {m:Loc} {J:Hp} {O':Rho} {h':Heap} {tk:Tok} (q:whileL (evalE cx.P (callN cx.P k) c) (Mine.execs cx.P (callN cx.P k) b) n m J=some (r,ml',J')) (E:zL cx env O' h' m) (S:Sim cx O' J h') (x:Ext O s.heap (Wenv env) O' h'):zml cx k env O s c b r ml' J' n { s with heap:=h',toks:=tk }
theorem zdl {c:ME}{b:List MS}(hc:SndT cx k A env c rc)(hb:SndS cx k A env b (PySem.execs rb env)):SndX cx k A env (.whiles c b) (PySem.exec (.While rc rb [] pos) env):=fun ml J r ml' J' O s E S q=>by
 refine wpAny_While (codeAny_whileLoop (zml cx k env O s c b r ml' J') ?_ turns (.mk (tk:=s.toks) q E S (Ext.refl ..)))
 clear q E S
 refine fun n s' inv=>inv.casesOn fun {m J O' h' tk} q E' S' x=>?_
 clear inv
 cases n with
 | zero=>exact nn q
 | succ n=>
  refine bG2 q fun v J1 q1 q=>bG q fun t q2 q3=>wpT (hc m J v t J1 O' { s with heap:=h',toks:=tk } E' S' q1 q2) fun O1 hO tk1 Sa xa _=>?_
  have E1:=E'.ext xa
  have x1':=x.trans (xa.weaken (W':=Wenv env) fun _ z=>z.elim)
  clear q q1 q2 x xa S' E'
  cases t with
  | true=>
   refine bG3 q3 fun r' m' Ja q3 q4=>wpS (hb m J1 r' m' Ja O1 { s with heap:=hO,toks:=tk1 } E1 Sa q3) fun fl O2 hS tk2 Sb xc E2 fc=>?_
   clear q3
   revert q4
   exact fc.go (fun q4=>⟨n,Nat.lt_succ_self _,.mk q4 E2 Sb (x1'.trans xc)⟩) fun w val rv q4=>tG (P:=fun r ml' J'=>zJ cx env O s J' ml' r _ _) q4 ⟨O2,hS,tk2,rfl,Sb,x1'.trans xc,E2,val,rfl,rv⟩
  | false=>exact tG (P:=fun r ml' J'=>wpAny _ _ _ (zJ cx env O s J' ml' r) _ _) q3 (wpAny_execs_nil ⟨O1,hO,tk1,rfl,Sa,x1',E1,rfl⟩)
noncomputable def SndG (cx:Cx) (k:Nat) (A:Around) (env:Env) (t:MT) (te:Expr):Prop:=
 ∀ ml J ml' J' O s v val,zL cx env O s.heap ml->Sim cx O J s.heap->zp O s.heap v val->store cx.P (callN cx.P k) t v ml J=some (ml',J')->wpM cx A (assign te env val) (fun _ s'=>zJ cx env O s J' ml' .none .next s') s
theorem wg.fin(p:wg cx env O s (Wenv env) J ml' s'):zJ cx env O s J ml' .none .next s':=by
 exact p.casesOn fun {h' tk} S' x E'=>⟨O,h',tk,rfl,S',x,E',rfl⟩
theorem zdv (B:Base cx)(CO:CellsOk env){x:Nat}(hk:bindable env (cx.N x)):SndG cx k A env (.v x) (.Name (cx.N x) pos):=fun ml J ml' J' O s v val E S r q=>by
 refine pG q ?_
 rw[arm_assign_Name]
 exact wpAny_bind (wpAny_standAt (wpAny_mono (zaU B CO E S r hk) (fun _ s' p=>p.fin) fun _ _ z=>z))
theorem zfS (B:Base cx)(CO:CellsOk env)(hh:A.handled=none){kk:Nat}(hn:Names cx.N xs elts)(hk:∀ x∈xs,bindable env (cx.N x)):SndG cx k A env (.tup xs) (.Tuple elts kk pos):=fun ml J ml' J' O s v val E S r q=>by
 exact rT q r fun vs a vals it nr rr q=>bG q fun m' q1 q=>pG q (wpAny_mono (yG hh (jo B CO hk) (.tup hn) E S (.tup it nr rr) (v:=.tup vs) (ml':=m') q1) (fun _ s' p=>p.fin) fun _ _ z=>z)
theorem zdb (B:Base cx)(C:Cls cx){e:ME}{x:Nat}(he:SndE cx k A env e (PySem.eval re env)):SndG cx k A env (.a e x) (.Attribute re (cx.N x) pos):=fun ml J ml' J' O s v val E S r q=>by
 refine bG2 q fun w J1 q1 q=>bG q fun Ja q2 q=>pG q ?_
 clear q
 rw[assign_Attribute]
 refine wpAny_bind (wpAny_holding (wpE (he ml J w J1 O s E S q1) fun ov O1 hO tk1 Sa xa rg=>?_))
 refine wpAny_bind (wpAny_standAt (wpAny_bind (wpAny_holding ?_)))
 refine zf2 (i:=0) B C (s:={ s with heap:=hO,toks:=tk1 }) Sa rg (xa.yR r) q2 fun hS tk2 Sb xc=>?_
 exact wpAny_release (zJ.of E (EPost.here Sb (xa.trans xc) .none) fun _ _ _=>rfl)
theorem zfc {a i:ME}(ha:SndE cx k A env a (PySem.eval ra env))(hi:SndE cx k A env i (PySem.eval ri env)):SndG cx k A env (.sub a i) (.Subscript ra ri pos):=fun ml J ml' J' O s v val E S r q=>by
 refine bG2 q fun w J1 q1 q=>bG2 q fun u Ja q2 q=>bG q fun Jb q3 q=>pG q ?_
 clear q
 rw[assign_Subscript]
 refine wpAny_bind (wpAny_holding (wpE (ha ml J w J1 O s E S q1) fun ov O1 hO tk1 Sa xa rg=>?_))
 refine wpAny_bind (wpAny_holding (wpE (hi ml J1 u Ja O1 { s with heap:=hO,toks:=tk1 } (E.ext xa) Sa q2) fun iv O2 hS tk2 Sb xc rh=>?_))
 refine wpAny_bind (wpAny_standAt (wpAny_bind (wpAny_holding ?_)))
 refine wpAny_mono (zhT (s:={ s with heap:=hS,toks:=tk2 }) Sb (xc.yR rg) rh ((xa.trans xc).yR r) q3) (fun _ s' p=>?_) fun _ _ z=>z
 exact wpAny_release (zJ.of E (p.after (xa.trans xc)) fun _ _ _=>rfl)
theorem zcG {a lo hi:ME}{l u:Option Expr}(ha:SndE cx k A env a (PySem.eval ra env))(hl:SndE cx k A env lo (evalPart l env))(hu:SndE cx k A env hi (evalPart u env)):SndG cx k A env (.slice a lo hi) (.Subscript ra (.Slice l u none p) pos):=fun ml J ml' J' O s v val E S r q=>by
 refine bG2 q fun w J1 q1 q=>bG2 q fun u1 Ja q2 q=>bG2 q fun u2 Jb q3 q=>bG q fun Jd q4 q=>pG q ?_
 clear q
 rw[assign_Subscript]
 refine wpAny_bind (wpAny_holding (wpE (ha ml J w J1 O s E S q1) fun ov O1 hO tk1 Sa xa rg=>?_))
 refine wpAny_bind (wpAny_holding (wpAny_Slice (jU (s:={ s with heap:=hO,toks:=tk1 }) hl hu (E.ext xa) Sa q2 q3 fun y z O3 hU tk3 S3 xh r2 r3=>?_)))
 rw[evalPart_none]
 refine wpAny_pure ?_
 refine wpAny_bind (wpAny_standAt (wpAny_bind (wpAny_holding ?_)))
 have xp:Ext O3 hU W0 O3 (hU.push { cls:=.type "slice", data:=.fields #[y,z,.none] }):=Ext.push ..
 refine wpAny_mono (zj7 (s:={ s with heap:=hU.push { cls:=.type "slice", data:=.fields #[y,z,.none] },toks:=tk3 }) (S3.push _) (xp.yR (xh.yR rg)) (xp.yR r2) (xp.yR r3) (xp.yR ((xa.trans xh).yR r)) (Heap.IsSliceOf.new ..) q4) (fun _ s' p=>?_) fun _ _ z=>z
 exact wpAny_release (zJ.of E (p.after ((xa.trans xh).trans xp)) fun _ _ _=>rfl)
theorem yf {t:MT}{e:ME}(he:SndE cx k A env e (PySem.eval re env))(ht:SndG cx k A env t te)(hst:isStar te=false)(hs:swapsWith re (some te) pos.line env=pure false)(hw:swappedStores [te] re env=pure none):SndX cx k A env (.assign t e) (PySem.exec (.Assign [te] re pos) env):=fun ml J r ml' J' O s E S q=>by
 refine bG2 q fun v J1 q1 q=>bG2 q fun m' Ja q2 q=>tG (P:=fun r ml' J'=>wpM cx A _ (zJ cx env O s J' ml' r) s) q ?_
 have ea:(assignEach [te] env).map (·.2)=[assign te env]:=by cases te <;> first | rfl | (cases hst)
 refine wpAny_Assign_stores (wpE (he ml J v J1 O s E S q1) fun val O1 hO tk1 Sa xa rg=>?_) hs hw
 rw[ea]
 exact wpAny_mono (ht ml J1 m' Ja O1 { s with heap:=hO,toks:=tk1 } v val (E.ext xa) Sa rg q2) (fun _ s' p=>p.after (xa.weaken fun _ z=>z.elim)) fun _ _ z=>z
theorem zfZ {m:Loc}{x y:Nat}{v w:MV}(h:x≠y):upd (upd m x v) y w=upd (upd m y w) x v:=funext fun z=>by
 show (if z=y then some w else if z=x then some v else m z)=if z=x then some v else if z=y then some w else m z
 by_cases h1:z=y
 ·rw[if_pos h1,if_neg fun e=>h (e.symm.trans h1),if_pos h1]
 ·rw[if_neg h1,if_neg h1]
theorem zaI:∀ {xs:List Nat} {vs:List MV} {m:Loc} {y:Nat} {w:MV},y ∉ xs->bindV xs vs (upd m y w)=(bindV xs vs m).map fun m'=>upd m' y w
 | [],[],m,y,w,_=>rfl
 | [],_ :: _,_,_,_,_=>rfl
 | _ :: _,[],_,_,_,_=>rfl
 | x :: xs,v :: vs,m,y,w,h=>by
  show bindV xs vs (upd (upd m y w) x v)=(bindV xs vs (upd m x v)).map _
  rw[zfZ fun (z:y=x)=>h (by rw[z];exact .head _)]
  exact zaI fun z=>h (.tail _ z)
theorem jj:∀ {xs:List Nat} {vs:List MV} {m:Loc} {y:Nat} {w:MV},xs.length=vs.length->bindV (xs ++ [y]) (vs ++ [w]) m=(bindV xs vs m).map fun m'=>upd m' y w
 | [],[],m,y,w,_=>rfl
 | x :: xs,v :: vs,m,y,w,h=>jj (m:=upd m x v) (Nat.succ.inj h)
theorem xg:∀ {xs:List Nat} {vs:List MV} {m:Loc},xs.Nodup->xs.length=vs.length->bindV xs.reverse vs.reverse m=bindV xs vs m
 | [],[],m,_,_=>rfl
 | x :: xs,v :: vs,m,nd,h=>by
  have nd:=List.nodup_cons.mp nd
  rw[List.reverse_cons,List.reverse_cons,jj (by rw[List.length_reverse,List.length_reverse];exact Nat.succ.inj h),xg nd.2 (Nat.succ.inj h)]
  exact (zaI nd.1).symm
theorem xQ (B:Base cx)(hk:∀ x∈xs0,env.kindOf (cx.N x)=some .local):∀ {xs:List Nat},(∀ x∈xs,x∈xs0)->∀ {vs:List MV} {vals:List Value} {ml ml':Loc} {s:Shared},zL cx env O s.heap ml->Sim cx O J s.heap->zc O s.heap vs vals->
  bindV xs vs ml=some ml'->wpM cx A (assignInOrder (xs.map fun x=>bindName env (cx.N x)) vals) (fun _ s'=>wg cx env O s (Wloc env) J ml' s') s
 | []=>fun _ vs vals ml ml' s E S r q=>by
  revert r
  exact aNG q fun q r=>wNil r (sG q (wpAny_pure (.mk (tk:=s.toks) S (Ext.refl ..) E)))
 | x :: xs=>fun hx vs vals ml ml' s E S r q=>by
  revert r
  refine aCG q fun v vs q r=>wCons r fun val vals rv r=>?_
  show wpM cx A (do holding vals (bindName env (cx.N x) val);assignInOrder (xs.map fun x=>bindName env (cx.N x)) vals) _ s
  exact wpAny_bind (wpAny_holding (wpB (yD B E S rv (hk x (hx x (.head _)))) fun hO tk1 Sa xa E1=>
   wpB (xQ B hk (fun y hy=>hx y (.tail _ hy)) (s:={ s with heap:=hO,toks:=tk1 }) E1 Sa (r.mono xa fun b hb=>E.wok b (.inl hb)) q) fun hS tk2 Sb xc E2=>.mk Sb (xa.trans xc) E2))
theorem w7 (B:Base cx)(hh:A.handled=none){e:ME}(he:SndE cx k A env e (PySem.eval re env))(hk:∀ x∈xs,env.kindOf (cx.N x)=some .local)(nd:xs.Nodup)(hs:swapsWith re (some te) pos.line env=pure false)(hw:swappedStores [te] re env=pure (some (xs.map cx.N))):
  SndX cx k A env (.assign (.tup xs) e) (PySem.exec (.Assign [te] re pos) env):=fun ml J r ml' J' O s E S q=>by
 refine bG2 q fun v J1 q1 q=>bG2 q fun ma Ja q2 q=>tG (P:=fun r ml' J'=>wpM cx A _ (zJ cx env O s J' ml' r) s) q ?_
 clear q
 rw[exec_Assign_arm]
 refine wpAny_bind (wpAny_standAt ?_)
 rw[show swapsWithSole [te] re pos.line env=pure false from hs]
 refine wpAny_bind (wpAny_pure ?_)
 rw[if_neg (by decide)]
 refine wpAny_bind (wpE (he ml J _ J1 O s E S q1) fun val O1 hO tk1 Sa xa rg=>?_)
 rw[hw]
 refine wpAny_bind (wpAny_pure ?_)
 refine eTG (P:=fun v=>zp O1 hO v val->_) q2 (fun vs q2 rg=>?_) rg
 refine vTu rg fun a vals it nr rr=>bG q2 fun m' q2 q3=>pG q3 ?_
 clear q3
 have hlen:=wQ q2
 show wpM cx A (do rule "assign.swapped-stores"; let items <- unpackItems (.ref a) (xs.map cx.N).length none;assignInOrder ((xs.map cx.N).reverse.map fun n=>bindName env n) items.reverse;(pure Flow.next:Sem Flow)) _ _
 refine wpAny_bind (wpAny_rule (wpAny_bind ?_))
 rw[show (xs.map cx.N).length=vals.toArray.size by rw[List.length_map,hlen,rr.length];simp]
 refine zy (Nat.le_refl _) (wpAny_unpackItems_tuple hh it fun h' kk hz=>?_)
 obtain⟨Sb,xc⟩:=zZ (h':=h') Sa (fun b o e=>kk b o (Nat.ne_of_lt (Heap.lt_size e)) e) hz
 rw[show ((xs.map cx.N).reverse.map fun n=>bindName env n)=(xs.reverse.map fun x=>bindName env (cx.N x)) by rw[<- List.map_reverse,List.map_map];rfl]
 exact wpAny_bind (wpB (xQ B hk (xs:=xs.reverse) (fun x hx=>List.mem_reverse.mp hx) (s:={ s with heap:=h',toks:=tk1 }) ((E.ext xa).ext xc) Sb (xc.qi rr).reverse (by rw[xg nd hlen];exact q2)) fun hU tk3 S3 xh E3=>
  wpAny_pure ⟨O1,hU,tk3,rfl,S3,((xa.trans xc).weaken fun _ z=>z.elim).trans (xh.weaken fun b hb=>.inl hb),E3,rfl⟩)
theorem wX {c:ME}{x:Nat}{tpos:Pos}(hs:swapsWith re (some (.Name (cx.N x) tpos)) pos.line env=pure true)
  (hu:∀ {ml J v J' O} {s:Shared},zL cx env O s.heap ml->Sim cx O J s.heap->evalE cx.P (callN cx.P k) c ml J=some (v,J')->wpM cx A (evalThenUse re env (assign (.Name (cx.N x) tpos) env)) (fun _ s'=>zJ cx env O s J' (upd ml x v) .none .next s') s):
  SndX cx k A env (.assign (.v x) c) (PySem.exec (.Assign [.Name (cx.N x) tpos] re pos) env):=fun ml J r ml' J' O s E S q=>by
 refine bG2 q fun v J1 q1 q=>bG2 q fun m' Ja q2 q=>tG (P:=fun r ml' J'=>wpM cx A _ (zJ cx env O s J' ml' r) s) q (pG (P:=fun ml' J'=>wpM cx A _ (zJ cx env O s J' ml' .none) s) q2 ?_)
 rw[exec_Assign_Name_used _ _ _ _ hs]
 exact wpAny_bind (wpAny_standAt (wpAny_bind (wpAny_mono (hu E S q1) (fun _ s' p=>wpAny_pure p) fun _ _ z=>z)))
end
noncomputable def onName (re:Expr) (f:Str->Bool):Bool:=@Expr.casesOn (fun _=>Bool) re F3 F3 F4 F3 F4 F4 F3 F3 F4 F4 F5 F4 F2 F2 F2 F4 F4 F4 F2 F3 F3 F3 F2 (fun x0 x1=>f x0) F2 F3 F4
@[elab_as_elim] theorem onName_go {f:Str->Bool} (h:onName re f=true) (k:∀ x0 x1,f x0=true->P (.Name x0 x1)):P re:=@Expr.casesOn (fun re=>onName re f=true->P re) re G3 G3 G4 G3 G4 G4 G3 G3 G4 G4 G5 G4 G2 G2 G2 G4 G4 G4 G2 G3 G3 G3 G2 k G2 G3 G4 h
noncomputable def onBool (re:Expr) (f:BoolOp->(List Expr)->Bool):Bool:=@Expr.casesOn (fun _=>Bool) re (fun x0 x1 x2=>f x0 x1) F3 F4 F3 F4 F4 F3 F3 F4 F4 F5 F4 F2 F2 F2 F4 F4 F4 F2 F3 F3 F3 F2 F2 F2 F3 F4
@[elab_as_elim] theorem onBool_go {f:BoolOp->(List Expr)->Bool} (h:onBool re f=true) (k:∀ x0 x1 x2,f x0 x1=true->P (.BoolOp x0 x1 x2)):P re:=@Expr.casesOn (fun re=>onBool re f=true->P re) re k G3 G4 G3 G4 G4 G3 G3 G4 G4 G5 G4 G2 G2 G2 G4 G4 G4 G2 G3 G3 G3 G2 G2 G2 G3 G4 h
noncomputable def onUn (re:Expr) (f:UnaryOp->Expr->Bool):Bool:=@Expr.casesOn (fun _=>Bool) re F3 F3 F4 (fun x0 x1 x2=>f x0 x1) F4 F4 F3 F3 F4 F4 F5 F4 F2 F2 F2 F4 F4 F4 F2 F3 F3 F3 F2 F2 F2 F3 F4
@[elab_as_elim] theorem onUn_go {f:UnaryOp->Expr->Bool} (h:onUn re f=true) (k:∀ x0 x1 x2,f x0 x1=true->P (.UnaryOp x0 x1 x2)):P re:=@Expr.casesOn (fun re=>onUn re f=true->P re) re G3 G3 G4 k G4 G4 G3 G3 G4 G4 G5 G4 G2 G2 G2 G4 G4 G4 G2 G3 G3 G3 G2 G2 G2 G3 G4 h
noncomputable def onBin (re:Expr) (f:Expr->Operator->Expr->Bool):Bool:=@Expr.casesOn (fun _=>Bool) re F3 F3 (fun x0 x1 x2 x3=>f x0 x1 x2) F3 F4 F4 F3 F3 F4 F4 F5 F4 F2 F2 F2 F4 F4 F4 F2 F3 F3 F3 F2 F2 F2 F3 F4
@[elab_as_elim] theorem onBin_go {f:Expr->Operator->Expr->Bool} (h:onBin re f=true) (k:∀ x0 x1 x2 x3,f x0 x1 x2=true->P (.BinOp x0 x1 x2 x3)):P re:=@Expr.casesOn (fun re=>onBin re f=true->P re) re G3 G3 k G3 G4 G4 G3 G3 G4 G4 G5 G4 G2 G2 G2 G4 G4 G4 G2 G3 G3 G3 G2 G2 G2 G3 G4 h
noncomputable def onCmp (re:Expr) (f:Expr->(List CmpOp)->(List Expr)->Bool):Bool:=@Expr.casesOn (fun _=>Bool) re F3 F3 F4 F3 F4 F4 F3 F3 F4 F4 F5 F4 F2 F2 F2 (fun x0 x1 x2 x3=>f x0 x1 x2) F4 F4 F2 F3 F3 F3 F2 F2 F2 F3 F4
@[elab_as_elim] theorem onCmp_go {f:Expr->(List CmpOp)->(List Expr)->Bool} (h:onCmp re f=true) (k:∀ x0 x1 x2 x3,f x0 x1 x2=true->P (.Compare x0 x1 x2 x3)):P re:=@Expr.casesOn (fun re=>onCmp re f=true->P re) re G3 G3 G4 G3 G4 G4 G3 G3 G4 G4 G5 G4 G2 G2 G2 k G4 G4 G2 G3 G3 G3 G2 G2 G2 G3 G4 h
noncomputable def onIf (re:Expr) (f:Expr->Expr->Expr->Bool):Bool:=@Expr.casesOn (fun _=>Bool) re F3 F3 F4 F3 F4 (fun x0 x1 x2 x3=>f x0 x1 x2) F3 F3 F4 F4 F5 F4 F2 F2 F2 F4 F4 F4 F2 F3 F3 F3 F2 F2 F2 F3 F4
@[elab_as_elim] theorem onIf_go {f:Expr->Expr->Expr->Bool} (h:onIf re f=true) (k:∀ x0 x1 x2 x3,f x0 x1 x2=true->P (.IfExp x0 x1 x2 x3)):P re:=@Expr.casesOn (fun re=>onIf re f=true->P re) re G3 G3 G4 G3 G4 k G3 G3 G4 G4 G5 G4 G2 G2 G2 G4 G4 G4 G2 G3 G3 G3 G2 G2 G2 G3 G4 h
noncomputable def onList (re:Expr) (f:(List Expr)->Bool):Bool:=@Expr.casesOn (fun _=>Bool) re F3 F3 F4 F3 F4 F4 F3 F3 F4 F4 F5 F4 F2 F2 F2 F4 F4 F4 F2 F3 F3 F3 F2 F2 (fun x0 x1=>f x0) F3 F4
@[elab_as_elim] theorem onList_go {f:(List Expr)->Bool} (h:onList re f=true) (k:∀ x0 x1,f x0=true->P (.List x0 x1)):P re:=@Expr.casesOn (fun re=>onList re f=true->P re) re G3 G3 G4 G3 G4 G4 G3 G3 G4 G4 G5 G4 G2 G2 G2 G4 G4 G4 G2 G3 G3 G3 G2 G2 k G3 G4 h
noncomputable def onDict (re:Expr) (f:(List (Option Expr))->(List Expr)->Bool):Bool:=@Expr.casesOn (fun _=>Bool) re F3 F3 F4 F3 F4 F4 (fun x0 x1 x2=>f x0 x1) F3 F4 F4 F5 F4 F2 F2 F2 F4 F4 F4 F2 F3 F3 F3 F2 F2 F2 F3 F4
@[elab_as_elim] theorem onDict_go {f:(List (Option Expr))->(List Expr)->Bool} (h:onDict re f=true) (k:∀ x0 x1 x2,f x0 x1=true->P (.Dict x0 x1 x2)):P re:=@Expr.casesOn (fun re=>onDict re f=true->P re) re G3 G3 G4 G3 G4 G4 k G3 G4 G4 G5 G4 G2 G2 G2 G4 G4 G4 G2 G3 G3 G3 G2 G2 G2 G3 G4 h
noncomputable def onSub (re:Expr) (f:Expr->Expr->Bool):Bool:=@Expr.casesOn (fun _=>Bool) re F3 F3 F4 F3 F4 F4 F3 F3 F4 F4 F5 F4 F2 F2 F2 F4 F4 F4 F2 F3 F3 (fun x0 x1 x2=>f x0 x1) F2 F2 F2 F3 F4
@[elab_as_elim] theorem onSub_go {f:Expr->Expr->Bool} (h:onSub re f=true) (k:∀ x0 x1 x2,f x0 x1=true->P (.Subscript x0 x1 x2)):P re:=@Expr.casesOn (fun re=>onSub re f=true->P re) re G3 G3 G4 G3 G4 G4 G3 G3 G4 G4 G5 G4 G2 G2 G2 G4 G4 G4 G2 G3 G3 k G2 G2 G2 G3 G4 h
noncomputable def onSl (re:Expr) (f:(Option Expr)->(Option Expr)->(Option Expr)->Bool):Bool:=@Expr.casesOn (fun _=>Bool) re F3 F3 F4 F3 F4 F4 F3 F3 F4 F4 F5 F4 F2 F2 F2 F4 F4 F4 F2 F3 F3 F3 F2 F2 F2 F3 (fun x0 x1 x2 x3=>f x0 x1 x2)
@[elab_as_elim] theorem onSl_go {f:(Option Expr)->(Option Expr)->(Option Expr)->Bool} (h:onSl re f=true) (k:∀ x0 x1 x2 x3,f x0 x1 x2=true->P (.Slice x0 x1 x2 x3)):P re:=@Expr.casesOn (fun re=>onSl re f=true->P re) re G3 G3 G4 G3 G4 G4 G3 G3 G4 G4 G5 G4 G2 G2 G2 G4 G4 G4 G2 G3 G3 G3 G2 G2 G2 G3 k h
noncomputable def onTup (re:Expr) (f:(List Expr)->Nat->Bool):Bool:=@Expr.casesOn (fun _=>Bool) re F3 F3 F4 F3 F4 F4 F3 F3 F4 F4 F5 F4 F2 F2 F2 F4 F4 F4 F2 F3 F3 F3 F2 F2 F2 (fun x0 x1 x2=>f x0 x1) F4
@[elab_as_elim] theorem onTup_go {f:(List Expr)->Nat->Bool} (h:onTup re f=true) (k:∀ x0 x1 x2,f x0 x1=true->P (.Tuple x0 x1 x2)):P re:=@Expr.casesOn (fun re=>onTup re f=true->P re) re G3 G3 G4 G3 G4 G4 G3 G3 G4 G4 G5 G4 G2 G2 G2 G4 G4 G4 G2 G3 G3 G3 G2 G2 G2 k G4 h
noncomputable def onCall (re:Expr) (f:Expr->(List Expr)->(List Keyword)->Pos->Bool):Bool:=@Expr.casesOn (fun _=>Bool) re F3 F3 F4 F3 F4 F4 F3 F3 F4 F4 F5 F4 F2 F2 F2 F4 (fun x0 x1 x2 x3=>f x0 x1 x2 x3) F4 F2 F3 F3 F3 F2 F2 F2 F3 F4
@[elab_as_elim] theorem onCall_go {f:Expr->(List Expr)->(List Keyword)->Pos->Bool} (h:onCall re f=true) (k:∀ x0 x1 x2 x3,f x0 x1 x2 x3=true->P (.Call x0 x1 x2 x3)):P re:=@Expr.casesOn (fun re=>onCall re f=true->P re) re G3 G3 G4 G3 G4 G4 G3 G3 G4 G4 G5 G4 G2 G2 G2 G4 k G4 G2 G3 G3 G3 G2 G2 G2 G3 G4 h
noncomputable def onAttr (re:Expr) (f:Expr->Str->Pos->Bool):Bool:=@Expr.casesOn (fun _=>Bool) re F3 F3 F4 F3 F4 F4 F3 F3 F4 F4 F5 F4 F2 F2 F2 F4 F4 F4 F2 F3 (fun x0 x1 x2=>f x0 x1 x2) F3 F2 F2 F2 F3 F4
@[elab_as_elim] theorem onAttr_go {f:Expr->Str->Pos->Bool} (h:onAttr re f=true) (k:∀ x0 x1 x2,f x0 x1 x2=true->P (.Attribute x0 x1 x2)):P re:=@Expr.casesOn (fun re=>onAttr re f=true->P re) re G3 G3 G4 G3 G4 G4 G3 G3 G4 G4 G5 G4 G2 G2 G2 G4 G4 G4 G2 G3 k G3 G2 G2 G2 G3 G4 h
noncomputable def onCon (re:Expr) (f:Const->Nat->Bool):Bool:=@Expr.casesOn (fun _=>Bool) re F3 F3 F4 F3 F4 F4 F3 F3 F4 F4 F5 F4 F2 F2 F2 F4 F4 F4 F2 (fun x0 x1 x2=>f x0 x1) F3 F3 F2 F2 F2 F3 F4
@[elab_as_elim] theorem onCon_go {f:Const->Nat->Bool} (h:onCon re f=true) (k:∀ x0 x1 x2,f x0 x1=true->P (.Constant x0 x1 x2)):P re:=@Expr.casesOn (fun re=>onCon re f=true->P re) re G3 G3 G4 G3 G4 G4 G3 G3 G4 G4 G5 G4 G2 G2 G2 G4 G4 G4 G2 k G3 G3 G2 G2 G2 G3 G4 h
noncomputable def onLC (re:Expr) (f:Expr->(List Comprehension)->Scope->Bool):Bool:=@Expr.casesOn (fun _=>Bool) re F3 F3 F4 F3 F4 F4 F3 F3 (fun x0 x1 x2 x3=>f x0 x1 x2) F4 F5 F4 F2 F2 F2 F4 F4 F4 F2 F3 F3 F3 F2 F2 F2 F3 F4
@[elab_as_elim] theorem onLC_go {f:Expr->(List Comprehension)->Scope->Bool} (h:onLC re f=true) (k:∀ x0 x1 x2 x3,f x0 x1 x2=true->P (.ListComp x0 x1 x2 x3)):P re:=@Expr.casesOn (fun re=>onLC re f=true->P re) re G3 G3 G4 G3 G4 G4 G3 G3 k G4 G5 G4 G2 G2 G2 G4 G4 G4 G2 G3 G3 G3 G2 G2 G2 G3 G4 h
noncomputable def onE (re:Stmt) (f:Expr->Bool):Bool:=@Stmt.casesOn (fun _=>Bool) re (fun _ _ _ _ _ _ _ _ _ _=>false) (fun _ _ _ _ _ _ _ _ _ _=>false) (fun _ _ _ _ _ _ _ _ _ _ _=>false) F2 F2 F3 (fun _ _ _ _ _ _ _=>false) F4 F5 F5 F5 F4 F4 F3 F3 F3 F3 F5 F5 F3 F2 F4 F2 F2 (fun x0 x1=>f x0) F1 F1 F1
@[elab_as_elim] theorem onE_go {re:Stmt} {f:Expr->Bool} {P:Stmt->Prop} (h:onE re f=true) (k:∀ x0 x1,f x0=true->P (.Expr x0 x1)):P re:=@Stmt.casesOn (fun re=>onE re f=true->P re) re (fun _ _ _ _ _ _ _ _ _ _=>ff) (fun _ _ _ _ _ _ _ _ _ _=>ff) (fun _ _ _ _ _ _ _ _ _ _ _=>ff) G2 G2 G3 (fun _ _ _ _ _ _ _=>ff) G4 G5 G5 G5 G4 G4 G3 G3 G3 G3 G5 G5 G3 G2 G4 G2 G2 k G1 G1 G1 h
noncomputable def onRet (re:Stmt) (f:(Option Expr)->Bool):Bool:=@Stmt.casesOn (fun _=>Bool) re (fun _ _ _ _ _ _ _ _ _ _=>false) (fun _ _ _ _ _ _ _ _ _ _=>false) (fun _ _ _ _ _ _ _ _ _ _ _=>false) (fun x0 x1=>f x0) F2 F3 (fun _ _ _ _ _ _ _=>false) F4 F5 F5 F5 F4 F4 F3 F3 F3 F3 F5 F5 F3 F2 F4 F2 F2 F2 F1 F1 F1
@[elab_as_elim] theorem onRet_go {re:Stmt} {f:(Option Expr)->Bool} {P:Stmt->Prop} (h:onRet re f=true) (k:∀ x0 x1,f x0=true->P (.Return x0 x1)):P re:=@Stmt.casesOn (fun re=>onRet re f=true->P re) re (fun _ _ _ _ _ _ _ _ _ _=>ff) (fun _ _ _ _ _ _ _ _ _ _=>ff) (fun _ _ _ _ _ _ _ _ _ _ _=>ff) k G2 G3 (fun _ _ _ _ _ _ _=>ff) G4 G5 G5 G5 G4 G4 G3 G3 G3 G3 G5 G5 G3 G2 G4 G2 G2 G2 G1 G1 G1 h
noncomputable def onAsg (re:Stmt) (f:(List Expr)->Expr->Pos->Bool):Bool:=@Stmt.casesOn (fun _=>Bool) re (fun _ _ _ _ _ _ _ _ _ _=>false) (fun _ _ _ _ _ _ _ _ _ _=>false) (fun _ _ _ _ _ _ _ _ _ _ _=>false) F2 F2 (fun x0 x1 x2=>f x0 x1 x2) (fun _ _ _ _ _ _ _=>false) F4 F5 F5 F5 F4 F4 F3 F3 F3 F3 F5 F5 F3 F2 F4 F2 F2 F2 F1 F1 F1
@[elab_as_elim] theorem onAsg_go {re:Stmt} {f:(List Expr)->Expr->Pos->Bool} {P:Stmt->Prop} (h:onAsg re f=true) (k:∀ x0 x1 x2,f x0 x1 x2=true->P (.Assign x0 x1 x2)):P re:=@Stmt.casesOn (fun re=>onAsg re f=true->P re) re (fun _ _ _ _ _ _ _ _ _ _=>ff) (fun _ _ _ _ _ _ _ _ _ _=>ff) (fun _ _ _ _ _ _ _ _ _ _ _=>ff) G2 G2 k (fun _ _ _ _ _ _ _=>ff) G4 G5 G5 G5 G4 G4 G3 G3 G3 G3 G5 G5 G3 G2 G4 G2 G2 G2 G1 G1 G1 h
noncomputable def onIfS (re:Stmt) (f:Expr->(List Stmt)->(List Stmt)->Bool):Bool:=@Stmt.casesOn (fun _=>Bool) re (fun _ _ _ _ _ _ _ _ _ _=>false) (fun _ _ _ _ _ _ _ _ _ _=>false) (fun _ _ _ _ _ _ _ _ _ _ _=>false) F2 F2 F3 (fun _ _ _ _ _ _ _=>false) F4 F5 F5 F5 F4 (fun x0 x1 x2 x3=>f x0 x1 x2) F3 F3 F3 F3 F5 F5 F3 F2 F4 F2 F2 F2 F1 F1 F1
@[elab_as_elim] theorem onIfS_go {re:Stmt} {P:Stmt->Prop} (h:onIfS re f=true) (k:∀ x0 x1 x2 x3,f x0 x1 x2=true->P (.If x0 x1 x2 x3)):P re:=@Stmt.casesOn (fun re=>onIfS re f=true->P re) re (fun _ _ _ _ _ _ _ _ _ _=>ff) (fun _ _ _ _ _ _ _ _ _ _=>ff) (fun _ _ _ _ _ _ _ _ _ _ _=>ff) G2 G2 G3 (fun _ _ _ _ _ _ _=>ff) G4 G5 G5 G5 G4 k G3 G3 G3 G3 G5 G5 G3 G2 G4 G2 G2 G2 G1 G1 G1 h
noncomputable def onWh (re:Stmt) (f:Expr->(List Stmt)->(List Stmt)->Bool):Bool:=@Stmt.casesOn (fun _=>Bool) re (fun _ _ _ _ _ _ _ _ _ _=>false) (fun _ _ _ _ _ _ _ _ _ _=>false) (fun _ _ _ _ _ _ _ _ _ _ _=>false) F2 F2 F3 (fun _ _ _ _ _ _ _=>false) F4 F5 F5 F5 (fun x0 x1 x2 x3=>f x0 x1 x2) F4 F3 F3 F3 F3 F5 F5 F3 F2 F4 F2 F2 F2 F1 F1 F1
@[elab_as_elim] theorem onWh_go {re:Stmt} {P:Stmt->Prop} (h:onWh re f=true) (k:∀ x0 x1 x2 x3,f x0 x1 x2=true->P (.While x0 x1 x2 x3)):P re:=@Stmt.casesOn (fun re=>onWh re f=true->P re) re (fun _ _ _ _ _ _ _ _ _ _=>ff) (fun _ _ _ _ _ _ _ _ _ _=>ff) (fun _ _ _ _ _ _ _ _ _ _ _=>ff) G2 G2 G3 (fun _ _ _ _ _ _ _=>ff) G4 G5 G5 G5 k G4 G3 G3 G3 G3 G5 G5 G3 G2 G4 G2 G2 G2 G1 G1 G1 h
noncomputable def onFor (re:Stmt) (f:Expr->Expr->(List Stmt)->(List Stmt)->Bool):Bool:=@Stmt.casesOn (fun _=>Bool) re (fun _ _ _ _ _ _ _ _ _ _=>false) (fun _ _ _ _ _ _ _ _ _ _=>false) (fun _ _ _ _ _ _ _ _ _ _ _=>false) F2 F2 F3 (fun _ _ _ _ _ _ _=>false) F4 F5 (fun x0 x1 x2 x3 x4=>f x0 x1 x2 x3) F5 F4 F4 F3 F3 F3 F3 F5 F5 F3 F2 F4 F2 F2 F2 F1 F1 F1
@[elab_as_elim] theorem onFor_go {re:Stmt} {f:Expr->Expr->(List Stmt)->(List Stmt)->Bool} {P:Stmt->Prop} (h:onFor re f=true) (k:∀ x0 x1 x2 x3 x4,f x0 x1 x2 x3=true->P (.For x0 x1 x2 x3 x4)):P re:=@Stmt.casesOn (fun re=>onFor re f=true->P re) re (fun _ _ _ _ _ _ _ _ _ _=>ff) (fun _ _ _ _ _ _ _ _ _ _=>ff) (fun _ _ _ _ _ _ _ _ _ _ _=>ff) G2 G2 G3 (fun _ _ _ _ _ _ _=>ff) G4 G5 k G5 G4 G4 G3 G3 G3 G3 G5 G5 G3 G2 G4 G2 G2 G2 G1 G1 G1 h
noncomputable def onCBool (re:PySem.Const) (f:Bool->Bool):Bool:=@PySem.Const.casesOn (fun _=>Bool) re (false) (fun x0=>f x0) F1 F1 F2 F1 F1 (false)
@[elab_as_elim] theorem onCBool_go {re:PySem.Const} {f:Bool->Bool} {P:PySem.Const->Prop} (h:onCBool re f=true) (k:∀ x0,f x0=true->P (.bool x0)):P re:=@PySem.Const.casesOn (fun re=>onCBool re f=true->P re) re (ff) k G1 G1 G2 G1 G1 (ff) h
noncomputable def onCInt (re:PySem.Const) (f:Int->Bool):Bool:=@PySem.Const.casesOn (fun _=>Bool) re (false) F1 (fun x0=>f x0) F1 F2 F1 F1 (false)
@[elab_as_elim] theorem onCInt_go {re:PySem.Const} {f:Int->Bool} {P:PySem.Const->Prop} (h:onCInt re f=true) (k:∀ x0,f x0=true->P (.int x0)):P re:=@PySem.Const.casesOn (fun re=>onCInt re f=true->P re) re (ff) G1 k G1 G2 G1 G1 (ff) h
noncomputable def onCStr (re:PySem.Const) (f:Str->Bool):Bool:=@PySem.Const.casesOn (fun _=>Bool) re (false) F1 F1 F1 F2 (fun x0=>f x0) F1 (false)
@[elab_as_elim] theorem onCStr_go {re:PySem.Const} {f:Str->Bool} {P:PySem.Const->Prop} (h:onCStr re f=true) (k:∀ x0,f x0=true->P (.str x0)):P re:=@PySem.Const.casesOn (fun re=>onCStr re f=true->P re) re (ff) G1 G1 G1 G2 k G1 (ff) h
noncomputable def onNil {α:Type} (l:List α):Bool:=@List.casesOn α (fun _=>Bool) l true fun _ _=>false
@[elab_as_elim] theorem onNil_go {l:List α} {P:List α->Prop} (h:onNil l=true) (k:P []):P l:=@List.casesOn α (fun l=>onNil l=true->P l) l (fun _=>k) G2 h
noncomputable def onCons {α:Type} (l:List α) (f:α->List α->Bool):Bool:=@List.casesOn α (fun _=>Bool) l false f
@[elab_as_elim] theorem onCons_go {l:List α} {f:α->List α->Bool} {P:List α->Prop} (h:onCons l f=true) (k:∀ a r,f a r=true->P (a :: r)):P l:=@List.casesOn α (fun l=>onCons l f=true->P l) l ff k h
noncomputable def onOpt {α:Type} (l:Option α) (b:Bool) (f:α->Bool):Bool:=@Option.casesOn α (fun _=>Bool) l b f
@[elab_as_elim] theorem onOpt_go {l:Option α} {b:Bool} {f:α->Bool} {P:Option α->Prop} (h:onOpt l b f=true) (k:b=true->P .none) (k':∀ a,f a=true->P (some a)):P l:=@Option.casesOn α (fun l=>onOpt l b f=true->P l) l k k' h
theorem b2 {a b:Bool}{P:Prop}(h:(a && b)=true)(k:a=true->b=true->P):P:=k (Bool.and_eq_true_iff.mp h).1 (Bool.and_eq_true_iff.mp h).2
theorem de {p:Prop}[Decidable p](h:decide p=true):p:=of_decide_eq_true h
theorem nt {b:Bool}(h:(!b)=true):b=false:=by cases b <;> trivial
structure Tab where
 N:Nat->Str
 con:Str->MV->Bool
 fn:Str->Nat->Bool
 cl:Str->Nat->Bool
noncomputable abbrev Nms:=List (Str×NameKind)
noncomputable def isGlob (ns:Nms) (y:Str):Bool:=decide (ns.lookup y=some .globalImplicit)
noncomputable def bindB (ns:Nms) (y:Str):Bool:=decide (ns.lookup y=some .local) || decide (ns.lookup y=some .cell)
noncomputable def varKind (ns:Nms) (y:Str):Bool:=bindB ns y || decide (ns.lookup y=some .free)
noncomputable def notSet (e:Expr):Bool:=!(Nat.beq e.ctorIdx 7)
noncomputable def namesB (N:Nat->Str) (xs:List Nat):List Expr->Bool:=@List.rec Nat (fun _=>List Expr->Bool) (fun es=>onNil es) (fun x _ ih es=>onCons es fun e r=>onName e (fun y=>decide (y=N x)) && ih r) xs
noncomputable def tgtB (N:Nat->Str) (t:Bool) (xs:List Nat) (te:Expr):Bool:=@Bool.casesOn (fun _=>Bool) t (onCons xs fun x r=>onNil r && onName te fun y=>decide (y=N x)) (onTup te fun es _=>namesB N xs es)
noncomputable def isStr (m:MV) (f:List Nat->Bool):Bool:=@MV.casesOn (fun _=>Bool) m false F1 F1 f F1 F1
@[elab_as_elim] theorem isStr_go {f:List Nat->Bool} {P:MV->Prop} (h:isStr m f=true) (k:∀ x,f x=true->P (.str x)):P m:=@MV.casesOn (fun m=>isStr m f=true->P m) m ff G1 G1 k G1 G1 h
noncomputable def keysB (ks:List MV):List (Option Expr)->Bool:=@List.rec MV (fun _=>List (Option Expr)->Bool) (fun es=>onNil es) (fun m _ ih es=>onCons es fun e r=>onOpt e false (fun e=>isStr m fun x=>onCon e fun c _=>onCStr c fun y=>decide (y=toS x)) && ih r) ks
noncomputable def opsB (os:List COp):List CmpOp->Bool:=@List.rec COp (fun _=>List CmpOp->Bool) (fun es=>onNil es) (fun o _ ih es=>onCons es fun e r=>cmpOk o e && ih r) os
noncomputable def compNamesN (ns l:Nms):Nms:=l.map fun (n,k)=>if k == .free && decide (ns.lookup n=some .cell) then (n,.cell) else (n,k)
noncomputable def compOkB (N:Nat->Str) (ns:Nms) (scope:Scope) (all:List Nat):Bool:=
 decide (scope.kind=.function) && (scope.names.all (fun x=>match x.2 with
  | .free=>decide (ns.lookup x.1=some .cell)
  | .cell=>false
  | .local=>decide ((compNamesN ns scope.names).lookup x.1=some .local) && (decide (x.1 = ".0") || all.any fun t=>decide (x.1=N t))
  | _=>true) && all.all fun x=>decide ((compNamesN ns scope.names).lookup (N x)=some .local))
noncomputable def itLen:IK->Nat
 | .zip=>2
 | _=>1
noncomputable def itB (ns:Nms) (nm:Str) (re:Expr) (f:List Expr->Bool):Bool:=onCall re fun fn res kws _=>onNil kws && onName fn fun y=>decide (y=nm) && (isGlob ns y && f res)
noncomputable def itA (ns:Nms) (ik:IK) (re:Expr) (f:List Expr->Bool):Bool:=@IK.casesOn (fun _=>Bool) ik (f [re]) (itB ns "range" re f) (itB ns "enumerate" re f) (itB ns "zip" re f)
noncomputable def litB (v:MV) (c:PySem.Const):Bool:=@MV.casesOn (fun _=>Bool) v (decide (c=.none)) (fun b=>onCBool c fun a=>a == b) (fun i=>onCInt c fun j=>decide (j=i)) (fun x=>onCStr c fun y=>decide (y=toS x)) F1 F1
noncomputable def okLit (T:Tab) (ns:Nms) (v:MV) (re:Expr):Bool:=onCon re (fun c _=>litB v c) || onName re fun y=>isGlob ns y && T.con y v
noncomputable def testable (re:Expr):Bool:=!(Nat.beq re.ctorIdx 5)
noncomputable def usable (e:ME):Bool:=@ME.casesOn (fun _=>Bool) e F1 F1 F1 F1 F1 F1 F3 F3 F3 F1 F1 F2 (fun _ _ _ _ _ _=>true) (fun _ _ _ _ _ _ _=>false) F2 F2 F3 F1 F2 F2 F2 F3 F3
noncomputable def isLitNone (e:ME):Bool:=@ME.casesOn (fun _=>Bool) e (fun v=>@MV.casesOn (fun _=>Bool) v true F1 F1 F1 F1 F1) F1 F1 F1 F1 F1 F3 F3 F3 F1 F1 F2 (fun _ _ _ _ _ _=>false) (fun _ _ _ _ _ _ _=>false) F2 F2 F3 F1 F2 F2 F2 F3 F3
theorem zaC {e:ME}:isLitNone e=true->e=.l .none:=@ME.casesOn (fun e=>isLitNone e=true->e=.l .none) e (fun v=>@MV.casesOn (fun v=>isLitNone (.l v)=true->ME.l v=.l .none) v (fun _=>rfl) G1 G1 G1 G1 G1) G1 G1 G1 G1 G1 G3 G3 G3 G1 G1 G2 (fun _ _ _ _ _ _=>ff) (fun _ _ _ _ _ _ _=>ff) G2 G2 G3 G1 G2 G2 G2 G3 G3
noncomputable def isRev (re:Expr):Bool:=onSl re fun l u st=>(onOpt l true F1 && onOpt u true F1) && onOpt st false fun e=>onUn e fun op x=>decide (op=.USub) && onCon x fun c _=>onCInt c fun i=>decide (i=1)
noncomputable def genB (gens:List Comprehension) (f:Expr->Expr->List Expr->List Comprehension->Bool):Bool:=onCons gens fun g r=>decide (g.is_async=0) && f g.target g.iter g.ifs r
@[elab_as_elim] theorem genB_go {gens:List Comprehension} {f:Expr->Expr->List Expr->List Comprehension->Bool} {P:List Comprehension->Prop} (h:genB gens f=true) (k:∀ a b c r,f a b c r=true->P (⟨a,b,c,0⟩ :: r)):P gens:=
 onCons_go h fun g r h=>b2 h fun h1 h2=>by
  obtain⟨a,b,c,n⟩:=g
  cases (de h1:n=0)
  exact k _ _ _ _ h2
mutual
noncomputable def okE (T:Tab) (ns:Nms):ME->Expr->Bool
 | .l v,re=>okLit T ns v re
 | .v x,re=>onName re fun y=>decide (y=T.N x) && varKind ns y
 | .and es,re=>onBool re fun op res=>decide (op=.And) && okBo T ns es res
 | .or es,re=>onBool re fun op res=>decide (op=.Or) && okBo T ns es res
 | .not e,re=>onUn re fun op r=>decide (op=.Not) && (testable r && okE T ns e r)
 | .neg e,re=>onUn re fun op r=>decide (op=.USub) && okE T ns e r
 | .o o a b,re=>onBin re fun ra op rb=>binOk o op && (okE T ns a ra && okE T ns b rb)
 | .cmp a os es,re=>onCmp re fun ra ops res=>okE T ns a ra && (opsB os ops && okBo T ns es res)
 | .ite c a b,re=>onIf re fun rc ra rb=>testable rc && (okE T ns c rc && (okE T ns a ra && okE T ns b rb))
 | .list es,re=>onList re fun res=>decide (es.length<=1000) && okL T ns es res
 | .tup es,re=>onTup re fun res _=>decide (es.length<=1000) && okL T ns es res
 | .dict ks vs,re=>onDict re fun keys res=>keysB ks keys && (decide (ks.length=vs.length) && (decide (keys.length=res.length) && (decide (keys.length<=15) && okL T ns vs res)))
 | .comp elt isTup tgt ik its ifs,re=>onLC re fun relt gens scope=>genB gens fun te riter rifs r=>onNil r && itA ns ik riter fun l=>
   decide (its.length=itLen ik) && (okL T ns its l && (tgtB T.N isTup tgt te && ((!kindTup ik || isTup) && (notSet riter && (compOkB T.N ns scope tgt && (okBo T (compNamesN ns scope.names) ifs rifs && okE T (compNamesN ns scope.names) elt relt))))))
 | .comp2 elt x it isTup tgt it2 ifs,re=>onLC re fun relt gens scope=>genB gens fun te riter rifs r=>onNil rifs && genB r fun te2 riter2 rifs2 r2=>onNil r2 && onName te fun y=>
   decide (y=T.N x) && (okE T ns it riter && (tgtB T.N isTup tgt te2 && (notSet riter && (notSet riter2 && (compOkB T.N ns scope (x :: tgt) && (!tgt.elem x && (okE T (compNamesN ns scope.names) it2 riter2 && (okBo T (compNamesN ns scope.names) ifs rifs2 && okE T (compNamesN ns scope.names) elt relt))))))))
 | .a e x,re=>onAttr re fun ra y _=>decide (y=T.N x) && (baseFree ra && okE T ns e ra)
 | .sub a i,re=>onSub re fun ra ri=>plainIdx ri && (okE T ns a ra && okE T ns i ri)
 | .slice a lo hi,re=>onSub re fun ra ri=>okE T ns a ra && onSl ri fun l u st=>onOpt st true F1 && (onOpt l (isLitNone lo) (fun r=>okE T ns lo r) && onOpt u (isLitNone hi) (fun r=>okE T ns hi r))
 | .rev a,re=>onSub re fun ra ri=>isRev ri && okE T ns a ra
 | .f f args,re=>onCall re fun fn res kws _=>onNil kws && onName fn fun y=>T.fn y f && (isGlob ns y && okL T ns args res)
 | .c c args,re=>onCall re fun fn res kws _=>onNil kws && onName fn fun y=>T.cl y c && (isGlob ns y && okL T ns args res)
 | .b b args,re=>onCall re fun fn res kws _=>onNil kws && onName fn fun y=>decide (y=biName b) && (isGlob ns y && okL T ns args res)
 | .m e x args,re=>onCall re fun fn res kws pos=>onNil kws && onAttr fn fun ra y apos=>decide (y=T.N x) && (baseFree ra && (decide (res.length < 30) && ((apos.endLine == pos.line) && (okE T ns e ra && okL T ns args res))))
 | .n e m args,re=>onCall re fun fn res kws pos=>onNil kws && onAttr fn fun ra y apos=>decide (y=mbName m) && (baseFree ra && (decide (res.length < 30) && ((apos.endLine == pos.line) && (okE T ns e ra && okL T ns args res))))
noncomputable def okL (T:Tab) (ns:Nms):List ME->List Expr->Bool
 | [],res=>onNil res
 | e :: es,res=>onCons res fun re res=>!isStar re && (okE T ns e re && okL T ns es res)
noncomputable def okBo (T:Tab) (ns:Nms):List ME->List Expr->Bool
 | [],res=>onNil res
 | e :: es,res=>onCons res fun re res=>testable re && (notSet re && (okE T ns e re && okBo T ns es res))
end
noncomputable def dummy (ns:Nms):Env:={ scope:={ kind:=.function,names:=ns,isGenerator:=false,isCoroutine:=false },locals:=0,globals:=0,cells:=[] }
noncomputable def valOf {α:Type} (t:Sem α):Option α:=pureOf t
noncomputable def okG (T:Tab) (ns:Nms) (t:MT) (e:ME) (te re:Expr) (line:Nat):Bool:=@MT.casesOn (fun _=>Bool) t
 (fun x=>onName te fun y=>decide (y=T.N x) && onOpt (valOf (swapsWith re (some te) line (dummy ns))) false fun b=>@Bool.casesOn (fun _=>Bool) b (bindB ns y) (usable e && decide (ns.lookup y=some .local)))
 (fun xs=>onTup te fun elts _=>!isComp re && onOpt (valOf (swappedStores [te] re (dummy ns))) false fun o=>onOpt o (namesB T.N xs elts && xs.all fun x=>bindB ns (T.N x)) fun l=>decide (l=xs.map T.N) && ((xs.all fun x=>decide (ns.lookup (T.N x)=some .local)) && decide xs.Nodup))
 (fun e x=>onAttr te fun ra y _=>decide (y=T.N x) && okE T ns e ra)
 (fun a i=>onSub te fun ra ri=>plainIdx ri && (okE T ns a ra && okE T ns i ri))
 (fun a lo hi=>onSub te fun ra ri=>okE T ns a ra && onSl ri fun l u st=>onOpt st true F1 && (onOpt l (isLitNone lo) (fun r=>okE T ns lo r) && onOpt u (isLitNone hi) (fun r=>okE T ns hi r)))
mutual
noncomputable def okX (T:Tab) (ns:Nms):MS->Stmt->Bool
 | .expr e,st=>onE st fun re=>!isComp re && okE T ns e re
 | .ret e,st=>onRet st fun o=>onOpt o false fun re=>okE T ns e re
 | .retNone,st=>onRet st fun o=>onOpt o true fun _=>false
 | .assign t e,st=>onAsg st fun ts re pos=>onCons ts fun te r=>onNil r && (okE T ns e re && okG T ns t e te re pos.line)
 | .ifs c a b,st=>onIfS st fun rc ra rb=>testable rc && (okE T ns c rc && (okS T ns a ra && okS T ns b rb))
 | .whiles c b,st=>onWh st fun rc rb re=>onNil re && (testable rc && (okE T ns c rc && okS T ns b rb))
 | .fors isTup tgt ik its b,st=>onFor st fun te re body els=>onNil els && itA ns ik re fun l=>
   decide (its.length=itLen ik) && (okL T ns its l && (tgtB T.N isTup tgt te && ((!kindTup ik || isTup) && (notSet re && ((tgt.all fun x=>bindB ns (T.N x)) && okS T ns b body)))))
 | .raise,_=>true
noncomputable def okS (T:Tab) (ns:Nms):List MS->List Stmt->Bool
 | [],sts=>onNil sts
 | b :: bs,sts=>onCons sts fun st sts=>okX T ns b st && okS T ns bs sts
end
structure TabOk (cx:Cx)(T:Tab):Prop where
 N:T.N=cx.N
 con:∀ x m,T.con x m=true->(x == ("__debug__" : Str))=false/\∃ v,nsIn cx.K mainGlobals x=some (some v)/\constOk m v=true
 fn:∀ x f,T.fn x f=true->(x == ("__debug__" : Str))=false/\nsIn cx.K mainGlobals x=some (some (.ref (cx.fa f)))/\keepIn cx.K (.ref (cx.fa f))=true
 cl:∀ x c,T.cl x c=true->(x == ("__debug__" : Str))=false/\nsIn cx.K mainGlobals x=some (some (.ref (cx.ca c)))/\keepIn cx.K (.ref (cx.ca c))=true/\∃ f,cx.P.init c=some f/\Made cx c f
 bi:∀ b,nsIn cx.K mainGlobals (biName b)=some none/\bootBuiltins (biName b)=some (bval b)
 range:nsIn cx.K mainGlobals "range" = some none/\bootBuiltins "range" = some (.type "range")
 enum:nsIn cx.K mainGlobals "enumerate" = some none/\bootBuiltins "enumerate" = some (.type "enumerate")
 zip:nsIn cx.K mainGlobals "zip" = some none/\bootBuiltins "zip" = some (.type "zip")
 keep:∀ c x f,cx.P.meth c x=some f->keepIn cx.K (.ref (cx.fa f))=true
structure Hyp (cx:Cx)(k:Nat)(A:Around)(T:Tab):Prop where
 B:Base cx
 R:qg A k
 C:xP cx k
 CL:Cls cx
 TO:TabOk cx T
structure qC (env:Env)(ns:Nms):Prop where
 names:env.scope.names=ns
 kind:env.scope.kind=.function
 cells:CellsOk env
noncomputable def SndU (cx:Cx) (k:Nat) (A:Around) (env:Env) (e:ME) (re:Expr):Prop:=∀ (x:Nat) (tpos:Pos),env.kindOf (cx.N x)=some .local->
 ∀ (ml:Loc) (J:Hp) (v:MV) (J':Hp) (O:Rho) (s:Shared),zL cx env O s.heap ml->Sim cx O J s.heap->evalE cx.P (callN cx.P k) e ml J=some (v,J')->
  wpM cx A (evalThenUse re env (assign (.Name (cx.N x) tpos) env)) (fun _ s'=>zJ cx env O s J' (upd ml x v) .none .next s') s
structure ziz (cx:Cx)(k:Nat)(A:Around)(env:Env)(e:ME)(re:Expr):Prop where
 val:SndE cx k A env e (PySem.eval re env)
 test:testable re=true->SndT cx k A env e re
 use:usable e=true->SndU cx k A env e re
section
variable {cx:Cx}{k:Nat}{A:Around}{env:Env}{ns:Nms}{T:Tab}
theorem ziz.plain {e:ME}(h:SndE cx k A env e (PySem.eval re env))(he:∀ whole,isTrue re env whole=(do let v <- whole;standAt re.pos;holding [v] (truthy v)))(hu:usable e=false):ziz cx k A env e re:=
 ⟨h,fun _=>jn h he,fun z=>by rw[hu] at z;cases z⟩
theorem xE(h:notSet e=true)(env:Env)(x:Value):foldedSetIterable e env x=pure x:=by
 cases e <;> first | rfl | (cases h)
theorem zan(h:notSet e=true)(o:CmpOp):behindInMarks o e=false:=by
 cases e <;> first | rfl | (cases h)
theorem jT:∀ {xs:List Nat} {elts:List Expr},namesB N xs elts=true->Names N xs elts
 | [],elts,h=>onNil_go h .nil
 | x :: xs,elts,h=>onCons_go h fun e r h=>b2 h fun h1 h2=>onName_go h1 fun y p e=>by
   cases (de e:y=N x)
   exact .cons (jT h2)
theorem zdL {t:Bool}(h:tgtB N t xs te=true):Tgt N t xs te:=by
 cases t
 ·exact onCons_go h fun x r h=>b2 h fun h1 h2=>onNil_go h1 (onName_go h2 fun y p e=>by
   cases (de e:y=N x)
   exact .name)
 ·exact onTup_go h fun es k p h=>.tup (jT h)
theorem zbB:∀ {ks:List MV} {keys:List (Option Expr)},keysB ks keys=true->zh6 ks keys
 | [],_,h=>onNil_go h .nil
 | m :: ks,_,h=>onCons_go h fun e r h=>b2 h fun h1 h2=>onOpt_go h1 ff fun e h1=>isStr_go h1 fun x h1=>onCon_go h1 fun c n p h1=>onCStr_go h1 fun y h1=>.cons (de h1) (zbB h2)
theorem ze0:∀ {os:List COp} {ops:List CmpOp},opsB os ops=true->Ops os ops
 | [],_,h=>onNil_go h .nil
 | o :: os,_,h=>onCons_go h fun e r h=>b2 h fun h1 h2=>.cons h1 (ze0 h2)
theorem qC.bind (K:qC env ns){y:Str}(h:bindB ns y=true):bindable env y:=by
 show env.scope.names.lookup y=_∨env.scope.names.lookup y=_
 rw[K.names]
 exact (Bool.or_eq_true_iff.mp h).imp de de
theorem qC.var (K:qC env ns){y:Str}(h:varKind ns y=true):env.kindOf y=some .local∨env.kindOf y=some .cell∨env.kindOf y=some .free:=by
 show env.scope.names.lookup y=_∨env.scope.names.lookup y=_∨env.scope.names.lookup y=_
 rw[K.names]
 exact (Bool.or_eq_true_iff.mp h).elim (fun h=>(Bool.or_eq_true_iff.mp h).elim (fun h=>.inl (de h)) fun h=>.inr (.inl (de h))) fun h=>.inr (.inr (de h))
theorem qC.at (K:qC env ns){y:Str}{kd:NameKind}(h:ns.lookup y=some kd):env.kindOf y=some kd:=by
 show env.scope.names.lookup y=_
 rw[K.names];exact h
theorem qC.glob (K:qC env ns){y:Str}(h:isGlob ns y=true):env.kindOf y=some .globalImplicit:=K.at (of_decide_eq_true h)
theorem qC.comp (K:qC env ns)(scope:Scope):compNames env scope=compNamesN ns scope.names:=by
 unfold compNames compNamesN
 congr 1
 funext x
 obtain⟨n,kd⟩:=x
 have:ownKind env n kd=(kd == .free && decide (ns.lookup n=some .cell)):=by
  unfold ownKind
  rw[K.kind,show env.kindOf n=ns.lookup n by show env.scope.names.lookup n=_;rw[K.names]]
  rw[show (ScopeKind.function == ScopeKind.function)=true from rfl,Bool.and_true,show (ns.lookup n == some NameKind.cell)=decide (ns.lookup n=some .cell) by rw[Bool.eq_iff_iff];simp]
 simp only[this]
theorem zdB (K:qC env ns)(h:compOkB cx.N ns scope all=true):wA cx env scope all all/\∀ L,qC (compEnv env scope L) (compNamesN ns scope.names):=by
 unfold compOkB at h
 refine b2 h fun h1 h=>b2 h fun h2 h3=>?_
 have h1:=de h1
 rw[List.all_eq_true] at h2 h3
 replace h3:=fun x hx=>of_decide_eq_true (h3 x hx)
 have free:freeOk env scope.names:=fun x hx hf=>by
  have:=h2 x hx
  rw[hf] at this
  have hk:=K.at (of_decide_eq_true this)
  exact⟨hk,K.cells _ hk⟩
 have cell:∀ x∈scope.names,x.2≠.cell:=fun x hx hf=>by
  have:=h2 x hx
  rw[hf] at this
  cases this
 have loc:∀ x∈scope.names,x.2=.local->(compNames env scope).lookup x.1=some .local/\(x.1 = ".0" ∨ ∃ t∈all,x.1=cx.N t):=fun x hx hf=>by
  have:=h2 x hx
  rw[hf] at this
  simp only[Bool.and_eq_true,Bool.or_eq_true,decide_eq_true_eq,List.any_eq_true] at this
  rw[K.comp]
  exact this
 refine⟨⟨⟨free,cell,h1,fun x hx hf=>(loc x hx hf).1⟩,fun x hx hf=>(loc x hx hf).2,fun x hx=>by rw[K.comp];exact h3 x hx⟩,fun L=>⟨K.comp scope,h1,fun n hn=>?_⟩⟩
 have hn':(compNames env scope).lookup n=some .cell:=hn
 obtain⟨k0,hm,e⟩:=xF hn'
 by_cases ho:ownKind env n k0=true
 ·have:k0=.free:=by
   unfold ownKind at ho
   simp only[Bool.and_eq_true,beq_iff_eq] at ho
   exact ho.1.1
  subst this
  exact Option.isSome_iff_exists.mp (kh scope.names [] n hm)
 ·rw[if_neg ho] at e
  exact absurd e.symm (cell _ hm)
theorem kj.tests(h:kj cx k A env es res):jg cx k A env es res:=by
 induction h with
 | nil=>exact .nil
 | cons a b _ _ ih=>exact .cons b ih
theorem zc1(h:Each cx k A env es [re]):∃ e,es=[e]/\SndE cx k A env e (PySem.eval re env):=by
 cases h with
 | cons a r=>cases r;exact⟨_,rfl,a⟩
@[elab_as_elim] theorem itB_go {nm:Str} {f:List Expr->Bool} (h:itB ns nm re f=true) (k:∀ res q p,isGlob ns nm=true->f res=true->P (.Call (.Name nm q) res [] p)):P re:=
 onCall_go h fun fn res kws p h=>b2 h fun h1 h=>onNil_go (P:=fun kws=>P (.Call fn res kws p)) h1 (onName_go (P:=fun fn=>P (.Call fn res [] p)) h fun y q h=>b2 h fun e h=>b2 h fun hg hf=>by
  cases (de e:y=nm)
  exact k _ _ _ hg hf)
theorem zjh (H:Hyp cx k A T)(K:qC env ns){f:List Expr->Bool}{P:Prop}(h:itA ns ik riter f=true)(g:∀ l,f l=true->(its.length=itLen ik->Each cx k A env its l->noStar l=true->ItE cx k A env ik its riter)->P):P:=by
 cases ik with
 | val=>exact g _ h fun _ he _=>(by
   obtain⟨x,rfl,hx⟩:=zc1 he
   exact zgF hx)
 | range=>
  revert g
  refine itB_go h fun res q p hg hf g=>g _ hf fun hl he hn=>?_
  obtain⟨x,rfl⟩:=List.length_eq_one_iff.mp (show its.length=1 from hl)
  exact zfy H.B (zP he hn) (K.glob hg) H.TO.range.1 H.TO.range.2
 | enum=>
  revert g
  refine itB_go h fun res q p hg hf g=>g _ hf fun hl he hn=>?_
  obtain⟨x,rfl⟩:=List.length_eq_one_iff.mp (show its.length=1 from hl)
  exact ziu H.B (zP he hn) (K.glob hg) H.TO.enum.1 H.TO.enum.2
 | zip=>
  revert g
  refine itB_go h fun res q p hg hf g=>g _ hf fun hl he hn=>?_
  cases its with
  | nil=>cases hl
  | cons x1 r=>cases r with
   | nil=>cases hl
   | cons x2 r=>cases r with
    | nil=>exact zjm H.B (zP he hn) (K.glob hg) H.TO.zip.1 H.TO.zip.2
    | cons _ _=>cases hl
theorem zjY (H:Hyp cx k A T)(K:qC env ns){v:MV}(h:okLit T ns v re=true):ziz cx k A env (.l v) re:=by
 rcases Bool.or_eq_true_iff.mp h with h | h
 ·refine onCon_go h fun c n p h=>?_
  cases v with
  | none=>
   cases (de h:c=.none)
   exact .plain zfq (fun _=>rfl) rfl
  | bool b=>
   exact onCBool_go h fun a h=>by
    cases (beq_iff_eq.mp h:a=b)
    exact .plain zfC (fun _=>rfl) rfl
  | int i=>
   exact onCInt_go h fun j h=>by
    cases (de h:j=i)
    exact .plain zh1 (fun _=>rfl) rfl
  | str x=>exact onCStr_go h fun y h=>.plain (zhv (de h)) (fun _=>rfl) rfl
  | _=>exact ff h
 ·refine onName_go h fun y p h=>b2 h fun h1 h2=>?_
  obtain⟨d,v,a,b⟩:=H.TO.con _ _ h2
  exact .plain (zcB H.B (K.glob h1) d a b) (fun _=>rfl) rfl
@[elab_as_elim] theorem isRev_go (h:isRev re=true) (k:∀ q1 q2 q3 q4,P (.Slice none none (some (.UnaryOp .USub (.Constant (.int 1) q1 q2) q3)) q4)):P re:=
 onSl_go h fun l u st p h=>b2 h fun h h3=>b2 h fun h1 h2=>onOpt_go (P:=fun l=>P (.Slice l u st p)) h1 (fun _=>onOpt_go (P:=fun u=>P (.Slice none u st p)) h2 (fun _=>onOpt_go (P:=fun st=>P (.Slice none none st p)) h3 ff fun e h3=>onUn_go (P:=fun e=>P (.Slice none none (some e) p)) h3 fun op x q h=>b2 h fun e1 h=>by
  cases (de e1:op=.USub)
  exact onCon_go (P:=fun x=>P (.Slice none none (some (.UnaryOp .USub x q)) p)) h fun c n q' h=>onCInt_go (P:=fun c=>P (.Slice none none (some (.UnaryOp .USub (.Constant c n q') q)) p)) h fun i h=>by
   cases (de h:i=1)
   exact k _ _ _ _) fun _=>ff) fun _=>ff
theorem zjX{t:Bool}(h:(!kindTup ik || t)=true):kindTup ik=true->t=true:=fun z=>by rw[z] at h;exact h
theorem part_of {l:Option Expr}{lo:ME}(h:onOpt l (isLitNone lo) (fun r=>okE T ns lo r)=true)(ih:∀ r,okE T ns lo r=true->ziz cx k A env lo r):SndE cx k A env lo (evalPart l env):=
 onOpt_go h (fun h=>by rw[zaC h];exact jP) fun r h=>(ih r h).val
theorem zbp(h:isStar re=false)(h':noStar res=true):noStar (re :: res)=true:=by
 cases re <;> first | exact h' | exact ff h.symm
theorem zc9 (H:Hyp cx k A T)(I:ItE cx k A env ik its riter)(t:Tgt cx.N isTup tgt te)(kt:kindTup ik=true->isTup=true)(ns:∀ x,foldedSetIterable riter env x=pure x)(C:wA cx env scope tgt tgt)
  (hi:∀ L,jg cx k A (compEnv env scope L) ifs rifs) (he:∀ L,SndE cx k A (compEnv env scope L) elt (PySem.eval relt (compEnv env scope L))):ziz cx k A env (.comp elt isTup tgt ik its ifs) (.ListComp relt [⟨te,riter,rifs,0⟩] scope p):=
 have w:=zfn H.B H.R.hd I t kt ns C hi he
 ⟨w,fun _=>jn w fun _=>rfl,fun _ x tpos hk ml J v J' O s E S q=>zgn H.B H.R.hd I t kt ns C hi he hk E S q⟩
mutual
theorem zj (H:Hyp cx k A T):∀ (e:ME) (re:Expr) (env:Env) (ns:Nms),qC env ns->okE T ns e re=true->ziz cx k A env e re
 | .l v=>fun re env ns K h=>zjY H K h
 | .v x=>fun re env ns K h=>onName_go h fun y p h=>b2 h fun e h=>by
  have e:=de e
  rw[H.TO.N] at e
  cases e
  exact .plain (ziQ H.B (K.var h)) (fun _=>rfl) rfl
 | .and es=>fun re env ns K h=>onBool_go h fun op res p h=>b2 h fun e h=>by
  cases (de e:op=.And)
  have b:=zV H es _ env ns K h
  exact⟨snd_and b,fun _=>zfm b,ff⟩
 | .or es=>fun re env ns K h=>onBool_go h fun op res p h=>b2 h fun e h=>by
  cases (de e:op=.Or)
  have b:=zV H es _ env ns K h
  exact⟨zjK b,fun _=>zhu b,ff⟩
 | .not e=>fun re env ns K h=>onUn_go h fun op r p g=>b2 g fun e1 g=>b2 g fun h1 h=>by
  cases (de e1:op=.Not)
  have b:=zj H e _ env ns K h
  exact⟨ziD b.val,fun _=>zgj (b.test h1),ff⟩
 | .neg e=>fun re env ns K h=>onUn_go h fun op r p h=>b2 h fun e1 h=>by
  cases (de e1:op=.USub)
  exact .plain (zib (zj H e _ env ns K h).val) (fun _=>rfl) rfl
 | .o o a b=>fun re env ns K h=>onBin_go h fun ra op rb p h=>b2 h fun h1 h=>b2 h fun h2 h3=>
  .plain (zis h1 (zj H a _ env ns K h2).val (zj H b _ env ns K h3).val) (fun _=>rfl) rfl
 | .cmp a os es=>fun re env ns K h=>onCmp_go h fun ra ops res p h=>b2 h fun h1 h=>b2 h fun h2 h3=>
  have ha:=(zj H a _ env ns K h1).val
  have hb:=zV H es _ env ns K h3
  ⟨zia H.B H.R.room ha hb (ze0 h2),fun _=>zfi H.B H.R.room ha hb (ze0 h2),ff⟩
 | .ite c a b=>fun re env ns K h=>onIf_go h fun rc ra rb p h=>b2 h fun h1 h=>b2 h fun h2 h=>b2 h fun h3 h4=>
  ⟨zhD ((zj H c _ env ns K h2).test h1) (zj H a _ env ns K h3).val (zj H b _ env ns K h4).val,ff,ff⟩
 | .list es=>fun re env ns K h=>onList_go h fun res p h=>b2 h fun h1 h2=>
  have z:=zK H es _ env ns K h2
  .plain (zf7 (zap z.1 z.2) (de h1)) (fun _=>rfl) rfl
 | .tup es=>fun re env ns K h=>onTup_go h fun res q p h=>b2 h fun h1 h2=>
  have z:=zK H es _ env ns K h2
  .plain (zih (zap z.1 z.2) (de h1)) (fun _=>rfl) rfl
 | .dict ks vs=>fun re env ns K h=>onDict_go h fun keys res p h=>b2 h fun h1 h=>b2 h fun h2 h=>b2 h fun h3 h=>b2 h fun h4 h5=>
  .plain (zfl (zbB h1) (zK H vs _ env ns K h5).1 (de h2) (de h3) (de h4)) (fun _=>rfl) rfl
 | .comp elt isTup tgt ik its ifs=>fun re env ns K h=>onLC_go h fun relt gens scope p h=>genB_go h fun te riter rifs r h=>b2 h fun h0 h=>onNil_go h0 <| zjh (its:=its) H K h fun l h I=>b2 h fun h1 h=>b2 h fun h2 h=>b2 h fun h3 h=>b2 h fun h4 h=>b2 h fun h5 h=>b2 h fun h6 h=>b2 h fun h7 h8=>by
  rw[H.TO.N] at h3 h6
  have z:=zK H its _ env ns K h2
  have C:=zdB (cx:=cx) K h6
  exact zc9 H (I (de h1) z.1 z.2) (zdL h3) (zjX h4) (xE h5 env) C.1 (fun L=>(zV H ifs _ (compEnv env _ L) _ (C.2 L) h7).tests) fun L=>(zj H elt _ (compEnv env _ L) _ (C.2 L) h8).val
 | .comp2 elt x it isTup tgt it2 ifs=>fun re env ns K h=>onLC_go h fun relt gens scope p h=>genB_go h fun te riter rifs r h=>b2 h fun h0 h=>onNil_go h0 <| genB_go h fun te2 riter2 rifs2 r2 h=>b2 h fun h0 h=>onNil_go h0 <| onName_go h fun y q h=>b2 h fun e h=>b2 h fun h1 h=>b2 h fun h2 h=>b2 h fun h3 h=>b2 h fun h4 h=>b2 h fun h5 h=>b2 h fun h6 h=>b2 h fun h7 h=>b2 h fun h8 h9=>by
  have e:=de e
  rw[H.TO.N] at h2 h5 e
  cases e
  have C:=zdB (cx:=cx) K h5
  exact .plain (zdp H.B H.R.hd (zj H it _ env ns K h1).val (zdL h2) (xE h3 env) (fun L=>xE h4 _) C.1 (fun z=>by rw[List.elem_eq_true_of_mem z] at h6;exact ff h6) (fun L=>(zj H it2 _ (compEnv env _ L) _ (C.2 L) h7).val) (fun L=>(zV H ifs _ (compEnv env _ L) _ (C.2 L) h8).tests) fun L=>(zj H elt _ (compEnv env _ L) _ (C.2 L) h9).val) (fun _=>rfl) rfl
 | .a e x=>fun re env ns K h=>onAttr_go h fun ra y p h=>b2 h fun e1 h=>b2 h fun h1 h2=>by
  have e1:=de e1
  rw[H.TO.N] at e1
  cases e1
  exact .plain (zgo H.B H.CL (zj H e _ env ns K h2).val h1) (fun _=>rfl) rfl
 | .sub a i=>fun re env ns K h=>onSub_go h fun ra ri p h=>b2 h fun h1 h=>b2 h fun h2 h3=>
  .plain (ziG (zj H a _ env ns K h2).val (zj H i _ env ns K h3).val h1) (fun _=>rfl) rfl
 | .slice a lo hi=>fun re env ns K h=>onSub_go h fun ra ri p h=>b2 h fun h1 h=>onSl_go h fun l u st q h=>b2 h fun h0 h=>b2 h fun h2 h3=>onOpt_go h0 (fun _=>
  .plain (zeX (zj H a _ env ns K h1).val (part_of h2 fun r h=>zj H lo r env ns K h) (part_of h3 fun r h=>zj H hi r env ns K h)) (fun _=>rfl) rfl) fun _=>ff
 | .rev a=>fun re env ns K h=>onSub_go h fun ra ri p h=>b2 h fun h1 h=>isRev_go h1 fun q1 q2 q3 q4=>.plain (zhZ (zj H a _ env ns K h).val) (fun _=>rfl) rfl
 | .f f args=>fun re env ns K h=>onCall_go h fun fn res kws p h=>b2 h fun h0 h=>onNil_go h0 <| onName_go h fun y q h=>b2 h fun h1 h=>b2 h fun h2 h=>
  have z:=zK H args _ env ns K h
  have w:=H.TO.fn _ _ h1
  .plain (zdk H.B H.R H.C (zP z.1 z.2) (K.glob h2) w.1 w.2.1 w.2.2) (fun _=>rfl) rfl
 | .c c args=>fun re env ns K h=>onCall_go h fun fn res kws p h=>b2 h fun h0 h=>onNil_go h0 <| onName_go h fun y q h=>b2 h fun h1 h=>b2 h fun h2 h=>by
  have z:=zK H args _ env ns K h
  obtain⟨d,e,g,f,i,M⟩:=H.TO.cl _ _ h1
  exact .plain (zdZ H.B H.R H.C (zP z.1 z.2) (K.glob h2) d e g i M) (fun _=>rfl) rfl
 | .b b args=>fun re env ns K h=>onCall_go h fun fn res kws p h=>b2 h fun h0 h=>onNil_go h0 <| onName_go h fun y q h=>b2 h fun e h=>b2 h fun h1 h9=>by
  cases (de e:y=biName b)
  have z:=zK H args _ env ns K h9
  have w:=H.TO.bi b
  exact .plain (zet H.B (zP z.1 z.2) (K.glob h1) w.1 w.2 fun O J s v J' vs vals S r q=>ze5 H.B H.R.room S r q) (fun _=>rfl) rfl
 | .m e x args=>fun re env ns K h=>onCall_go h fun fn res kws p h=>b2 h fun h0 h=>onNil_go h0 <| onAttr_go h fun ra y q h=>b2 h fun e1 h=>b2 h fun h1 h=>b2 h fun h2 h=>b2 h fun h3 h=>b2 h fun h4 h5=>by
  have e1:=de e1
  rw[H.TO.N] at e1
  cases e1
  have z:=zK H args _ env ns K h5
  exact .plain (zgd H.B H.R H.C H.CL (zj H e _ env ns K h4).val h1 (zP z.1 z.2) (de h2) h3 fun c f=>H.TO.keep c x f) (fun _=>rfl) rfl
 | .n e m args=>fun re env ns K h=>onCall_go h fun fn res kws p h=>b2 h fun h0 h=>onNil_go h0 <| onAttr_go h fun ra y q h=>b2 h fun e1 h=>b2 h fun h1 h=>b2 h fun h2 h=>b2 h fun h3 h=>b2 h fun h4 h5=>by
  cases (de e1:y=mbName m)
  have z:=zK H args _ env ns K h5
  exact .plain (zd0 H.B (zj H e _ env ns K h4).val h1 (zP z.1 z.2) (de h2) h3) (fun _=>rfl) rfl
theorem zK (H:Hyp cx k A T):∀ (es:List ME) (res:List Expr) (env:Env) (ns:Nms),qC env ns->okL T ns es res=true->Each cx k A env es res/\noStar res=true
 | []=>fun res env ns K h=>onNil_go h ⟨.nil,rfl⟩
 | e :: es=>fun res env ns K h=>onCons_go h fun re res h=>b2 h fun h1 h=>b2 h fun h2 h3=>
  have z:=zK H es _ env ns K h3
  ⟨.cons (zj H e _ env ns K h2).val z.1,zbp (nt h1) z.2⟩
theorem zV (H:Hyp cx k A T):∀ (es:List ME) (res:List Expr) (env:Env) (ns:Nms),qC env ns->okBo T ns es res=true->kj cx k A env es res
 | []=>fun res env ns K h=>onNil_go h .nil
 | e :: es=>fun res env ns K h=>onCons_go h fun re res h=>b2 h fun h1 h=>b2 h fun h2 h=>b2 h fun h3 h4=>
  have a:=zj H e re env ns K h3
  .cons a.val (a.test h1) (zan h2) (zV H es _ env ns K h4)
end
end
noncomputable def dfltB (ms:List MV):List Value->Bool:=@List.rec MV (fun _=>List Value->Bool) (fun vs=>onNil vs) (fun m _ ih vs=>onCons vs fun v r=>constOk m v && ih r) ms
noncomputable def onSeq (o:Obj) (f:Array Value->Bool):Bool:=@Data.casesOn (fun _=>Bool) o.data false F1 (fun a _=>f a) F2 F3 F2 F1 F1 F1 F1 false
@[elab_as_elim] theorem onSeq_go {o:Obj} {f:Array Value->Bool} {P:Obj->Prop} (h:onSeq o f=true) (k:∀ c d a n s,f a=true->P ⟨c,d,.seq a n,s⟩):P o:=by
 obtain⟨c,d,dt,s⟩:=o
 exact @Data.casesOn (fun dt=>onSeq ⟨c,d,dt,s⟩ f=true->P ⟨c,d,dt,s⟩) dt ff G1 (fun a n=>k c d a n s) G2 G3 G2 G1 G1 G1 G1 ff h
noncomputable def onFun (o:Obj) (f:FuncData->Bool):Bool:=@Data.casesOn (fun _=>Bool) o.data false F1 F2 F2 F3 F2 F1 f F1 F1 false
@[elab_as_elim] theorem onFun_go {o:Obj} {f:FuncData->Bool} {P:Obj->Prop} (h:onFun o f=true) (k:∀ c d a s,f a=true->P ⟨c,d,.func a,s⟩):P o:=by
 obtain⟨c,d,dt,s⟩:=o
 exact @Data.casesOn (fun dt=>onFun ⟨c,d,dt,s⟩ f=true->P ⟨c,d,dt,s⟩) dt ff G1 G2 G2 G3 G2 G1 (fun a=>k c d a s) G1 G1 ff h
noncomputable def vNR (v:Value) (n:Bool) (r:Addr->Bool):Bool:=@Value.casesOn (fun _=>Bool) v n false false F1 F2 F2 F2 F2 F1 F1 r
@[elab_as_elim] theorem vNR_go {n:Bool} {r:Addr->Bool} {P:Value->Prop} (h:vNR v n r=true) (k:n=true->P .none) (k':∀ a,r a=true->P (.ref a)):P v:=@Value.casesOn (fun v=>vNR v n r=true->P v) v k ff ff G1 G2 G2 G2 G2 G1 G1 k' h
noncomputable def fdOk (K:Frag) (T:Tab) (F:MF) (fd:FuncData):Bool:=
 codeIn K fd.code fd.qualname && (fd.params.posonlyargs.isEmpty && (fd.params.vararg.isNone && (fd.params.kwonlyargs.isEmpty && (fd.params.kwarg.isNone &&
 (decide (fd.params.args.map (·.arg)=F.params.map T.N) && (decide F.params.Nodup && (decide (F.dflts.length<=F.params.length) &&
 (vNR fd.defaults (dfltB F.dflts []) (fun t=>onOpt (K.lookup t) false fun o=>onSeq o fun a=>dfltB F.dflts a.toList) &&
 (decide (fd.scope.kind=.function) && (!fd.scope.isCoroutine && (!fd.scope.isGenerator && (decide (fd.globals=mainGlobals) && (decide (fd.builtins=builtinsNs) && (fd.closure.isEmpty &&
 F.params.all (fun x=>bindB fd.scope.names (T.N x))))))))))))))))
noncomputable def bodyOk (T:Tab) (F:MF) (fd:FuncData):Bool:=@FuncBody.casesOn (fun _=>Bool) fd.body (fun body=>okS T fd.scope.names F.body body) fun _=>false
noncomputable def fnOk (K:Frag) (T:Tab) (a:Addr) (F:MF):Bool:=onOpt (K.lookup a) false fun o=>onFun o fun fd=>fdOk K T F fd && bodyOk T F fd
end Mine
end
section
open PySem PySem.W
set_option maxRecDepth 100000
namespace Mine
noncomputable def nmL:List (List Nat):=[[99,111,100,101],[99,111,100,101,115],[116,97,98,108,101],[102,111,117,110,100],[105,115,95,105,110,115,105,100,101],[107,105,110,100,95,111,102],[115,101,108,102],[119,111,114,100],[105,115,95,101,120,97,99,116],[117,115,101,100],[110,97,109,101],[112,97,114,101,110,116,115],[101,110,116,114,105,101,115],[105,115,95,97,108,108,95,103,114,101,97,116],[111,119,110],[107,101,121],[110,97,109,101,115],[119,97,105,116,105,110,103],[97,116],[115,121,110,116,97,120],[109,97,110,121],[105,115,95,119,105,116,104,105,110],[112,108,97,99,101],[101,110,116,114,121],[98,117,102,102,101,114],[105,115,95,114,101,97,100,95,111,110,108,121],[103,114,111,119,116,104],[115,105,122,101],[115,116,97,114,116],[101,110,100],[108,111,119],[104,105,103,104],[98,101,103,118],[122,118],[108,105,115,116,101,110,101,114],[108,105,115,116,101,110,101,114,115],[98,101,102,111,114,101,95,99,104,97,110,103,101],[111,108,100,95,108,101,110,103,116,104],[116,111,117,99,104],[97,102,116,101,114,95,99,104,97,110,103,101],[117,110,100,111],[116,101,120,116,95,103,111,101,115],[103,111,110,101],[116,101,120,116],[100,101,108,101,116,101],[112,111,105,110,116],[116,101,120,116,95,99,111,109,101,115],[105,110,115,101,114,116],[112,114,111,112,115],[116,101,120,116,95,103,111,110,101],[111,118,101,114,108,97,121,115],[98,101,102,111,114,101,95,109,97,114,107,101,114,115],[116,101,120,116,95,99,97,109,101],[105,115,95,112,111,105,110,116,95,98,101,104,105,110,100],[109,97,114,107,101,114,115],[105,110,115,101,114,116,101,100],[100,101,108,101,116,101,100],[114,111,119,115],[114,101,112,108,97,99,101,100],[112,117,116,95,114,111,119,115],[118,105,101,119],[99,111,100,101,95,97,116],[107,105,110,100,115],[105,115,95,110,101,103,97,116,101,100],[107,105,110,100],[108,105,109,105,116],[109,97,116,99,104],[102,108,97,103,115],[102,108,97,103],[112,97,114,101,110,116],[100,101,115,99,114,105,112,116,105,111,110],[115,105,103,110],[109,111,100,105,102,121,95,97,108,108],[111,112,101,110,115],[99,108,111,115,101,115],[99,111,117,110,116],[98,101,103,105,110],[105,115,95,116,104,101,114,101],[105,115,95,115,111],[108,97,115,116],[98,111,117,110,100],[114,111,111,109],[99,101,108,108,115],[103,97,112,95,115,116,97,114,116],[103,97,112,95,101,110,100],[115,104,105,102,116],[109,111,118,101,100],[119,97,110,116,101,100],[108,97,99,107],[119,105,100,101,110,95,103,97,112],[109,111,118,101,95,103,97,112],[109,97,114,107,101,114],[112,111,115,105,116,105,111,110],[110,117,109,98,101,114],[110,117,109,98,101,114,115],[105,115,95,98,101,102,111,114,101],[97,100,118,97,110,99,101,115],[109,97,114,107],[105,115,95,108,105,118,101],[116,105,99,107,115],[99,111,100,101,115,95,116,105,99,107,115],[115,97,118,101,100,95,116,105,99,107,115],[108,111,99,97,108,115],[102,105,108,101],[97,114,101,95,99,111,100,101,115],[111,114,100,101,114],[99,117,114,114,101,110,116],[108,97,115,116,95,110,117,109,98,101,114],[108,97,115,116,95,109,97,114,107,101,114],[98,121,95,110,97,109,101],[115,116,97,114,116,115,119,105,116,104],[115,99,114,105,112,116],[100,101,99,107],[99,101,108,108],[119,104,111,108,101,95,104,101,114,101],[111,110,101],[116,119,111],[107,110,111,119,110],[105,115,95,101,97,99,104],[105,115,95,111,118,101,114],[105,115,95,102,105,114,115,116],[115,116,97,114,116,115],[116,97,98,108,101,115],[112,105,101,99,101,115],[100,111,110,101],[99,114,101,97,116,101],[112,105,101,99,101],[119,111,114,100,115],[116,101,120,116,115],[116,117,114,110],[116,121,112,101,100],[98,101,116,119,101,101,110],[100,117,101],[109,97,100,101,95,104,101,114,101],[111,116,104,101,114],[114,111,119],[95,95,105,110,105,116,95,95],[104,97,115],[112,117,116],[119,105,116,104,105,110]]
noncomputable def fnL:List (List Nat):=[[100,111,119,110,99,97,115,101],[117,112,99,97,115,101],[105,115,95,117,112,112,101,114],[105,115,95,108,111,119,101,114],[117,112,99,97,115,101,100],[100,111,119,110,99,97,115,101,100],[105,110,105,116,105,97,108,115,95,117,112,99,97,115,101,100],[65,98,98,114,101,118,46,95,95,105,110,105,116,95,95],[65,98,98,114,101,118,84,97,98,108,101,46,95,95,105,110,105,116,95,95],[107,101,121,95,111,102],[100,101,102,105,110,101],[102,111,114,103,101,116],[111,119,110,95,101,110,116,114,121],[116,97,98,108,101,115,95,102,114,111,109],[101,110,116,114,121,95,111,102],[105,115,95,119,111,114,100,95,115,105,103,110],[109,97,110,121,95,119,111,114,100,115],[104,97,115,95,117,112,112,101,114],[104,97,115,95,108,111,119,101,114],[102,105,114,115,116,95,117,112,99,97,115,101,100],[119,114,105,116,116,101,110],[101,120,112,97,110,115,105,111,110,95,111,102],[117,110,101,120,112,97,110,100,101,100],[110,101,101,100,95,119,114,105,116,97,98,108,101],[110,101,101,100,95,114,111,111,109],[114,101,97,99,104,101,100],[116,101,108,108,95,97,104,101,97,100],[116,101,108,108,95,98,101,104,105,110,100],[116,101,120,116,95,111,117,116],[116,101,120,116,95,105,110],[104,117,110,103,95,111,117,116],[104,117,110,103,95,105,110],[112,117,116,95,105,110],[105,110,115,101,114,116,95,97,116],[105,110,115,101,114,116],[100,101,108,101,116,101],[114,101,112,108,97,99,101],[115,121,110,116,97,120,95,97,116],[105,115,95,111,102],[115,107,105,112,95,102,111,114,119,97,114,100],[115,107,105,112,95,98,97,99,107,119,97,114,100],[83,121,110,116,97,120,46,95,95,105,110,105,116,95,95],[83,121,110,116,97,120,46,104,97,115],[115,111,114,116,101,100,95,102,108,97,103,115],[114,101,97,100,95,115,121,110,116,97,120],[83,121,110,116,97,120,84,97,98,108,101,46,95,95,105,110,105,116,95,95],[83,121,110,116,97,120,84,97,98,108,101,46,109,111,100,105,102,121,95,97,108,108],[83,121,110,116,97,120,84,97,98,108,101,46,111,119,110],[83,121,110,116,97,120,84,97,98,108,101,46,97,116],[83,121,110,116,97,120,84,97,98,108,101,46,107,105,110,100,95,111,102],[108,101,116,116,101,114,115],[115,116,97,110,100,97,114,100,95,116,97,98,108,101],[102,111,114,119,97,114,100,95,98,121],[102,111,114,119,97,114,100,95,119,111,114,100],[69,120,112,97,110,115,105,111,110,46,95,95,105,110,105,116,95,95],[119,111,114,100,95,98,101,102,111,114,101],[101,120,112,97,110,100,95,97,98,98,114,101,118],[117,110,101,120,112,97,110,100,95,97,98,98,114,101,118],[101,120,112,97,110,100,95,114,101,103,105,111,110],[71,97,112,84,101,120,116,46,95,95,105,110,105,116,95,95],[71,97,112,84,101,120,116,46,115,105,122,101],[71,97,112,84,101,120,116,46,99,111,100,101],[71,97,112,84,101,120,116,46,99,111,100,101,115],[71,97,112,84,101,120,116,46,109,111,118,101,95,103,97,112],[71,97,112,84,101,120,116,46,119,105,100,101,110,95,103,97,112],[71,97,112,84,101,120,116,46,105,110,115,101,114,116],[71,97,112,84,101,120,116,46,100,101,108,101,116,101],[71,97,112,84,101,120,116,46,112,117,116],[79,112,97,113,117,101,46,107,105,110,100],[77,97,114,107,101,114,115,46,95,95,105,110,105,116,95,95],[77,97,114,107,101,114,115,46,110,117,109,98,101,114,115],[77,97,114,107,101,114,115,46,112,117,116],[77,97,114,107,101,114,115,46,119,105,116,104,105,110],[77,97,114,107,101,114,115,46,105,110,115,101,114,116,101,100],[77,97,114,107,101,114,115,46,100,101,108,101,116,101,100],[77,97,114,107,101,114,115,46,114,101,112,108,97,99,101,100],[66,117,102,102,101,114,46,95,95,105,110,105,116,95,95],[66,117,102,102,101,114,46,107,105,110,100],[66,117,102,102,101,114,46,98,101,103,105,110],[66,117,102,102,101,114,46,101,110,100],[66,117,102,102,101,114,46,115,105,122,101],[66,117,102,102,101,114,46,99,111,100,101,95,97,116],[66,117,102,102,101,114,46,99,111,100,101,115],[66,117,102,102,101,114,46,116,111,117,99,104],[66,117,102,102,101,114,84,97,98,108,101,46,95,95,105,110,105,116,95,95],[66,117,102,102,101,114,84,97,98,108,101,46,98,121,95,110,97,109,101],[66,117,102,102,101,114,84,97,98,108,101,46,99,114,101,97,116,101],[66,117,102,102,101,114,84,97,98,108,101,46,111,116,104,101,114],[95,108,97,119,95,100,101,99,107],[95,108,97,119,95,100,114,97,119],[95,108,97,119,95,99,111,100,101,115],[95,108,97,119,95,116,101,120,116],[95,108,97,119,95,116,97,98,108,101,115],[95,108,97,119,95,101,110,116,114,121],[95,108,97,119,95,114,105,115,101,110],[95,108,97,119,95,109,97,100,101],[95,108,97,119,95,99,111,117,110,116,115],[95,108,97,119,95,116,121,112,101,100],[95,108,97,119,95,97,114,101,95,116,97,107,101,110,95,98,97,99,107],[108,97,119]]
noncomputable def clL:List (List Nat):=[[65,98,98,114,101,118],[65,98,98,114,101,118,84,97,98,108,101],[76,105,115,112,83,105,103,110,97,108],[83,121,110,116,97,120],[83,121,110,116,97,120,84,97,98,108,101],[69,120,112,97,110,115,105,111,110],[71,97,112,84,101,120,116],[79,112,97,113,117,101],[77,97,114,107,101,114,115],[66,117,102,102,101,114],[66,117,102,102,101,114,84,97,98,108,101]]
noncomputable def faL:List Nat:=[28,35,42,49,54,59,66,80,101,113,120,127,134,141,148,155,162,167,172,179,186,193,200,227,234,241,248,255,262,269,276,283,290,298,306,313,321,328,336,344,352,366,373,406,411,426,440,454,461,468,489,496,503,510,524,538,545,552,559,573,580,587,594,601,608,615,622,629,671,699,706,713,727,734,741,748,770,784,791,798,805,812,819,854,873,887,894,937,972,979,984,989,996,1003,1010,1015,1020,1027,1034,1039]
noncomputable def caL:List Nat:=[83,104,217,397,478,527,646,681,751,857,961]
noncomputable def nml (x:Nat):List Nat:=(nmL[x]?).getD (List.replicate (x+100) 0)
noncomputable def nm (x:Nat):Str:=toS (nml x)
noncomputable def faOf (f:Nat):Addr:=(faL[f]?).getD 0
noncomputable def caOf (c:Nat):Addr:=(caL[c]?).getD 0
noncomputable def dbg:List Nat:=[95,95,100,101,98,117,103,95,95]
noncomputable def conB (K:Frag) (x:Str) (m:MV):Bool:=decide (x≠toS dbg) && onOpt (nsIn K mainGlobals x) false fun o=>onOpt o false fun v=>constOk m v
noncomputable def fnB (x:Str) (f:Nat):Bool:=onOpt fnL[f]? false fun l=>!l.elem 46 && decide (x=toS l)
noncomputable def clB (x:Str) (c:Nat):Bool:=onOpt clL[c]? false fun l=>onOpt (Mine.prog.init c) false fun _=>decide (x=toS l)
noncomputable def tab (K:Frag):Tab:=⟨nm,conB K,fnB,clB⟩
end Mine
end
section
open PySem PySem.W PySem.Calls PyProof.Rows PySem.SeqAt
set_option maxRecDepth 100000
namespace Mine
section
variable {cx:Cx}{k:Nat}{A:Around}{env:Env}{ns:Nms}{T:Tab}
theorem qC.same (K:qC env ns):env.kindOf=(dummy ns).kindOf/\env.blockKind=(dummy ns).blockKind/\env.scope.kind=(dummy ns).scope.kind:=by
 have hc:env.scope.kind=(dummy ns).scope.kind:=K.kind
 refine⟨?_,?_,hc⟩
 ·funext y
  show env.scope.names.lookup y=ns.lookup y
  rw[K.names]
 ·unfold Env.blockKind;rw[hc]
theorem zao (K:qC env ns){re:Expr}{t:Option Expr}{l:Nat}{b:Bool}(h:valOf (swapsWith re t l (dummy ns))=some b):swapsWith re t l env=pure b:=by
 obtain⟨h1,h2,h3⟩:=K.same
 have e:swapsWith re t l env=swapsWith re t l (dummy ns):=by
  unfold swapsWith
  rw[h1,h2,h3]
 rw[e];exact of_pureOf h
theorem jx (K:qC env ns){ts:List Expr}{re:Expr}{r:Option (List Str)}(h:valOf (swappedStores ts re (dummy ns))=some r):swappedStores ts re env=pure r:=by
 obtain⟨h1,h2,h3⟩:=K.same
 have e:swappedStores ts re env=swappedStores ts re (dummy ns):=by
  unfold swappedStores
  rw[h1,h2]
 rw[e];exact of_pureOf h
theorem zcO (re ra:Expr)(y:Str)(p:Pos)(l:Nat)(env:Env):swapsWith re (some (.Attribute ra y p)) l env=pure false:=by cases re <;> rfl
theorem zaj (re ra ri:Expr)(p:Pos)(l:Nat)(env:Env):swapsWith re (some (.Subscript ra ri p)) l env=pure false:=by cases re <;> rfl
theorem zbn (re ra:Expr)(y:Str)(p:Pos)(env:Env):swappedStores [.Attribute ra y p] re env=pure none:=by cases re <;> rfl
theorem jy (re ra ri:Expr)(p:Pos)(env:Env):swappedStores [.Subscript ra ri p] re env=pure none:=by cases re <;> rfl
theorem zeM (H:Hyp cx k A T)(K:qC env ns){t:MT}{e:ME}{te re:Expr}{pos:Pos}(he:ziz cx k A env e re)(h:okG T ns t e te re pos.line=true):SndX cx k A env (.assign t e) (PySem.exec (.Assign [te] re pos) env):=by
 cases t with
 | v x=>
  revert h
  refine fun h=>onName_go (P:=fun te=>okG T ns (.v x) e te re pos.line=true->SndX cx k A env (.assign (.v x) e) (PySem.exec (.Assign [te] re pos) env)) h (fun y p _ h=>b2 h fun e1 h=>?_) h
  have e1:=de e1
  rw[H.TO.N] at e1
  cases e1
  cases hv:valOf (swapsWith re (some (.Name (cx.N x) p)) pos.line (dummy ns)) with
  | none=>rw[hv] at h;exact ff h
  | some b=>
   rw[hv] at h
   cases b with
   | false=>exact yf he.val (zdv H.B K.cells (K.bind h)) rfl (zao K hv) rfl
   | true=>exact b2 h fun h1 h2=>wX (zao K hv) fun {ml J v J' O s} E S q=>he.use h1 _ _ (K.at (de h2)) ml J v J' O s E S q
 | tup xs=>
  refine onTup_go (P:=fun te=>okG T ns (.tup xs) e te re pos.line=true->SndX cx k A env (.assign (.tup xs) e) (PySem.exec (.Assign [te] re pos) env)) h (fun elts kk p _ h=>b2 h fun h0 h=>?_) h
  cases hv:valOf (swappedStores [.Tuple elts kk p] re (dummy ns)) with
  | none=>rw[hv] at h;exact ff h
  | some o=>
   rw[hv] at h
   cases o with
   | none=>
    refine b2 h fun h1 h2=>?_
    ·rw[H.TO.N,List.all_eq_true] at h2
     rw[H.TO.N] at h1
     exact yf he.val (zfS H.B K.cells H.R.hd (jT h1) fun x hx=>K.bind (h2 x hx)) rfl (yL (nt h0) ..) (jx K hv)
   | some l=>
    refine b2 h fun e1 h=>b2 h fun h1 h2=>?_
    ·have e1:=de e1
     rw[H.TO.N,List.all_eq_true] at h1
     rw[H.TO.N] at e1
     cases e1
     exact w7 H.B H.R.hd he.val (fun x hx=>K.at (de (h1 x hx))) (de h2) (yL (nt h0) ..) (jx K hv)
 | a e x=>
  refine onAttr_go h fun ra y p h=>b2 h fun e1 h9=>?_
  have e1:=de e1
  rw[H.TO.N] at e1
  cases e1
  exact yf he.val (zdb H.B H.CL (zj H _ _ env ns K h9).val) rfl (zcO ..) (zbn ..)
 | sub a i=>
  exact onSub_go h fun ra ri p h=>b2 h fun h1 h=>b2 h fun h2 h3=>yf he.val (zfc (zj H _ _ env ns K h2).val (zj H _ _ env ns K h3).val) rfl (zaj ..) (jy ..)
 | slice a lo hi=>
  exact onSub_go h fun ra ri p h=>b2 h fun h1 h=>onSl_go h fun l u st q h=>b2 h fun h0 h=>b2 h fun h2 h3=>onOpt_go h0 (fun _=>yf he.val (zcG (zj H _ _ env ns K h1).val (part_of h2 fun r h=>zj H lo r env ns K h) (part_of h3 fun r h=>zj H hi r env ns K h)) rfl (zaj ..) (jy ..)) fun _=>ff
mutual
theorem zeQ (H:Hyp cx k A T)(K:qC env ns):∀ (b:MS) (st:Stmt),okX T ns b st=true->SndX cx k A env b (PySem.exec st env)
 | .expr e=>fun st h=>onE_go h fun re p h=>b2 h fun h1 h2=>zfM (zj H e _ env ns K h2).val (nt h1)
 | .ret e=>fun st h=>onRet_go h fun o p h=>onOpt_go h ff fun re h=>zhU (zj H e _ env ns K h).val
 | .retNone=>fun st h=>onRet_go h fun o p h=>onOpt_go h (fun _=>zbv) fun _=>ff
 | .assign t e=>fun st h=>onAsg_go h fun ts re p h=>onCons_go h fun te r h=>b2 h fun h0 h=>onNil_go h0 <| b2 h fun h1 h2=>zeM H K (zj H e _ env ns K h1) h2
 | .ifs c a b=>fun st h=>onIfS_go h fun rc ra rb p h=>b2 h fun h1 h=>b2 h fun h2 h=>b2 h fun h3 h4=>zkG ((zj H c _ env ns K h2).test h1) (ye H K a _ h3) (ye H K b _ h4)
 | .whiles c b=>fun st h=>onWh_go h fun rc rb re p h=>b2 h fun h0 h=>onNil_go h0 <| b2 h fun h1 h=>b2 h fun h2 h3=>zdl ((zj H c _ env ns K h2).test h1) (ye H K b _ h3)
 | .fors isTup tgt ik its b=>fun st h=>onFor_go h fun te re body els p h=>b2 h fun h0 h=>onNil_go h0 <| zjh (its:=its) H K h fun l h I=>b2 h fun h1 h=>b2 h fun h2 h=>b2 h fun h3 h=>b2 h fun h4 h=>b2 h fun h5 h=>b2 h fun h6 h7=>by
  rw[H.TO.N] at h3 h6
  rw[List.all_eq_true] at h6
  have z:=zK H its _ env ns K h2
  exact zhI H.B K.cells H.R.hd (I (de h1) z.1 z.2) (zdL h3) (fun x hx=>K.bind (h6 x hx)) (zjX h4) (xE h5 env) (ye H K b _ h7)
 | .raise=>fun st h=>zda
theorem ye (H:Hyp cx k A T)(K:qC env ns):∀ (bs:List MS) (sts:List Stmt),okS T ns bs sts=true->SndS cx k A env bs (PySem.execs sts env)
 | []=>fun sts h=>onNil_go h zfk
 | b :: bs=>fun sts h=>onCons_go h fun st sts h=>b2 h fun h1 h2=>zeg (zeQ H K b _ h1) (ye H K bs _ h2)
end
theorem zco {O:Rho}{h:Heap}:∀ {ms:List MV} {vs:List Value},dfltB ms vs=true->zc O h ms vs
 | [],_,e=>onNil_go e .nil
 | _ :: _,_,e=>onCons_go e fun _ _ e=>b2 e fun a b=>.cons (qY a) (zco b)
theorem zf1 {ns:Nms}{y:Str}(h:bindB ns y=true):ns.lookup y=some .local∨ns.lookup y=some .cell:=(Bool.or_eq_true_iff.mp h).imp de de
noncomputable def FnsOk (cx:Cx) (T:Tab):Prop:=∀ f F,cx.P.fn f=some F->fnOk cx.K T (cx.fa f) F=true
theorem zhA {K:Frag}{D:List MV}{d:Value}{G:Prop}(h:vNR d (dfltB D []) (fun t=>onOpt (K.lookup t) false fun o=>onSeq o fun a=>dfltB D a.toList)=true)
  (z:∀ ds,((d=.none/\ds=[])∨∃ T oc od osl n,d=.ref T/\K.lookup T=some ⟨oc,od,.seq ds.toArray n,osl⟩)->dfltB D ds=true->G):G:=
 vNR_go (P:=fun e=>d=e->G) h (fun h e=>z [] (.inl ⟨e,rfl⟩) h) (fun t h e=>onOpt_go (P:=fun o=>K.lookup t=o->G) h ff (fun o h=>onSeq_go (P:=fun o=>K.lookup t=some o->G) h fun c d a n s h e2=>z a.toList (.inr ⟨t,c,d,s,n,e,e2⟩) h) rfl) rfl
theorem zlk {f:Nat}{F:MF}{fd:FuncData}{oc:Value}{od:Option Addr}{osl:Array (Option Value)}(hN:T.N=cx.N)(ho:cx.K.lookup (cx.fa f)=some ⟨oc,od,.func fd,osl⟩)(h:fdOk cx.K T F fd=true){body:List Stmt}(hb:fd.body=.stmts body){G:Prop}(z:∀ ds,FnAt cx f F fd body ds->G):G:=
 b2 h fun h1 h=>b2 h fun h2 h=>b2 h fun h3 h=>b2 h fun h4 h=>b2 h fun h5 h=>b2 h fun h6 h=>b2 h fun h7 h=>b2 h fun h8 h=>b2 h fun h9 h=>b2 h fun h10 h=>b2 h fun h11 h=>b2 h fun h12 h=>b2 h fun h13 h=>b2 h fun h14 h=>b2 h fun h15 h=>zhA h9 fun ds d1 d2=>
  z ds ⟨⟨oc,od,osl,ho⟩,h1,hb,List.isEmpty_iff.mp h2,Option.isNone_iff_eq_none.mp h3,List.isEmpty_iff.mp h4,Option.isNone_iff_eq_none.mp h5,hN ▸ de h6,de h7,d1,fun _ _=>zco d2,de h8,de h10,nt h11,nt h12,de h13,de h14,List.isEmpty_iff.mp h15,fun x hx=>zf1 (hN ▸ List.all_eq_true.mp h x hx)⟩
theorem ziy (B:Base cx)(CL:Cls cx)(TO:TabOk cx T)(FO:FnsOk cx T)(k:Nat):xP cx k:=
 Nat.rec (fun A f vs vals O J s v J' R S r q=>nn q) (fun k ih A f vs vals O J s v J' R S r q=>
  oXG (P:=fun o=>cx.P.fn f=o->_) q (fun q=>nn q) (fun F _ hF=>onOpt_go (P:=fun o=>cx.K.lookup (cx.fa f)=o->_) (FO f F hF) ff (fun o h=>onFun_go (P:=fun o=>cx.K.lookup (cx.fa f)=some o->_) h fun c d fd sl h ho=>b2 h fun h1 h2=>
   FuncBody.casesOn (motive:=fun b=>fd.body=b->@FuncBody.casesOn (fun _=>Bool) b (fun body=>okS T fd.scope.names F.body body) F1=true->_) fd.body (fun body hb h2=>zlk TO.N ho h1 hb fun ds FA=>
    zit B FA hF (fun A env R hs CO=>ye ⟨B,R,ih,CL,TO⟩ ⟨by rw[hs],by rw[hs];exact FA.kind,CO⟩ _ _ h2) R S r q) (fun _ _ h=>ff h) rfl h2) rfl) rfl) k
end
variable{pr:Program}{h:Heap}{re:Expr}{osl:Array (Option Value)}{Q E:Value->Shared->Prop}{l:List Nat}{ts:List Expr}{od:Option Addr}{G:Prop}{f x:Nat}{body:List Stmt}{fd:FuncData}{O:Rho}{s:Shared}{A:Around}
noncomputable def mkCx (pr:Program) (w:World) (K:Frag) (h:Heap):Cx:=⟨pr,w,K,h,nm,Mine.prog,faOf,caOf⟩
noncomputable def isRef (r:Option (Option Value)) (a:Addr):Bool:=decide (r=some (some (.ref a)))
noncomputable def isNone' (r:Option (Option Value)):Bool:=decide (r=some none)
noncomputable def attrOk (K:Frag) (c x:Nat):Bool:=plainGet K (caOf c) (nm x) && (hasDictIn K (caOf c) && (plainOver K (caOf c) && (decide (findIn K (.ref (caOf c)) "__setattr__" = some (some (.builtin "object.__setattr__"))) && isNone' (findIn K (.ref (caOf c)) (nm x)))))
noncomputable def attrsOk (K:Frag):Bool:=attrs.zipIdx.all fun p=>p.1.all fun x=>attrOk K p.2 x
noncomputable def methOk (K:Frag) (c x f:Nat):Bool:=plainGet K (caOf c) (nm x) && (isRef (findIn K (.ref (caOf c)) (nm x)) (faOf f) && (isFn K (.ref (faOf f)) && keepIn K (.ref (faOf f))))
noncomputable def methsOk (K:Frag):Bool:=meths.zipIdx.all fun p=>p.1.all fun q=>methOk K p.2 q.1 q.2
noncomputable def fnsIn (K:Frag):Bool:=fnL.zipIdx.all fun p=>p.1.elem 46 || (decide (p.1≠dbg) && (isRef (nsIn K mainGlobals (toS p.1)) (faOf p.2) && keepIn K (.ref (faOf p.2))))
noncomputable def clsIn' (K:Frag):Bool:=clL.zipIdx.all fun p=>decide (p.1≠dbg) && (isRef (nsIn K mainGlobals (toS p.1)) (caOf p.2) && onOpt (Mine.prog.init p.2) true
 fun f=>keepIn K (.ref (caOf p.2)) && (makesIn K (caOf p.2) && (isRef (findIn K (.ref (caOf p.2)) "__init__") (faOf f) && decide (typeIn K (.ref (faOf f))=some (.type "function")))))
noncomputable def allBi:List Bi:=[.len,.min,.max,.abs,.int,.list,.sorted,.ord,.chr,.str,.all]
noncomputable def bisIn (K:Frag):Bool:=allBi.all fun b=>isNone' (nsIn K mainGlobals (biName b))
noncomputable def kindsIn (K:Frag):Bool:=isNone' (nsIn K mainGlobals "range") && (isNone' (nsIn K mainGlobals "enumerate") && isNone' (nsIn K mainGlobals "zip"))
noncomputable def defsOk (K:Frag):Bool:=fns.zipIdx.all fun p=>fnOk K (tab K) (faOf p.2) p.1
noncomputable def bigOk (K:Frag):Bool:=(K.lookup (faOf 99)).isSome && decide (16<=faOf 99)
theorem zgS:("__debug__" : Str)=toS dbg:=by decide +kernel
theorem za1(h:l≠dbg):(toS l == ("__debug__" : Str))=false:=by
 rw[zgS,beq_eq_false_iff_ne]
 exact fun e=>h (yP e)
theorem zko (b:Bi):b∈allBi:=by cases b <;> repeat (first | exact List.Mem.head _ | apply List.Mem.tail)
theorem zig (b:Bi):bootBuiltins (biName b)=some (bval b):=by cases b <;> rfl
theorem qT {α:Type}{l:List α}{i:Nat}{a:α}{f:α×Nat->Bool}(h:l.zipIdx.all f=true)(e:l[i]?=some a):f (a,i)=true:=List.all_eq_true.mp h _ (List.mem_zipIdx_iff_getElem?.mpr e)
theorem lookup_mem {β:Type}{l:List (Nat×β)}{b:β}(h:l.lookup x=some b):(x,b)∈l:=by
 induction l with
 | nil=>exact nn h
 | cons p r ih=>
  obtain⟨y,c⟩:=p
  rw[List.lookup_cons] at h
  cases e:x == y with
  | true=>rw[e] at h;cases h;rw[beq_iff_eq.mp e];exact .head _
  | false=>rw[e] at h;exact .tail _ (ih h)
theorem zen {K:Frag}(h:methsOk K=true){c:Nat}(e:Mine.prog.meth c x=some f):methOk K c x f=true:=
 (Option.bind_eq_some_iff.mp (show ((meths[c]?).bind fun r=>r.lookup x)=some f from e)).elim fun _ y=>List.all_eq_true.mp (qT h y.1) _ (lookup_mem y.2)
theorem zkQ {K:Frag}{x:Str}{m:MV}(e:conB K x m=true):(x == ("__debug__" : Str))=false/\∃ v,nsIn K mainGlobals x=some (some v)/\constOk m v=true:=
 b2 e fun e1 e2=>⟨by rw[zgS,beq_eq_false_iff_ne];exact de e1,onOpt_go (P:=fun o=>nsIn K mainGlobals x=o->∃ v,nsIn K mainGlobals x=some (some v)/\constOk m v=true) e2 ff (fun o e2=>onOpt_go (P:=fun o=>nsIn K mainGlobals x=some o->∃ v,nsIn K mainGlobals x=some (some v)/\constOk m v=true) e2 ff fun v e2 h=>⟨v,h,e2⟩) rfl⟩
theorem zkD{w:World}{K:Frag}(h1:fnsIn K=true)(h2:clsIn' K=true)(h3:bisIn K=true)(h4:kindsIn K=true)(h5:methsOk K=true):TabOk (mkCx pr w K h) (tab K):=by
 refine b2 h4 fun k1 h4=>b2 h4 fun k2 k3=>⟨rfl,fun x m e=>zkQ e,fun x f e=>?_,fun x c e=>?_,fun b=>⟨de (List.all_eq_true.mp h3 b (zko b)),zig b⟩,⟨de k1,rfl⟩,⟨de k2,rfl⟩,⟨de k3,rfl⟩,fun c x f e=>b2 (zen h5 e) fun _ m=>b2 m fun _ m=>b2 m fun _ m=>m⟩
 ·refine onOpt_go (P:=fun o=>fnL[f]?=o->_) (show fnB x f=true from e) ff (fun l e hl=>b2 e fun e1 e2=>?_) rfl
  rw[show x=toS l from de e2]
  refine (Bool.or_eq_true_iff.mp (qT h1 hl)).elim (fun z=>ff ((nt e1).symm.trans z)) fun z=>b2 z fun z1 z=>b2 z fun z2 z3=>?_
  exact⟨za1 (de z1),de z2,z3⟩
 ·refine onOpt_go (P:=fun o=>clL[c]?=o->_) (show clB x c=true from e) ff (fun l e hl=>onOpt_go (P:=fun o=>Mine.prog.init c=o->_) e ff (fun f e hf=>?_) rfl) rfl
  rw[show x=toS l from de e]
  refine b2 (qT h2 hl) fun z1 z=>b2 z fun z2 z=>?_
  rw[hf] at z
  exact b2 z fun a z=>b2 z fun m z=>b2 z fun i t=>⟨za1 (de z1),de z2,a,f,hf,⟨m,de i,de t⟩⟩
theorem zkg{w:World}{K:Frag}(h5:methsOk K=true)(h6:attrsOk K=true):Cls (mkCx pr w K h):=by
 refine⟨fun c x e=>?_,fun c x f e=>b2 (zen h5 e) fun a m=>b2 m fun b m=>b2 m fun d _=>⟨a,de b,d⟩⟩
 have e:(attrs[c]?).any (fun r=>r.elem x)=true:=e
 cases hr:attrs[c]? with
 | none=>rw[hr] at e;exact ff e
 | some r=>
  rw[hr] at e
  exact b2 (List.all_eq_true.mp (qT h6 hr) x (List.elem_iff.mp e)) fun a m=>b2 m fun b m=>b2 m fun c m=>b2 m fun d e=>⟨a,b,c,de d,de e⟩
theorem zjH{w:World}{K:Frag}(h7:defsOk K=true):FnsOk (mkCx pr w K h) (tab K):=fun f F e=>
 qT h7 (show fns[f]?=some F from e)
theorem zdj:(nmL.all fun l=>decide (l.length < 100))=true:=by decide +kernel
theorem zcZ:nmL.Nodup:=by decide +kernel
theorem zbS (x:Nat):(∃ l,nmL[x]?=some l/\nml x=l/\l.length < 100)∨(nml x).length=x+100:=by
 cases e:nmL[x]? with
 | none=>exact .inr (by unfold nml;rw[e];exact List.length_replicate)
 | some l=>exact .inl ⟨l,rfl,by unfold nml;rw[e];rfl,of_decide_eq_true (List.all_eq_true.mp zdj _ (List.mem_of_getElem? e))⟩
theorem zim {y:Nat}(e:nml x=nml y):x=y:=by
 rcases zbS x with⟨l,a,b,c⟩ | a
 ·rcases zbS y with⟨l',a',b',_⟩ | a'
  ·exact (List.getElem?_inj (List.getElem?_eq_some_iff.mp a).1 zcZ).mp (a.trans ((congrArg some (b.symm.trans (e.trans b'))).trans a'.symm))
  ·rw[<- e,b] at a';exact absurd (a' ▸ c) (Nat.not_lt_of_le (Nat.le_add_left _ _))
 ·rcases zbS y with⟨l',a',b',c'⟩ | a'
  ·rw[e,b'] at a;exact absurd (a ▸ c') (Nat.not_lt_of_le (Nat.le_add_left _ _))
  ·exact Nat.add_right_cancel (a.symm.trans ((congrArg List.length e).trans a'))
theorem zed(h:(nmL.all fun m=>decide (m≠l))=true)(hl:l.length < 100)(x:Nat):nml x≠l:=fun e=>by
 rcases zbS x with⟨m,a,b,c⟩ | a
 ·exact of_decide_eq_true (List.all_eq_true.mp h m (List.mem_of_getElem? a)) (b.symm.trans e)
 ·rw[e] at a;exact absurd (a ▸ hl) (Nat.not_lt_of_le (Nat.le_add_left _ _))
noncomputable def cdict:List Nat:=[95,95,99,108,97,115,115,100,105,99,116,95,95]
noncomputable def dot0:List Nat:=[46,48]
theorem zfr:("__classdict__" : Str)=toS cdict:=by decide +kernel
theorem zh9:(".0" : Str)=toS dot0:=by decide +kernel
theorem zf6{w:World}{K:Frag}(X:K.In h)(hb:bigOk K=true)(g:∃ mg,h.Ns mainGlobals mg)(b:∃ mb,h.Ns builtinsNs mb/\∀ x:Str,x ≠ "__name__" -> mb x=bootBuiltins x) (lim:h.NoLimit):Base (mkCx pr w K h):=by
 have hb:=Bool.and_eq_true_iff.mp hb
 obtain⟨o,ho⟩:=Option.isSome_iff_exists.mp hb.1
 refine⟨?_,X,g,b,lim,fun x y e=>zim (yP e),fun x=>za1 (zed (by decide +kernel) (by decide) x),fun x=>?_,fun x=>?_⟩
 ·have:=Heap.lt_size (X _ _ ho)
  exact Nat.le_trans (de hb.2) (Nat.le_of_lt this)
 ·show (toS (nml x) == ("__classdict__" : Str))=false
  rw[zfr,beq_eq_false_iff_ne]
  exact fun e=>zed (by decide +kernel) (by decide) x (yP e)
 ·show toS (nml x)≠(".0" : Str)
  rw[zh9]
  exact fun e=>zed (by decide +kernel) (by decide) x (yP e)
structure KOk (K:Frag):Prop where
 fns:fnsIn K=true
 cls:clsIn' K=true
 bis:bisIn K=true
 kinds:kindsIn K=true
 meths:methsOk K=true
 attrs:attrsOk K=true
 defs:defsOk K=true
 big:bigOk K=true
theorem zjy{w:World}{K:Frag}(Jjb:KOk K)(X:K.In h)(g:∃ mg,h.Ns mainGlobals mg)(b:∃ mb,h.Ns builtinsNs mb/\∀ x:Str,x ≠ "__name__" -> mb x=bootBuiltins x) (lim:h.NoLimit) (k:Nat):Base (mkCx pr w K h)/\xP (mkCx pr w K h) k:=by
 have B:Base (mkCx pr w K h):=zf6 X Jjb.big g b lim
 exact⟨B,ziy B (zkg Jjb.meths Jjb.attrs) (zkD Jjb.fns Jjb.cls Jjb.bis Jjb.kinds Jjb.meths) (zjH Jjb.defs) k⟩
theorem zfU{vs:List Value}{l:List Int}(r:IntsAre vs l):zc O h (l.map .int) vs:=by
 induction r with
 | nil=>exact .nil
 | cons n t _ ih=>exact .cons (.int n t) ih
theorem whole{w:World}{K:Frag}{a:Addr}{l:List Int}{vs:List Value}{k:Nat}{J':Hp}(Jjb:KOk K)(X:K.In s.heap)(g:∃ mg,s.heap.Ns mainGlobals mg)
  (b:∃ mb,s.heap.Ns builtinsNs mb/\∀ x:Str,x ≠ "__name__" -> mb x=bootBuiltins x) (lim:s.heap.NoLimit) (hl:s.heap.IsList a vs.toArray) (hi:IntsAre vs l) (R:xd A k) (q:callN Mine.prog k f [.ref 0] [.frz l]=some (.bool true,J'))
  (h:∀ h' tk,(∀ b o,s.heap.get? b=some o->h'.get? b=some o)->Q (.bool true) { s with heap:=h',toks:=tk }):wpAny (model pr w) A (PySem.call (.ref (faOf f)) [.ref a]) Q E s:=by
 obtain⟨B,C⟩:=zjy (pr:=pr) (w:=w) (h:=s.heap) Jjb X g b lim k
 have S:Sim (mkCx pr w K s.heap) [(a,a)] [.frz l] s.heap:=by
  refine⟨rfl,fun i o p e1 e2=>?_,fun i j p q e1 e2 ne=>?_,fun i o p e1 e2 nf=>?_,fun _ _ e=>e,Nat.le_refl _⟩
  ·match i,e1,e2 with
   | 0,e1,e2=>
    simp at e1 e2
    subst e1 e2
    exact⟨vs,hl,zfU hi,rfl⟩
   | i+1,e1,e2=>simp at e1
  ·match i,j,e1,e2 with
   | 0,0,_,_=>exact absurd rfl ne
   | i+1,_,e1,_=>simp at e1
   | _,j+1,_,e2=>simp at e2
  ·match i,e1,e2 with
   | 0,e1,e2=>
    simp at e1
    exact absurd e1.symm (nf l)
   | i+1,e1,e2=>simp at e1
 have r:zc [(a,a)] s.heap [.ref 0] [.ref a]:=.cons (.ref (d:=a) rfl) .nil
 refine zek (cx:=mkCx pr w K s.heap) (wpE (C.call R S r q) fun v O' h' tk S' x rv=>?_)
 cases rv
 exact h h' tk S'.base
end Mine
end
section
namespace MineB
open Mine
set_option maxRecDepth 100000
set_option maxHeartbeats 0
variable{W xs T key R tg T' sep tgt:List Nat}{GG:Prop}{body ss:List (List Nat)}{chk ch:List (Nat×Option (List MV))}{V J V' κ Vd:Hp}{f:MV->Hp->Option (List MV×Hp)}{α β:Type}{B c hi N x j a dk y dl dn pc s rl hi' k N' tl kn lo':Nat}{l X all Y L2 it ds acc:List MV}{p ct sv:Int}{o:za}{l':List (Nat×MV)}{m m':Loc}{ps:List (List Nat×List Nat)}{os:List COp}{v:MV}{b':Bool}{g:MV->List MV}{bs:List MS}
inductive Lk {α:Type}(a:α):Type where
 | mk
noncomputable def bd {α β:Type} (f:α->Option β) (_:Lk f) (x:Option α):Option β:=x.bind f
theorem yp(f:α->Option β)(u:Lk f)(a:α):bd f u (some a)=f a:=rfl
noncomputable def retv (r:Option MV×Loc×Hp):Option (MV×Hp):=some (r.1.getD .none,r.2.2)
noncomputable def e0:Loc:=fun _=>.none
theorem zA (m:Loc)(x:Nat)(v:MV)(y:Nat):upd m x v y=if y=x then some v else m y:=rfl
theorem zg8 (m:Loc)(y:Nat):hide [] m y=m y:=rfl
theorem zhn (x:Nat)(xs:List Nat)(m:Loc)(y:Nat):hide (x :: xs) m y=if y=x then .none else hide xs m y:=by
 unfold hide
 by_cases h:y=x
 ·subst h;simp
 ·have:(y == x)=false:=by simp[h]
  simp only[List.elem_cons,this,h,if_false]
theorem zkb (y:Nat):e0 y=.none:=rfl
theorem zdI (b:Bool):truth (.bool b)=some b:=rfl
theorem fst_mk(a:α)(b:β):(a,b).1=a:=rfl
theorem snd_mk(a:α)(b:β):(a,b).2=b:=rfl
noncomputable def vm (o:Option MV) (J:Hp):Option (MV×Hp):=o.bind fun v=>some (v,J)
noncomputable def attrOO (o:Option za) (x:Nat) (J:Hp):Option (MV×Hp):=qI o fun c l=>if prog.attr c x then (lk x l).bind fun v=>some (v,J) else .none
noncomputable def attrO (v:MV) (x:Nat) (J:Hp):Option (MV×Hp):=eR v fun i=>attrOO J[i]? x J
theorem zki (c x:Nat)(l:List (Nat×MV))(J:Hp):attrOO (some (.inst c l)) x J=if prog.attr c x then vm (lk x l) J else .none:=rfl
noncomputable def revO (o:Option za) (J:Hp):Option (MV×Hp):=qL o fun l=>if l.length<=1000000 then some (.ref J.length,J ++ [.list l.reverse]) else .none
noncomputable def revv (v:MV) (J:Hp):Option (MV×Hp):=eR v fun i=>revO J[i]? J
theorem zjB (i:Nat)(J:Hp):revv (.ref i) J=revO J[i]? J:=rfl
theorem zi9 (l:List MV)(J:Hp)(h:l.length<=1000000):revO (some (.list l)) J=some (.ref J.length,J ++ [.list l.reverse]):=if_pos h
noncomputable def negv (v:MV) (J:Hp):Option (MV×Hp):=eI v fun i=>some (.int (-i),J)
noncomputable def notv (v:MV) (J:Hp):Option (MV×Hp):=(truth v).bind fun b=>some (.bool (!b),J)
noncomputable def retI (i:Nat) (q:MV×Hp):Option (MV×Hp):=eN q.1 (some (.ref i,q.2))
section
variable (call:CallT)(m:Loc)(J:Hp)
theorem zjL (x:Nat):evalE prog call (.v x) m J=vm (m x) J:=rfl
theorem zku (e:ME):evalE prog call (.not e) m J=bd (fun p=>notv p.1 p.2) .mk (evalE prog call e m J):=rfl
theorem zj8 (e:ME):evalE prog call (.neg e) m J=bd (fun p=>negv p.1 p.2) .mk (evalE prog call e m J):=rfl
theorem zky (o:BOp)(a b:ME):evalE prog call (.o o a b) m J=bd (fun p=>bd (fun q=>binop o p.1 q.1 q.2) .mk (evalE prog call b m p.2)) .mk (evalE prog call a m J):=rfl
theorem zjQ (a:ME)(ops:List COp)(es:List ME):evalE prog call (.cmp a ops es) m J=bd (fun p=>evalCmp prog call p.1 ops es m p.2) .mk (evalE prog call a m J):=rfl
theorem zjb (c a b:ME):evalE prog call (.ite c a b) m J=bd (fun p=>bd (fun t=>if t then evalE prog call a m p.2 else evalE prog call b m p.2) .mk (truth p.1)) .mk (evalE prog call c m J):=rfl
theorem zhs (es:List ME):evalE prog call (.list es) m J=bd (fun p=>some (.ref p.2.length,p.2 ++ [.list p.1])) .mk (evalL prog call es m J):=rfl
theorem zjo (es:List ME):evalE prog call (.tup es) m J=bd (fun p=>some (.tup p.1,p.2)) .mk (evalL prog call es m J):=rfl
theorem zhG (ks:List MV)(vs:List ME):evalE prog call (.dict ks vs) m J=bd (fun p=>bd (fun d=>some (.ref p.2.length,p.2 ++ [.dict d])) .mk (mkDict ks p.1 [])) .mk (evalL prog call vs m J):=rfl
theorem zkB (d:List (MV×MV)):mkDict [] [] d=some d:=rfl
theorem zlc (k v:MV)(ks vs:List MV)(d:List (MV×MV)):mkDict (k :: ks) (v :: vs) d=if keyFits k d then mkDict ks vs (dst k v d) else .none:=rfl
theorem ziJ (e:ME)(x:Nat):evalE prog call (.a e x) m J=bd (fun p=>attrO p.1 x p.2) .mk (evalE prog call e m J):=rfl
theorem zkf (e i:ME):evalE prog call (.sub e i) m J=bd (fun p=>bd (fun q=>vm (subGet p.1 q.1 q.2) q.2) .mk (evalE prog call i m p.2)) .mk (evalE prog call e m J):=rfl
theorem zgi (e lo hi:ME):evalE prog call (.slice e lo hi) m J=bd (fun p=>bd (fun q=>bd (fun r=>sliceGet p.1 q.1 r.1 r.2) .mk (evalE prog call hi m q.2)) .mk (evalE prog call lo m p.2)) .mk (evalE prog call e m J):=rfl
theorem zkF (e:ME):evalE prog call (.rev e) m J=bd (fun p=>revv p.1 p.2) .mk (evalE prog call e m J):=rfl
theorem zf4 (f:Nat)(args:List ME):evalE prog call (.f f args) m J=bd (fun p=>call f p.1 p.2) .mk (evalL prog call args m J):=rfl
noncomputable def initX (call:CallT) (c:Nat) (vs:List MV) (J:Hp) (a:Option Nat):Option (MV×Hp):=a.bind fun f=>(call f (.ref J.length :: vs) (J ++ [.inst c []])).bind fun q=>eN q.1 (some (.ref J.length,q.2))
theorem zkz (c f:Nat)(vs:List MV):initX call c vs J (some f)=bd (retI J.length) .mk (call f (.ref J.length :: vs) (J ++ [.inst c []])):=rfl
theorem zft (c:Nat)(args:List ME):evalE prog call (.c c args) m J=bd (fun p=>initX call c p.1 p.2 (prog.init c)) .mk (evalL prog call args m J):=rfl
theorem zgm (b:Bi)(args:List ME):evalE prog call (.b b args) m J=bd (fun p=>Mine.callB b p.1 p.2) .mk (evalL prog call args m J):=rfl
noncomputable def methOO (call:CallT) (m:Loc) (i x:Nat) (args:List ME) (o:Option za) (J:Hp):Option (MV×Hp):=qI o fun c l=>(prog.meth c x).bind fun f=>oX (lk x l) ((evalL prog call args m J).bind fun q=>call f (.ref i :: q.1) q.2) fun _=>.none
noncomputable def methO (call:CallT) (m:Loc) (x:Nat) (args:List ME) (v:MV) (J:Hp):Option (MV×Hp):=eR v fun i=>methOO call m i x args J[i]? J
noncomputable def methX (call:CallT) (m:Loc) (i:Nat) (args:List ME) (J:Hp) (a:Option Nat) (b:Option MV):Option (MV×Hp):=a.bind fun f=>oX b ((evalL prog call args m J).bind fun q=>call f (.ref i :: q.1) q.2) fun _=>.none
theorem zgL (i x c:Nat)(args:List ME)(l:List (Nat×MV)):methOO call m i x args (some (.inst c l)) J=methX call m i args J (prog.meth c x) (lk x l):=rfl
theorem zha (i f:Nat)(args:List ME):methX call m i args J (some f) .none=bd (fun q=>call f (.ref i :: q.1) q.2) .mk (evalL prog call args m J):=rfl
theorem zie (e:ME)(x:Nat)(args:List ME):evalE prog call (.m e x args) m J=bd (fun p=>methO call m x args p.1 p.2) .mk (evalE prog call e m J):=rfl
theorem zgs (e:ME)(b:Mb)(args:List ME):evalE prog call (.n e b args) m J=bd (fun p=>bd (fun q=>if tyOf p.1 p.2 == tyOf p.1 q.2 then Mine.methB b p.1 q.1 q.2 else .none) .mk (evalL prog call args m p.2)) .mk (evalE prog call e m J):=rfl
theorem zmb (s:List Nat)(V:Hp):tyOf (.str s) V=1:=rfl
theorem zmq (i:Nat)(V:Hp):tyOf (.ref i) V=tyO V[i]?:=rfl
theorem zmu (l:List MV):tyO (some (.list l))=2:=rfl
theorem zmh (l:List (MV×MV)):tyO (some (.dict l))=3:=rfl
theorem zlO (e:ME)(r:List ME):evalL prog call (e :: r) m J=bd (fun p=>bd (fun q=>some (p.1 :: q.1,q.2)) .mk (evalL prog call r m p.2)) .mk (evalE prog call e m J):=rfl
theorem zlB (e:ME):evalAnd prog call [e] m J=bd (fun p=>bd (fun _=>some p) .mk (truth p.1)) .mk (evalE prog call e m J):=rfl
theorem zlT (e e':ME)(r:List ME):evalAnd prog call (e :: e' :: r) m J=bd (fun p=>bd (fun t=>if t then evalAnd prog call (e' :: r) m p.2 else some p) .mk (truth p.1)) .mk (evalE prog call e m J):=rfl
theorem zlj (e:ME):evalOr prog call [e] m J=bd (fun p=>bd (fun _=>some p) .mk (truth p.1)) .mk (evalE prog call e m J):=rfl
theorem zlV (e e':ME)(r:List ME):evalOr prog call (e :: e' :: r) m J=bd (fun p=>bd (fun t=>if t then some p else evalOr prog call (e' :: r) m p.2) .mk (truth p.1)) .mk (evalE prog call e m J):=rfl
noncomputable def btv (J:Hp) (t:Bool):Option (MV×Hp):=some (.bool t,J)
theorem zlD (a:MV)(o:COp)(e:ME):evalCmp prog call a [o] [e] m J=bd (fun p=>bd (btv p.2) .mk (cmpop o a p.1 p.2)) .mk (evalE prog call e m J):=rfl
theorem zlQ (a:MV)(o o':COp)(os:List COp)(e e':ME)(r:List ME):evalCmp prog call a (o :: o' :: os) (e :: e' :: r) m J=bd (fun p=>bd (fun t=>if t then evalCmp prog call p.1 (o' :: os) (e' :: r) m p.2 else some (.bool false,p.2)) .mk (cmpop o a p.1 p.2)) .mk (evalE prog call e m J):=rfl
theorem zlx:evalAll prog call [] m J=some (true,J):=rfl
theorem zlN (e:ME)(r:List ME):evalAll prog call (e :: r) m J=bd (fun p=>bd (fun t=>if t then evalAll prog call r m p.2 else some (false,p.2)) .mk (truth p.1)) .mk (evalE prog call e m J):=rfl
noncomputable def stm (m:Loc) (x:Option Hp):Option (Loc×Hp):=x.bind fun J'=>some (m,J')
noncomputable def stb (V:Hp) (x:Option Loc):Option (Loc×Hp):=x.bind fun m'=>some (m',V)
theorem zll (xs:List Nat)(vs:List MV):store prog call (.tup xs) (.tup vs) m J=stb J (bindV xs vs m):=rfl
theorem zlq (e:ME)(x:Nat)(v:MV):store prog call (.a e x) v m J=bd (fun p=>stm m (setAttr prog p.1 x v p.2)) .mk (evalE prog call e m J):=rfl
theorem zld (e i:ME)(v:MV):store prog call (.sub e i) v m J=bd (fun p=>bd (fun q=>stm m (setSub p.1 q.1 v q.2)) .mk (evalE prog call i m p.2)) .mk (evalE prog call e m J):=rfl
theorem zlR (e lo hi:ME)(v:MV):store prog call (.slice e lo hi) v m J=bd (fun p=>bd (fun q=>bd (fun r=>stm m (setSlice p.1 q.1 r.1 v r.2)) .mk (evalE prog call hi m q.2)) .mk (evalE prog call lo m p.2)) .mk (evalE prog call e m J):=rfl
theorem zly:bindV [] [] m=some m:=rfl
theorem zlo (x:Nat)(xs:List Nat)(v:MV)(vs:List MV):bindV (x :: xs) (v :: vs) m=bindV xs vs (upd m x v):=rfl
theorem zgO (x:Nat)(v:MV):bindT false [x] v m=some (upd m x v):=rfl
theorem zlU (xs:List Nat)(vs:List MV):bindT true xs (.tup vs) m=bindV xs vs m:=rfl
theorem zmE (e:ME):exec prog call (.expr e) m J=bd (fun p=>some (.none,m,p.2)) .mk (evalE prog call e m J):=rfl
theorem zmy (e:ME):exec prog call (.ret e) m J=bd (fun p=>some (some p.1,m,p.2)) .mk (evalE prog call e m J):=rfl
theorem zjz (t:MT)(e:ME):exec prog call (.assign t e) m J=bd (fun p=>bd (fun q=>some (.none,q.1,q.2)) .mk (store prog call t p.1 m p.2)) .mk (evalE prog call e m J):=rfl
theorem zmg (c:ME)(a b:List MS):exec prog call (.ifs c a b) m J=bd (fun p=>bd (fun t=>if t then execs prog call a m p.2 else execs prog call b m p.2) .mk (truth p.1)) .mk (evalE prog call c m J):=rfl
theorem zm9 (isTup:Bool)(tgt:List Nat)(ik:IK)(its:List ME)(b:List MS):exec prog call (.fors isTup tgt ik its b) m J=bd (fun p=>bd (fun q=>forL q.2.1 isTup tgt (execs prog call b) q.1 m q.2.2) .mk (iterOf ik p.1 p.2)) .mk (evalL prog call its m J):=rfl
noncomputable def andThen (call:CallT) (r:List MS) (p:Option MV×Loc×Hp):Res:=oX p.1 (execs prog call r p.2.1 p.2.2) fun v=>some (some v,p.2)
theorem yQ (s:MS)(r:List MS):execs prog call (s :: r) m J=bd (andThen call r) .mk (exec prog call s m J):=rfl
end
theorem zl0 (k:Nat)(a0 a1 a2 a3 a4 a5:MV)(J:Hp):callN prog (k+1) 39 [a0,a1,a2,a3,a4,a5] J=bd retv .mk (execs prog (callN prog k) f39.body (upd (upd (upd (upd (upd (upd e0 63 a5) 62 a4) 65 a3) 18 a2) 2 a1) 60 a0) J):=rfl
theorem zh4 (k:Nat)(a0 a1 a2 a3 a4:MV)(J:Hp):callN prog (k+1) 39 [a0,a1,a2,a3,a4] J=bd retv .mk (execs prog (callN prog k) f39.body (upd (upd (upd (upd (upd (upd e0 63 (.bool false)) 62 a4) 65 a3) 18 a2) 2 a1) 60 a0) J):=rfl
theorem zlK (k:Nat)(a0 a1 a2 a3 a4 a5:MV)(J:Hp):callN prog (k+1) 40 [a0,a1,a2,a3,a4,a5] J=bd retv .mk (execs prog (callN prog k) f40.body (upd (upd (upd (upd (upd (upd e0 63 a5) 62 a4) 65 a3) 18 a2) 2 a1) 60 a0) J):=rfl
theorem zhL (k:Nat)(a0 a1 a2 a3 a4:MV)(J:Hp):callN prog (k+1) 40 [a0,a1,a2,a3,a4] J=bd retv .mk (execs prog (callN prog k) f40.body (upd (upd (upd (upd (upd (upd e0 63 (.bool false)) 62 a4) 65 a3) 18 a2) 2 a1) 60 a0) J):=rfl
theorem zli (k:Nat)(a0:MV)(J:Hp):callN prog (k+1) 99 [a0] J=bd retv .mk (execs prog (callN prog k) f99.body (upd e0 111 a0) J):=rfl
theorem zlw:prog.attr 0 9=true:=rfl
theorem in1:prog.init 1=some 8:=rfl
theorem zeq (x y:Int)(J:Hp):binop .add (.int x) (.int y) J=some (.int (x+y),J):=rfl
theorem zd4 (x y:Int)(J:Hp):binop .sub (.int x) (.int y) J=some (.int (x - y),J):=rfl
theorem yj (x y:Int)(J:Hp)(h:y≠0):binop .mod (.int x) (.int y) J=some (.int (x.fmod y),J):=if_pos h
theorem zbQ (x y:Int)(J:Hp)(h:0 < y/\y < 2000000):binop .fdiv (.int x) (.int y) J=some (.int (x.fdiv y),J):=if_pos (by simp only[Bool.and_eq_true,decide_eq_true_eq];exact h)
noncomputable def addO (a b:Option za) (J:Hp):Option (MV×Hp):=qL a fun x=>qL b fun y=>if x.length+y.length<=1000000 then some (.ref J.length,J ++ [.list (x ++ y)]) else .none
theorem zhV (i j:Nat)(J:Hp):binop .add (.ref i) (.ref j) J=addO J[i]? J[j]? J:=rfl
theorem zhx (x y:List MV)(J:Hp)(h:x.length+y.length<=1000000):addO (some (.list x)) (some (.list y)) J=some (.ref J.length,J ++ [.list (x ++ y)]):=if_pos h
noncomputable def repO (a:Option za) (n:Int) (J:Hp):Option (MV×Hp):=qL a fun l=>a1 l fun v=>if decide (0<=n) && decide (n<=1000000) then some (.ref J.length,J ++ [.list (List.replicate n.toNat v)]) else .none
theorem zix (i:Nat)(n:Int)(J:Hp):binop .mul (.ref i) (.int n) J=repO J[i]? n J:=rfl
theorem zil (v:MV)(n:Int)(J:Hp)(h:0<=n)(h':n<=1000000):repO (some (.list [v])) n J=some (.ref J.length,J ++ [.list (List.replicate n.toNat v)]):=if_pos (by simp only[Bool.and_eq_true,decide_eq_true_eq];exact⟨h,h'⟩)
theorem zgx (x y:Int)(J:Hp):cmpop .lt (.int x) (.int y) J=some (decide (x < y)):=rfl
theorem zgQ (x y:Int)(J:Hp):cmpop .le (.int x) (.int y) J=some (decide (x<=y)):=rfl
theorem cmp_gt (x y:Int)(J:Hp):cmpop .gt (.int x) (.int y) J=some (decide (y < x)):=rfl
theorem zg2 (x y:Int)(J:Hp):cmpop .ge (.int x) (.int y) J=some (decide (y<=x)):=rfl
theorem zdC (x y:Int)(J:Hp):cmpop .eq (.int x) (.int y) J=some (decide (x=y)):=rfl
theorem zdE (x y:Int)(J:Hp):cmpop .ne (.int x) (.int y) J=some (!decide (x=y)):=rfl
theorem zc8 (x y:List Nat)(J:Hp):cmpop .eq (.str x) (.str y) J=some (x == y):=rfl
theorem zew (x y:List Nat)(J:Hp):cmpop .ne (.str x) (.str y) J=some (!(x == y)):=rfl
theorem zdX (x y:Bool)(J:Hp):cmpop .eq (.bool x) (.bool y) J=some (x == y):=rfl
theorem zd2 (x y:Bool)(J:Hp):cmpop .ne (.bool x) (.bool y) J=some (!(x == y)):=rfl
theorem zdH (J:Hp):cmpop .is .none .none J=some true:=rfl
theorem zdM (a:Nat)(J:Hp):cmpop .is (.ref a) .none J=some false:=rfl
theorem zeZ (a:List MV)(J:Hp):cmpop .is (.tup a) .none J=some false:=rfl
theorem zdz (a:List Nat)(J:Hp):cmpop .is (.str a) .none J=some false:=rfl
theorem zdK (J:Hp):cmpop .isNot .none .none J=some false:=rfl
theorem zdT (a:Nat)(J:Hp):cmpop .isNot (.ref a) .none J=some true:=rfl
theorem zef (a:List Nat)(J:Hp):cmpop .isNot (.str a) .none J=some true:=rfl
theorem zb5 (b:Bool)(J:Hp):cmpop .isNot (.bool b) (.bool true) J=some (!b):=by cases b <;> rfl
theorem zgC (a b:MV)(J:Hp):cmpop .isIn a b J=isIn a b J:=rfl
theorem zar (a b:MV)(J:Hp):cmpop .yh a b J=(isIn a b J).bind fun t=>some (!t):=rfl
theorem zg3 (c:Nat)(s:List Nat)(J:Hp):isIn (.str [c]) (.str s) J=some (s.elem c):=rfl
noncomputable def lenO (o:Option za) (J:Hp):Option (MV×Hp):=qL o fun l=>if l.length<=1000000 then some (.int (l.length:Int),J) else .none
theorem je (i:Nat)(J:Hp):Mine.callB .len [.ref i] J=lenO J[i]? J:=rfl
theorem jc (l:List MV)(J:Hp)(hl:l.length<=1000000):lenO (some (.list l)) J=some (.int (l.length:Int),J):=if_pos hl
noncomputable def listO (o:Option za) (J:Hp):Option (MV×Hp):=qLD o (fun l=>if l.length<=1000000 then some (.ref J.length,J ++ [.list l]) else .none) (fun l=>if l.length<=1000000 then some (.ref J.length,J ++ [.list (l.map (·.1))]) else .none)
theorem zgZ (i:Nat)(J:Hp):Mine.callB .list [.ref i] J=listO J[i]? J:=rfl
theorem zgP (l:List MV)(J:Hp)(hl:l.length<=1000000):listO (some (.list l)) J=some (.ref J.length,J ++ [.list l]):=if_pos hl
theorem zeJ (l:List (MV×MV))(J:Hp)(hl:l.length<=1000000):listO (some (.dict l)) J=some (.ref J.length,J ++ [.list (l.map (·.1))]):=if_pos hl
noncomputable def sortO (o:Option za) (J:Hp):Option (MV×Hp):=qLD o (fun l=>if l.all isRow && decide (l.length<=16) then (sortRows l).bind fun r=>some (.ref J.length,J ++ [.list r]) else .none) (fun l=>aN l (some (.ref J.length,J ++ [.list []])))
theorem zbY (i:Nat)(J:Hp):Mine.callB .sorted [.ref i] J=sortO J[i]? J:=rfl
theorem zc2 (J:Hp):sortO (some (.dict [])) J=some (.ref J.length,J ++ [.list []]):=rfl
theorem zjr (a b:Int)(J:Hp):Mine.callB .min [.int a,.int b] J=some (.int (if b < a then b else a),J):=rfl
theorem zjl (a b:Int)(J:Hp):Mine.callB .max [.int a,.int b] J=some (.int (if a < b then b else a),J):=rfl
theorem zj9 (a:Int)(J:Hp):Mine.callB .abs [.int a] J=some (.int (a.natAbs:Int),J):=rfl
theorem zkc (a:Int)(J:Hp):Mine.callB .int [.int a] J=some (.int a,J):=rfl
theorem zke (a:Bool)(J:Hp):Mine.callB .int [.bool a] J=some (.int (if a then 1 else 0),J):=rfl
theorem zi0 (c:Nat)(J:Hp):Mine.callB .ord [.str [c]] J=some (.int (c:Int),J):=rfl
noncomputable def subO (o:Option za) (k:MV):Option MV:=qLD o (fun l=>subL l k) fun l=>if keyFits k l then dlk k l else .none
theorem zjj (j:Nat)(k:MV)(J:Hp):subGet (.ref j) k J=subO J[j]? k:=rfl
theorem ziT (l:List MV)(k:Int)(h:0<=k/\k < 1000000000):subO (some (.list l)) (.int k)=l[k.toNat]?:=if_pos h
theorem zg0 (l:List (MV×MV))(k:MV):subO (some (.dict l)) k=if keyFits k l then dlk k l else .none:=rfl
noncomputable def sliceO (o:Option za) (lo hi:MV) (J:Hp):Option (MV×Hp):=(qLF o some fun f=>some (f.map .int):Option (List MV)).bind fun s=>if s.length<=1000000 then (bnd s.length 0 lo).bind fun l=>(bnd s.length s.length hi).bind fun h=>some (.ref J.length,J ++ [.list ((s.take h).drop l)]) else .none
theorem jY (j:Nat)(lo hi:MV)(J:Hp):sliceGet (.ref j) lo hi J=sliceO J[j]? lo hi J:=rfl
theorem zhY (l:List MV)(p q:Nat):(l.take (min q l.length)).drop (min p l.length)=(l.take q).drop p:=by
 rw[<- List.take_eq_take_min]
 by_cases c:p<=l.length
 ·rw[Nat.min_eq_left c]
 ·have c:=Nat.le_of_not_le c
  rw[Nat.min_eq_right c,List.drop_eq_nil_of_le (List.length_take_le' _ _),List.drop_eq_nil_of_le (Nat.le_trans (List.length_take_le' _ _) c)]
theorem za7 (l:List MV)(p q:Int)(J:Hp)(hl:l.length<=1000000)(hp:0<=p)(hq:0<=q):
  sliceO (some (.list l)) (.int p) (.int q) J=some (.ref J.length,J ++ [.list ((l.take q.toNat).drop p.toNat)]):=by
 show (if l.length<=1000000 then (if 0<=p then some (min p.toNat l.length) else none:Option Nat).bind fun a=>(if 0<=q then some (min q.toNat l.length) else none:Option Nat).bind fun h=>some (MV.ref J.length,J ++ [za.list ((l.take h).drop a)]) else none)=_
 rw[if_pos hl,if_pos hp,if_pos hq,Option.bind_some,Option.bind_some,zhY]
theorem xn (l:List MV)(q:Int)(J:Hp)(hl:l.length<=1000000)(hq:0<=q):
  sliceO (some (.list l)) .none (.int q) J=some (.ref J.length,J ++ [.list (l.take q.toNat)]):=by
 have:=zhY l 0 q.toNat
 simp only[Nat.zero_min,List.drop_zero] at this
 show (if l.length<=1000000 then (if 0<=q then some (min q.toNat l.length) else none:Option Nat).bind fun h=>some (MV.ref J.length,J ++ [za.list ((l.take h).drop 0)]) else none)=_
 rw[if_pos hl,if_pos hq,Option.bind_some,List.drop_zero,this]
theorem zb1 (l:List MV)(p:Int)(J:Hp)(hl:l.length<=1000000)(hp:0<=p):
  sliceO (some (.list l)) (.int p) .none J=some (.ref J.length,J ++ [.list (l.drop p.toNat)]):=by
 have:=zhY l p.toNat l.length
 simp only[Nat.min_self,List.take_length] at this
 show (if l.length<=1000000 then (if 0<=p then some (min p.toNat l.length) else none:Option Nat).bind fun a=>some (MV.ref J.length,J ++ [za.list ((l.take l.length).drop a)]) else none)=_
 rw[if_pos hl,if_pos hp,Option.bind_some,List.take_length,this]
noncomputable def setSliceO (a b:Option za) (j:Nat) (p q:Int) (d:Bool) (J:Hp):Option Hp:=qL a fun l=>qL b fun w=>if decide (0<=p) && decide (p<=q) && decide (q.toNat<=l.length) && d && decide (l.length+w.length<=1000000) then some (J.set j (.list (l.take p.toNat ++ w ++ l.drop q.toNat))) else .none
theorem xG (j k:Nat)(p q:Int)(J:Hp):setSlice (.ref j) (.int p) (.int q) (.ref k) J=setSliceO J[j]? J[k]? j p q (decide (j≠k)) J:=rfl
theorem xN (l w:List MV)(j:Nat)(p q:Int)(J:Hp)(hp:0<=p)(hpq:p<=q)(hq:q<=l.length)(hs:l.length+w.length<=1000000):
  setSliceO (some (.list l)) (some (.list w)) j p q true J=some (J.set j (.list (l.take p.toNat ++ w ++ l.drop q.toNat))):=by
 exact if_pos (by rw[decide_eq_true hp,decide_eq_true hpq,decide_eq_true (Int.toNat_le.mpr hq),decide_eq_true hs];rfl)
noncomputable def setAttrO (o:Option za) (i x:Nat) (v:MV) (J:Hp):Option Hp:=qI o fun c l=>if prog.attr c x && decide (l.length<=100) then some (J.set i (.inst c (st x v l))) else .none
theorem zW (i x:Nat)(v:MV)(J:Hp):setAttr prog (.ref i) x v J=setAttrO J[i]? i x v J:=rfl
theorem wI (c i x:Nat)(v:MV)(l:List (Nat×MV))(J:Hp):setAttrO (some (.inst c l)) i x v J=if prog.attr c x=true/\l.length<=100 then some (J.set i (.inst c (st x v l))) else .none:=by
 show (if prog.attr c x && decide (l.length<=100) then some (J.set i (.inst c (st x v l))) else none)=_
 simp only[Bool.and_eq_true,decide_eq_true_eq]
noncomputable def setSubO (o:Option za) (j:Nat) (i v:MV) (J:Hp):Option Hp:=qLD o (fun l=>eI i fun k=>if decide (0<=k) && decide (k.toNat < l.length) && decide (k < 1000000000) then some (J.set j (.list (l.set k.toNat v))) else .none) (fun l=>if keyFits i l && decide (l.length<=1000000) then some (J.set j (.dict (dst i v l))) else .none)
theorem zbz (j:Nat)(i v:MV)(J:Hp):setSub (.ref j) i v J=setSubO J[j]? j i v J:=rfl
theorem zaR (l:List (MV×MV))(j:Nat)(i v:MV)(J:Hp):setSubO (some (.dict l)) j i v J=if keyFits i l && decide (l.length<=1000000) then some (J.set j (.dict (dst i v l))) else .none:=rfl
noncomputable def appO (o:Option za) (i:Nat) (v:MV) (J:Hp):Option (MV×Hp):=qL o fun l=>if l.length<=1000000 then some (.none,J.set i (.list (l ++ [v]))) else .none
theorem zji (i:Nat)(v:MV)(J:Hp):Mine.methB .append (.ref i) [v] J=appO J[i]? i v J:=rfl
theorem zkv (l:List MV)(i:Nat)(v:MV)(J:Hp)(hl:l.length<=1000000):appO (some (.list l)) i v J=some (.none,J.set i (.list (l ++ [v]))):=if_pos hl
noncomputable def extO (a b:Option za) (i j:Nat) (J:Hp):Option (MV×Hp):=qL a fun l=>qL b fun q=>if i≠j/\l.length+q.length<=1000000 then some (.none,J.set i (.list (l ++ q))) else .none
theorem zjt (i j:Nat)(J:Hp):Mine.methB .extend (.ref i) [.ref j] J=extO J[i]? J[j]? i j J:=rfl
theorem zj0 (l q:List MV)(i j:Nat)(J:Hp)(hij:i≠j)(hl:l.length+q.length<=1000000):extO (some (.list l)) (some (.list q)) i j J=some (.none,J.set i (.list (l ++ q))):=if_pos ⟨hij,hl⟩
noncomputable def popO (o:Option za) (i:Nat) (J:Hp):Option (MV×Hp):=qL o fun l=>if l.length<=1000000 then l.getLast?.bind fun v=>some (v,J.set i (.list l.dropLast)) else .none
theorem zj3 (i:Nat)(J:Hp):Mine.methB .pop (.ref i) [] J=popO J[i]? i J:=rfl
theorem zhF (l:List MV)(v:MV)(i:Nat)(J:Hp)(hl:l.length < 1000000):popO (some (.list (l ++ [v]))) i J=some (v,J.set i (.list l)):=by
 show (if (l ++ [v]).length<=1000000 then (l ++ [v]).getLast?.bind fun w=>some (w,J.set i (.list (l ++ [v]).dropLast)) else none)=_
 rw[if_pos (by simp;lia),List.getLast?_concat,Option.bind_some,List.dropLast_concat]
noncomputable def popK (o:Option za) (i:Nat) (k:MV) (J:Hp):Option (MV×Hp):=qD o fun l=>if keyFits k l && decide (l.length<=1000000) then (dlk k l).bind fun v=>some (v,J.set i (.dict (ddel k l))) else .none
theorem zhi (i:Nat)(k:MV)(J:Hp):Mine.methB .pop (.ref i) [k] J=popK J[i]? i k J:=rfl
noncomputable def popD (o:Option za) (i:Nat) (k:MV) (J:Hp):Option (MV×Hp):=qD o fun l=>if keyFits k l && decide (l.length<=1000000) then oX (dlk k l) (some (.none,J)) fun v=>some (v,J.set i (.dict (ddel k l))) else .none
theorem zcc (i:Nat)(k:MV)(J:Hp):Mine.methB .pop (.ref i) [k,.none] J=popD J[i]? i k J:=rfl
noncomputable def zkV (o:Option za) (k:MV) (J:Hp):Option (MV×Hp):=qD o fun l=>if keyFits k l then some ((dlk k l).getD .none,J) else .none
theorem zkh (i:Nat)(k:MV)(J:Hp):Mine.methB .get (.ref i) [k,.none] J=zkV J[i]? k J:=rfl
theorem zjT (l:List (MV×MV))(k:MV)(J:Hp):zkV (some (.dict l)) k J=if keyFits k l then some ((dlk k l).getD .none,J) else .none:=rfl
theorem zmt (x:Nat):lk x []=.none:=rfl
theorem zl8 (x y:Nat)(v:MV)(r:List (Nat×MV)):lk x ((y,v) :: r)=if y=x then some v else lk x r:=rfl
theorem zmn (x:Nat)(v:MV):st x v []=[(x,v)]:=rfl
theorem zmk (x y:Nat)(v w:MV)(r:List (Nat×MV)):st x v ((y,w) :: r)=if y=x then (y,v) :: r else (y,w) :: st x v r:=rfl
theorem zf{i:Nat}(q:Hp)(h:J[i]?=some o):(J ++ q)[i]?=some o:=by
 rw[List.getElem?_append_left (List.getElem?_eq_some_iff.mp h).1];exact h
theorem zm (J:Hp)(o:za):(J ++ [o])[J.length]?=some o:=by simp
theorem zg{i:Nat}(h:J[i]?=some o):i < J.length:=(List.getElem?_eq_some_iff.mp h).1
theorem get_set{i:Nat}(o':za)(h:J[i]?=some o):(J.set i o')[i]?=some o':=List.getElem?_set_self (zg h)
theorem zb{i:Nat}(o':za)(h:i≠j):(J.set i o')[j]?=J[j]?:=List.getElem?_set_ne h
theorem qj {q:Hp}{i:Nat}(h:i < J.length):(J ++ q)[i]?=J[i]?:=List.getElem?_append_left h
theorem yd{i:Nat}(h:i=J.length):(J ++ [o])[i]?=some o:=by subst h;simp
theorem zaT{i:Nat}(h:i < J.length):(J.set i o)[i]?=some o:=List.getElem?_set_self h
theorem zl9{i:Nat}(h:i≠j):(J.set i o)[j]?=J[j]?:=List.getElem?_set_ne h
theorem set_set (J:Hp)(i:Nat)(o p:za):(J.set i o).set i p=J.set i p:=by simp
theorem zeO {p:Prop}[Decidable p](h:p):decide p=true:=decide_eq_true h
theorem zlI {p:Prop}[Decidable p](h:¬p):decide p=false:=decide_eq_false h
noncomputable def Upd (lo hi:Nat) (J V:Hp):Prop:=J.length<=V.length/\∀ j,j < J.length->(j < lo∨hi<=j)->V[j]?=J[j]?
theorem zdc (b:Bool){P:Prop}(t:b=true->P)(f:b=false->P):P:=(Bool.eq_false_or_eq_true b).elim t f
theorem apart {i lo:Nat}(d:hi'<=lo∨hi<=lo')(h1:lo<=i)(h2:i < hi):i < lo'∨hi'<=i:=d.elim (fun d=>.inr (Nat.le_trans d h1)) fun d=>.inl (Nat.lt_of_lt_of_le h2 d)
theorem Upd.refl (lo hi:Nat)(J:Hp):Upd lo hi J J:=⟨Nat.le_refl _,fun _ _ _=>rfl⟩
theorem Upd.trans {lo:Nat}(a:Upd lo hi J V)(b:Upd lo hi V κ):Upd lo hi J κ:=
 ⟨Nat.le_trans a.1 b.1,fun j h o=>(b.2 j (Nat.lt_of_lt_of_le h a.1) o).trans (a.2 j h o)⟩
theorem Upd.app (lo hi:Nat)(J q:Hp):Upd lo hi J (J ++ q):=⟨by simp,fun j h _=>List.getElem?_append_left h⟩
theorem Upd.set {lo i:Nat}(J:Hp)(o:za)(h:lo<=i/\i < hi):Upd lo hi J (J.set i o):=⟨Nat.le_of_eq List.length_set.symm,fun j _ c=>zb o fun e=>c.elim (fun z=>Nat.not_lt_of_le h.1 (e ▸ z)) fun z=>Nat.not_le_of_lt h.2 (e ▸ z)⟩
theorem mod2 {i:Nat}(h:i % 2=1):(i+2) % 2=1:=(Nat.add_mod_right i 2).trans h
theorem zmR {n r:Nat}(h:r+1+1<=n):n - 2 < n:=Nat.sub_lt (Nat.lt_of_lt_of_le (Nat.succ_pos _) h) (by decide)
theorem ls2 {n r:Nat}(h:r+1+1<=n):r<=n - 2:=Nat.le_sub_of_add_le h
theorem rB {lo n r:Nat}(d:hi<=B∨B+14<=lo)(l:B+13 < n)(h:(lo<=r/\r < hi)∨n<=r):r < B∨B+14<=r:=h.elim (fun z=>apart d.symm z.1 z.2) fun z=>.inr (Nat.le_trans l z)
theorem spl {e t w:Nat}(hs:s<=e)(he:e<=t):((t:Int)+1 - (e - s)+w)=((s+w+(t - e):Nat):Int)+1:=by
 obtain⟨d,rfl⟩:=Nat.exists_eq_add_of_le hs
 obtain⟨u,rfl⟩:=Nat.exists_eq_add_of_le he
 rw[Nat.add_sub_cancel_left];omega
theorem zlM{e:Nat}(hs:s<=e)(he:e<=T.length):((T.length:Int)+1 - (e - s)+W.length)=((T.take s ++ W ++ T.drop e).length:Int)+1:=by
 rw[List.length_append,List.length_append,List.length_take_of_le (Nat.le_trans hs he),List.length_drop];exact spl hs he
theorem Upd.get {lo i:Nat}(u:Upd lo hi J V)(h:J[i]?=some o)(c:i < lo∨hi<=i):V[i]?=some o:=(u.2 i (zg h) c).trans h
theorem Upd.wide {lo:Nat}(u:Upd lo hi J V)(h:lo'<=lo/\hi<=hi'):Upd lo' hi' J V:=⟨u.1,fun j h' c=>u.2 j h' (c.imp (Nat.lt_of_lt_of_le · h.1) (Nat.le_trans h.2))⟩
theorem Upd.any(u:Upd 0 0 J V)(lo hi:Nat):Upd lo hi J V:=⟨u.1,fun j h' _=>u.2 j h' (.inr (Nat.zero_le _))⟩
theorem Upd.keep {i:Nat}(u:Upd 0 0 J V)(h:J[i]?=some o):V[i]?=some o:=u.get h (.inr (Nat.zero_le _))
noncomputable def iz (l:List Nat):List MV:=l.map fun (c:Nat)=>MV.int (c:Int)
theorem zF (l:List Nat):(iz l).length=l.length:=by simp[iz]
theorem zaa (l q:List Nat):iz (l ++ q)=iz l ++ iz q:=by simp[iz]
theorem zl6 (a:List Nat):(a == a)=true:=beq_self_eq_true a
theorem zl5 (a:Nat):(a == a)=true:=beq_self_eq_true a
theorem zmc(a b:α):(some a).getD b=a:=rfl
theorem zma(b:α):(none:Option α).getD b=b:=rfl
theorem zmo{_:Decidable True}(a b:α):(if True then a else b)=a:=if_true ..
theorem zmf{_:Decidable False}(a b:α):(if False then a else b)=b:=if_false ..
theorem zk4(a b:List α):(a ++ b).length=a.length+b.length:=List.length_append
theorem zkY(a:List α)(i:Nat)(v:α):(a.set i v).length=a.length:=List.length_set
theorem zk5(a:α)(b:List α):(a :: b).length=b.length+1:=List.length_cons
theorem zk6:([]:List α).length=0:=rfl
theorem zk1(n:Nat)(a:List α):(a.take n).length=min n a.length:=List.length_take
theorem zkU(n:Nat)(a:List α):(a.drop n).length=a.length - n:=List.length_drop
theorem zk0(n:Nat)(a:α):(List.replicate n a).length=n:=List.length_replicate
theorem EVL:type_of% (an (an (an @zk4 @zkY) (an @zk5 @zk6)) (an (an @zk1 @zkU) (an @zk0 @zF))):=(an (an (an @zk4 @zkY) (an @zk5 @zk6)) (an (an @zk1 @zkU) (an @zk0 @zF)))
mutual
theorem beq_refl:∀ v:MV,MV.beq v v=true
 | .none=>rfl
 | .bool b=>beq_self_eq_true b
 | .int i=>decide_eq_true (rfl:i=i)
 | .str s=>beq_self_eq_true s
 | .ref a=>Nat.beq_refl a
 | .tup l=>yu l
theorem yu:∀ l:List MV,MV.beqs l l=true
 | []=>rfl
 | a :: r=>Bool.and_eq_true_iff.mpr ⟨beq_refl a,yu r⟩
end
noncomputable def iterO (o:Option za) (i:Nat) (J:Hp):Option (List MV×List (Nat×Option (List MV))×Hp):=qL o fun l=>some (l,[(i,some l)],J)
theorem zbW (i:Nat)(J:Hp):iterOf .val [.ref i] J=iterO J[i]? i J:=rfl
theorem zec (l:List MV)(i:Nat)(J:Hp):iterO (some (.list l)) i J=some (l,[(i,some l)],J):=rfl
noncomputable def chk1 (o:Option za) (l:List MV):Bool:=isLst l o
theorem zaO (J:Hp):chkOk J []=true:=rfl
theorem zaW (i:Nat)(l:List MV)(J:Hp):chkOk J [(i,some l)]=chk1 J[i]? l:=by
 show (isLst l J[i]? && true)=_
 rw[Bool.and_true];rfl
theorem zbo (l:List MV):chk1 (some (.list l)) l=true:=yu l
noncomputable def forN (chk:List (Nat×Option (List MV))) (isTup:Bool) (tgt:List Nat) (b:Loc->Hp->Res) (r:List MV) (q:Option MV×Loc×Hp):Res:=oX q.1 (forL chk isTup tgt b r q.2.1 q.2.2) fun v=>some (some v,q.2)
section
variable (chk:List (Nat×Option (List MV)))(isTup:Bool)(tgt:List Nat)(b:Loc->Hp->Res)(r:List MV)(m:Loc)(J:Hp)(v:MV)
theorem ziH:forL chk isTup tgt b [] m J=if chkOk J chk then some (.none,m,J) else .none:=rfl
theorem zbj:forL chk isTup tgt b (v :: r) m J=if chkOk J chk then bd (fun m'=>bd (forN chk isTup tgt b r) .mk (b m' J)) .mk (bindT isTup tgt v m) else .none:=rfl
theorem jB:forN chk isTup tgt b r (.none,m,J)=forL chk isTup tgt b r m J:=rfl
end
noncomputable def whN (t:Loc->Hp->Option (MV×Hp)) (b:Loc->Hp->Res) (n:Nat) (r:Option MV×Loc×Hp):Res:=oX r.1 (whileL t b n r.2.1 r.2.2) fun v=>some (some v,r.2)
section
variable (t:Loc->Hp->Option (MV×Hp))(b:Loc->Hp->Res)(m:Loc)(J:Hp)
theorem zmU (n:Nat):whileL t b (n+1) m J=bd (fun p=>bd (fun c=>if c then bd (whN t b n) .mk (b m p.2) else some (.none,m,p.2)) .mk (truth p.1)) .mk (t m J):=rfl
theorem zmK:whileL t b turns m J=bd (fun p=>bd (fun c=>if c then bd (whN t b 99999) .mk (b m p.2) else some (.none,m,p.2)) .mk (truth p.1)) .mk (t m J):=rfl
end
noncomputable def compF (call:CallT) (elt:ME) (isTup:Bool) (tgt:List Nat) (ifs:List ME) (m:Loc) (v:MV) (J:Hp):Option (List MV×Hp):=
 (bindT isTup tgt v (hide tgt m)).bind fun m'=>(evalAll prog call ifs m' J).bind fun t=>
    if t.1 then (evalE prog call elt m' t.2).bind fun w=>some ([w.1],w.2) else some ([],t.2)
noncomputable def compEnd (r:List MV×Hp):Option (MV×Hp):=if r.1.length<=1000000 then some (.ref r.2.length,r.2 ++ [za.list r.1]) else .none
section
variable (call:CallT)(elt:ME)(isTup:Bool)(tgt:List Nat)(ifs:List ME)(m:Loc)(J:Hp)
theorem zh5 (ik:IK)(its:List ME):evalE prog call (.comp elt isTup tgt ik its ifs) m J=bd (fun p=>bd (fun q=>bd compEnd .mk (compLoop q.2.1 (compF call elt isTup tgt ifs m) q.1 q.2.2)) .mk (iterOf ik p.1 p.2)) .mk (evalL prog call its m J):=rfl
theorem zhf (v:MV):compF call elt isTup tgt ifs m v J=bd (fun m'=>bd (fun t=>if t.1 then bd (fun w=>some ([w.1],w.2)) .mk (evalE prog call elt m' t.2) else some ([],t.2)) .mk (evalAll prog call ifs m' J)) .mk (bindT isTup tgt v (hide tgt m)):=rfl
end
theorem zcp (l:List MV)(J:Hp)(h:l.length<=1000000):compEnd (l,J)=some (.ref J.length,J ++ [za.list l]):=by simp only[compEnd,if_pos h]
theorem zem (chk:List (Nat×Option (List MV)))(f:MV->Hp->Option (List MV×Hp))(J:Hp):compLoop chk f [] J=if chkOk J chk then some ([],J) else .none:=rfl
theorem zex (chk:List (Nat×Option (List MV)))(f:MV->Hp->Option (List MV×Hp))(v:MV)(r:List MV)(J:Hp):compLoop chk f (v :: r) J=if chkOk J chk then (f v J).bind fun p=>(compLoop chk f r p.2).bind fun q=>some (p.1 ++ q.1,q.2) else .none:=rfl
theorem yF(hc:chkOk J chk=true):∀ items:List MV,(∀ v∈items,f v J=some (g v,J))->compLoop chk f items J=some (items.flatMap g,J)
 | []=>fun _=>if_pos hc
 | v :: r=>fun h=>by
  show (if chkOk J chk then (f v J).bind fun p=>(compLoop chk f r p.2).bind fun q=>some (p.1 ++ q.1,q.2) else none)=_
  rw[if_pos hc,h v (.head _),Option.bind_some,yF hc r (fun w hw=>h w (.tail _ hw)),Option.bind_some,List.flatMap_cons]
theorem wL{t:α->MV}{g:α->List MV}(hc:chkOk J chk=true):∀ items:List α,(∀ v∈items,f (t v) J=some (g v,J))->compLoop chk f (items.map t) J=some (items.flatMap g,J)
 | []=>fun _=>if_pos hc
 | v :: r=>fun h=>by
  show (if chkOk J chk then (f (t v) J).bind fun p=>(compLoop chk f (r.map t) p.2).bind fun q=>some (p.1 ++ q.1,q.2) else none)=_
  rw[if_pos hc,h v (.head _),Option.bind_some,wL hc r (fun w hw=>h w (.tail _ hw)),Option.bind_some,List.flatMap_cons]
theorem kJ{t g:α->MV}(hc:chkOk J chk=true)(items:List α)(h:∀ v∈items,f (t v) J=some ([g v],J)):compLoop chk f (items.map t) J=some (items.map g,J):=by
 rw[wL hc items (g:=fun v=>[g v]) h]
 exact congrArg (fun l=>some (l,J)) (List.map_eq_flatMap ..).symm
theorem comp_map{g:MV->MV}(hc:chkOk J chk=true)(items:List MV)(h:∀ v∈items,f v J=some ([g v],J)):compLoop chk f items J=some (items.map g,J):=by
 rw[yF hc items (g:=fun v=>[g v]) h]
 congr 2
 induction items with
 | nil=>rfl
 | cons a r ih=>
  simp only[List.flatMap_cons,List.map_cons,List.cons_append,List.nil_append]
  rw[ih fun v hv=>h v (List.mem_cons_of_mem _ hv)]
theorem zG{i:Nat}(h:J[i]?=some (.list l)):chkOk J [(i,some l)]=true:=by
 rw[zaW,h,zbo]
section
variable {call:CallT}{m m':Loc}{J J1 Ja Jb Jd:Hp}{e e' a b c i lo hi:ME}{es r:List ME}{v w u:MV}{vs:List MV}{ur:MV}{Jr:Hp}{x f n:Nat}{t:Bool}{Or:Option MV}{mr:Loc}{o:Option MV}{ss q q':List MS}{l:List (Nat×MV)}
theorem zi8 (h:noRef v=true):evalE prog call (.l v) m J=some (v,J):=if_pos h
theorem ziV (h:m x=some v):evalE prog call (.v x) m J=some (v,J):=by rw[zjL,h];rfl
theorem zmH (h:evalAnd prog call es m J=some (ur,Jr)):evalE prog call (.and es) m J=some (ur,Jr):=h
theorem wOr (h:evalOr prog call es m J=some (ur,Jr)):evalE prog call (.or es) m J=some (ur,Jr):=h
theorem wA1 (h:evalE prog call e m J=some (.bool t,J1)):evalAnd prog call [e] m J=some (.bool t,J1):=by rw[zlB,h];rfl
theorem wO1 (h:evalE prog call e m J=some (.bool t,J1)):evalOr prog call [e] m J=some (.bool t,J1):=by rw[zlj,h];rfl
noncomputable def cs {α:Type} (t:Bool) (a b:α):α:=match t with | true=>a | false=>b
theorem csE{t t':Bool}{a b z:α}(h:t=t')(k:cs t' a b=z):cs t a b=z:=by subst h;exact k
theorem csT{t:Bool}{a b z:α}(h:t=true)(k:a=z):cs t a b=z:=by subst h;exact k
theorem csF{t:Bool}{a b z:α}(h:t=false)(k:b=z):cs t a b=z:=by subst h;exact k
theorem wA2 (h:evalE prog call e m J=some (.bool t,J1))(k:cs t (evalAnd prog call (e' :: r) m J1) (some (.bool false,J1))=some (ur,Jr)):evalAnd prog call (e :: e' :: r) m J=some (ur,Jr):=by
 rw[zlT,h];cases t <;> exact k
theorem wO2 (h:evalE prog call e m J=some (.bool t,J1))(k:cs t (some (.bool true,J1)) (evalOr prog call (e' :: r) m J1)=some (ur,Jr)):evalOr prog call (e :: e' :: r) m J=some (ur,Jr):=by
 rw[zlV,h];cases t <;> exact k
theorem zmm (h:evalE prog call e m J=some (.bool t,J1)):evalE prog call (.not e) m J=some (.bool (!t),J1):=by rw[zku,h];rfl
theorem zmO {z:Int}(h:evalE prog call e m J=some (.int z,J1)):evalE prog call (.neg e) m J=some (.int (-z),J1):=by rw[zj8,h];rfl
theorem zmN {o:BOp}(h:evalE prog call a m J=some (v,J1))(k:evalE prog call b m J1=some (w,Ja))(p:binop o v w Ja=some (ur,Jr)):evalE prog call (.o o a b) m J=some (ur,Jr):=by rw[zky,h,yp,k];exact p
theorem zmj(h:evalE prog call a m J=some (v,J1))(k:evalCmp prog call v os es m J1=some (ur,Jr)):evalE prog call (.cmp a os es) m J=some (ur,Jr):=by rw[zjQ,h];exact k
theorem wC1 {o:COp}(h:evalE prog call e m J=some (v,J1))(k:cmpop o u v J1=some t):evalCmp prog call u [o] [e] m J=some (.bool t,J1):=by rw[zlD,h];show bd _ .mk (cmpop o u v J1)=_;rw[k];rfl
theorem wC2 {o o':COp}(h:evalE prog call e m J=some (v,J1))(k:cmpop o u v J1=some t)(p:cs t (evalCmp prog call v (o' :: os) (e' :: r) m J1) (some (.bool false,J1))=some (ur,Jr)):evalCmp prog call u (o :: o' :: os) (e :: e' :: r) m J=some (ur,Jr):=by
 rw[zlQ,h];show bd _ .mk (cmpop o u v J1)=_;rw[k];cases t <;> exact p
theorem zmZ (h:evalE prog call c m J=some (.bool t,J1))(k:cs t (evalE prog call a m J1) (evalE prog call b m J1)=some (ur,Jr)):evalE prog call (.ite c a b) m J=some (ur,Jr):=by rw[zjb,h];cases t <;> exact k
theorem wLi (h:evalL prog call es m J=some (vs,J1)):evalE prog call (.list es) m J=some (.ref J1.length,J1 ++ [.list vs]):=by rw[zhs,h];rfl
theorem wTu (h:evalL prog call es m J=some (vs,J1)):evalE prog call (.tup es) m J=some (.tup vs,J1):=by rw[zjo,h];rfl
theorem wDi {ks:List MV}{d:List (MV×MV)}(h:evalL prog call es m J=some (vs,J1))(k:mkDict ks vs []=some d):evalE prog call (.dict ks es) m J=some (.ref J1.length,J1 ++ [.dict d]):=by
 rw[zhG,h];show bd _ .mk (mkDict ks vs [])=_;rw[k];rfl
theorem zd8{o:Option za}(k:o=some (.inst y l))(p:prog.attr y x=true)(q:lk x l=some v):attrOO o x J=some (v,J):=by rw[k,zki,if_pos p,q];rfl
theorem wAt (h:evalE prog call e m J=some (.ref n,J1))(k:attrOO J1[n]? x J1=some (ur,Jr)):evalE prog call (.a e x) m J=some (ur,Jr):=by
 rw[ziJ,h];exact k
theorem zmC (h:evalE prog call e m J=some (v,J1))(k:evalE prog call i m J1=some (w,Ja))(p:subGet v w Ja=some u):evalE prog call (.sub e i) m J=some (u,Ja):=by
 rw[zkf,h,yp,k];show vm (subGet v w Ja) Ja=_;rw[p];rfl
theorem sgL {z:List MV}{k:Int}{y:MV}(h:J[j]?=some (.list z))(h1:0<=k)(h2:k < 1000000000)(q:z[k.toNat]?=some y):subGet (.ref j) (.int k) J=some y:=by
 show subO J[j]? (.int k)=_;rw[h,ziT _ _ ⟨h1,h2⟩,q]
theorem wSl (h:evalE prog call e m J=some (v,J1))(k:evalE prog call lo m J1=some (w,Ja))(p:evalE prog call hi m Ja=some (u,Jb))(z:sliceGet v w u Jb=some (ur,Jr)):evalE prog call (.slice e lo hi) m J=some (ur,Jr):=by
 rw[zgi,h,yp,k,yp,p];exact z
theorem zmx (h:evalE prog call e m J=some (.ref n,J1))(k:revO J1[n]? J1=some (ur,Jr)):evalE prog call (.rev e) m J=some (ur,Jr):=by rw[zkF,h];exact k
theorem wCF (h:evalL prog call es m J=some (vs,J1))(k:call f vs J1=some (ur,Jr)):evalE prog call (.f f es) m J=some (ur,Jr):=by rw[zf4,h];exact k
theorem wCC(h:evalL prog call es m J=some (vs,J1))(p:prog.init y=some f)(k:call f (.ref J1.length :: vs) (J1 ++ [.inst y []])=some (.none,Ja)):evalE prog call (.c y es) m J=some (.ref J1.length,Ja):=by
 rw[zft,h,yp,p,zkz,k];rfl
theorem wCB {g:Bi}(h:evalL prog call es m J=some (vs,J1))(k:Mine.callB g vs J1=some (ur,Jr)):evalE prog call (.b g es) m J=some (ur,Jr):=by rw[zgm,h];exact k
theorem zhp{o:Option za}(k:o=some (.inst y l))(p:prog.meth y x=some f)(q:lk x l=.none)(g:evalL prog call es m J=some (vs,J1))(z:call f (.ref n :: vs) J1=some (ur,Jr)):methOO call m n x es o J=some (ur,Jr):=by
 rw[k,zgL,p,q,zha,g];exact z
theorem zkR {o:Option za}(k:methOO call m n x es o J=bd (fun q=>call f (.ref n :: q.1) q.2) .mk (evalL prog call es m J))(g:evalL prog call es m J=some (vs,J1))(z:call f (.ref n :: vs) J1=some (ur,Jr)):methOO call m n x es o J=some (ur,Jr):=by
 rw[k,g];exact z
theorem wMe (h:evalE prog call e m J=some (.ref n,J1))(k:methOO call m n x es J1[n]? J1=some (ur,Jr)):evalE prog call (.m e x es) m J=some (ur,Jr):=by
 rw[zie,h];exact k
theorem wMB {g:Mb}(h:evalE prog call e m J=some (v,J1))(k:evalL prog call es m J1=some (vs,Ja))(p:(tyOf v J1 == tyOf v Ja)=true)(z:Mine.methB g v vs Ja=some (ur,Jr)):evalE prog call (.n e g es) m J=some (ur,Jr):=by
 rw[zgs,h,yp,k,yp];rw[if_pos p];exact z
theorem wL0:evalL prog call [] m J=some ([],J):=rfl
theorem wLc (h:evalE prog call e m J=some (v,J1))(k:evalL prog call es m J1=some (vs,Ja)):evalL prog call (e :: es) m J=some (v :: vs,Ja):=by rw[zlO,h,yp,k];rfl
theorem wX0:evalAll prog call [] m J=some (true,J):=rfl
theorem wXc {T:Bool}(h:evalE prog call e m J=some (.bool t,J1))(k:cs t (evalAll prog call es m J1) (some (false,J1))=some (T,Jr)):evalAll prog call (e :: es) m J=some (T,Jr):=by rw[zlN,h];cases t <;> exact k
theorem zm1 (y:Nat)(ys:List Nat)(z:MV)(zs:List MV):bindP (y :: ys) (z :: zs)=upd (bindP ys zs) y z:=rfl
theorem zmJ (l:List MV):bindP [] l=e0:=rfl
theorem ex1 {s:MS}(h:execs prog call [s] m J=some (.none,m',J1)):exec prog call s m J=some (.none,m',J1):=by
 rw[yQ] at h
 cases e:exec prog call s m J with
 | none=>rw[e] at h;cases h
 | some p=>
  obtain⟨o,ma,V⟩:=p
  rw[e] at h
  cases o with
  | none=>exact h
  | some v=>cases h
theorem ex2 {s:MS}(h:execs prog call [s] m J=some (some v,m',J1)):exec prog call s m J=some (some v,m',J1):=by
 rw[yQ] at h
 cases e:exec prog call s m J with
 | none=>rw[e] at h;cases h
 | some p=>
  obtain⟨o,ma,V⟩:=p
  rw[e] at h
  cases o with
  | none=>cases h
  | some v=>exact h
theorem evT{x z:Option (α×β)}{a:α}{b:β}(h:x=some (a,b))(k:some (a,b)=z):x=z:=h.trans k
theorem wN:execs prog call [] m J=some (.none,m,J):=rfl
theorem wEx (h:evalE prog call e m J=some (v,J1))(k:execs prog call ss m J1=some (Or,mr,Jr)):execs prog call (.expr e :: ss) m J=some (Or,mr,Jr):=by rw[yQ,zmE,h];exact k
theorem zlX (h:evalE prog call e m J=some (v,J1)):execs prog call (.ret e :: ss) m J=some (some v,m,J1):=by rw[yQ,zmy,h];rfl
theorem wRn:execs prog call (.retNone :: ss) m J=some (some .none,m,J):=rfl
theorem wAV (h:evalE prog call e m J=some (v,J1))(k:execs prog call ss (upd m x v) J1=some (Or,mr,Jr)):execs prog call (.assign (.v x) e :: ss) m J=some (Or,mr,Jr):=by rw[yQ,zjz,h];exact k
theorem wAT(h:evalE prog call e m J=some (.tup vs,J1))(p:bindV xs vs m=some m')(k:execs prog call ss m' J1=some (Or,mr,Jr)):execs prog call (.assign (.tup xs) e :: ss) m J=some (Or,mr,Jr):=by
 rw[yQ,zjz,h,yp];show bd _ .mk (bd _ .mk (store prog call (.tup xs) (.tup vs) m J1))=_;rw[zll,p];exact k
theorem zhq{o:Option za}(p:o=some (.inst y l))(q:st x v l=l')(p':(prog.attr y x && decide (l.length<=100))=true):setAttrO o n x v J=some (J.set n (.inst y l')):=by
 subst q;rw[p];exact if_pos p'
theorem ziS(hn:n < κ.length)(q:st x v l=l')(p':(prog.attr y x && decide (l.length<=100))=true):setAttrO (κ.set n (.inst y l))[n]? n x v (κ.set n (.inst y l))=some (κ.set n (.inst y l')):=by
 rw[zhq (zaT hn) q p',set_set]
theorem zhB{q:Hp}(hn:n < κ.length)(g:st x v l=l')(p':(prog.attr y x && decide (l.length<=100))=true):setAttrO (κ.set n (.inst y l) ++ q)[n]? n x v (κ.set n (.inst y l) ++ q)=some ((κ ++ q).set n (.inst y l')):=by
 rw[zhq ((qj (by rw[List.length_set];exact hn)).trans (zaT hn)) g p',List.set_append_left _ _ (by rw[List.length_set];exact hn),List.set_append_left _ _ hn,set_set]
theorem wAA (h:evalE prog call e m J=some (v,J1))(g:evalE prog call a m J1=some (.ref n,Ja))(p:setAttrO Ja[n]? n x v Ja=some Jb)(k:execs prog call ss m Jb=some (Or,mr,Jr)):execs prog call (.assign (.a a x) e :: ss) m J=some (Or,mr,Jr):=by
 rw[yQ,zjz,h,yp];show bd _ .mk (bd _ .mk (store prog call (.a a x) v m J1))=_
 rw[zlq,g,yp];show bd _ .mk (bd _ .mk (stm m (setAttrO Ja[n]? n x v Ja)))=_
 rw[p];exact k
theorem wAS (h:evalE prog call e m J=some (v,J1))(g:evalE prog call a m J1=some (w,Ja))(g':evalE prog call i m Ja=some (u,Jb))(p:setSub w u v Jb=some Jd)(k:execs prog call ss m Jd=some (Or,mr,Jr)):execs prog call (.assign (.sub a i) e :: ss) m J=some (Or,mr,Jr):=by
 rw[yQ,zjz,h,yp];show bd _ .mk (bd _ .mk (store prog call (.sub a i) v m J1))=_
 rw[zld,g,yp,g',yp];show bd _ .mk (bd _ .mk (stm m (setSub w u v Jb)))=_;rw[p];exact k
theorem zmX {z:MV}{J5:Hp}(h:evalE prog call e m J=some (v,J1))(g:evalE prog call a m J1=some (w,Ja))(g':evalE prog call lo m Ja=some (u,Jb))(g'':evalE prog call hi m Jb=some (z,Jd))(p:setSlice w u z v Jd=some J5)(k:execs prog call ss m J5=some (Or,mr,Jr)):execs prog call (.assign (.slice a lo hi) e :: ss) m J=some (Or,mr,Jr):=by
 rw[yQ,zjz,h,yp];show bd _ .mk (bd _ .mk (store prog call (.slice a lo hi) v m J1))=_
 rw[zlR,g,yp,g',yp,g'',yp];show bd _ .mk (bd _ .mk (stm m (setSlice w u z v Jd)))=_;rw[p];exact k
theorem wIf (h:evalE prog call c m J=some (.bool t,J1))(k:cs t (bd (andThen call ss) .mk (execs prog call q m J1)) (bd (andThen call ss) .mk (execs prog call q' m J1))=some (Or,mr,Jr)):execs prog call (.ifs c q q' :: ss) m J=some (Or,mr,Jr):=by
 rw[yQ,zmg,h,yp]
 cases t <;> exact k
theorem wSq (h:execs prog call q m J=some (o,m',J1))(k:andThen call ss (o,m',J1)=some (Or,mr,Jr)):bd (andThen call ss) .mk (execs prog call q m J)=some (Or,mr,Jr):=by rw[h];exact k
theorem wSt {s:MS}(h:exec prog call s m J=some (o,m',J1))(k:andThen call ss (o,m',J1)=some (Or,mr,Jr)):execs prog call (s :: ss) m J=some (Or,mr,Jr):=by rw[yQ,h];exact k
theorem wS0 (k:execs prog call ss m J=some (Or,mr,Jr)):andThen call ss (.none,m,J)=some (Or,mr,Jr):=k
theorem wS1:andThen call ss (some v,m,J)=some (some v,m,J):=rfl
theorem zmL {T:Bool}{ik:IK}(h:evalL prog call es m J=some (vs,J1))(k:iterOf ik vs J1=some (it,ch,Ja))(p:forL ch T tg (execs prog call q) it m Ja=some (Or,mr,Jr)):exec prog call (.fors T tg ik es q) m J=some (Or,mr,Jr):=by
 rw[zm9,h,yp];show bd _ .mk (iterOf ik vs J1)=_;rw[k];exact p
theorem wWh (h:whileL (evalE prog call c) (execs prog call q) turns m J=some (Or,mr,Jr)):exec prog call (.whiles c q) m J=some (Or,mr,Jr):=h
theorem zfw{ps:List Nat}{args full:List MV}(hF:prog.fn f=some ⟨ps,ds,bs⟩)(hA:fullArgs ⟨ps,ds,bs⟩ args=some full)(h:execs prog (callN prog k) bs (bindP ps full) J=some (o,m',J1)):
  callN prog (k+1) f args J=some (o.getD .none,J1):=by
 show (oX (prog.fn f) .none fun F=>(fullArgs F args).bind fun full=>(execs prog (callN prog k) F.body (bindP F.params full) J).bind fun r=>some ((r.1).getD .none,r.2.2):Option (MV×Hp))=_
 rw[hF];show (fullArgs ⟨ps,ds,bs⟩ args).bind _=_;rw[hA];show (execs prog (callN prog k) bs (bindP ps full) J).bind _=_;rw[h];rfl
end
section
variable {call:CallT}{m m' m'':Loc}{J J1 Ja Jb Jr:Hp}{elt:ME}{T:Bool}{tg:List Nat}{ifs its:List ME}{v w:MV}{vs it out lr:List MV}{ik:IK}{ch:List (Nat×Option (List MV))}{t:Bool}{o Or:Option MV}{mr:Loc}{b:Loc->Hp->Res}{tt:Loc->Hp->Option (MV×Hp)}{n:Nat}
theorem zlv (h:evalL prog call its m J=some (vs,J1))(k:iterOf ik vs J1=some (it,ch,Ja))(p:compLoop ch (compF call elt T tg ifs m) it Ja=some (out,Jb))(z:out.length<=1000000):
  evalE prog call (.comp elt T tg ik its ifs) m J=some (.ref Jb.length,Jb ++ [.list out]):=by
 rw[zh5,h,yp];show bd _ .mk (iterOf ik vs J1)=_;rw[k,yp];show bd _ .mk (compLoop ch _ it Ja)=_;rw[p];exact zcp _ _ z
noncomputable def one (x:Option (MV×Hp)):Option (List MV×Hp):=x.bind fun w=>some ([w.1],w.2)
theorem zmD {x:Option (MV×Hp)}(h:x=some (w,J)):one x=some ([w],J):=by subst h;rfl
theorem wCf (h:bindT T tg v (hide tg m)=some m')(g:evalAll prog call ifs m' J=some (t,J1))(k:cs t (one (evalE prog call elt m' J1)) (some ([],J1))=some (lr,Jr)):compF call elt T tg ifs m v J=some (lr,Jr):=by
 rw[zhf,h,yp,g,yp];cases t <;> exact k
theorem wF0 (h:chkOk J ch=true):forL ch T tg b [] m J=some (.none,m,J):=by rw[ziH,if_pos h]
theorem wFc (h:chkOk J ch=true)(k:bindT T tg v m=some m')(p:b m' J=some (o,m'',J1))(z:forN ch T tg b it (o,m'',J1)=some (Or,mr,Jr)):forL ch T tg b (v :: it) m J=some (Or,mr,Jr):=by
 rw[zbj,if_pos h,k,yp,p];exact z
theorem wFn (k:forL ch T tg b it m J=some (Or,mr,Jr)):forN ch T tg b it (.none,m,J)=some (Or,mr,Jr):=k
theorem wFs:forN ch T tg b it (some v,m,J)=some (some v,m,J):=rfl
noncomputable def whS (tt:Loc->Hp->Option (MV×Hp)) (b:Loc->Hp->Res) (n:Nat) (m:Loc) (J:Hp):Res:=bd (whN tt b n) .mk (b m J)
theorem wWc (h:tt m J=some (.bool t,J1))(k:cs t (whS tt b n m J1) (some (.none,m,J1))=some (Or,mr,Jr)):whileL tt b (n+1) m J=some (Or,mr,Jr):=by rw[zmU,h];cases t <;> exact k
theorem wWt (h:tt m J=some (.bool t,J1))(k:cs t (whS tt b 99999 m J1) (some (.none,m,J1))=some (Or,mr,Jr)):whileL tt b turns m J=some (Or,mr,Jr):=by rw[zmK,h];cases t <;> exact k
theorem wWs (h:b m J=some (o,m',J1))(k:whN tt b n (o,m',J1)=some (Or,mr,Jr)):whS tt b n m J=some (Or,mr,Jr):=by unfold whS;rw[h];exact k
theorem wWn (k:whileL tt b n m J=some (Or,mr,Jr)):whN tt b n (.none,m,J)=some (Or,mr,Jr):=k
theorem wW1:whN tt b n (some v,m,J)=some (some v,m,J):=rfl
end
theorem LF:type_of% (an (an (an (an (an (an @zA (an @zhn @zg8)) (an (an @zkb @zdI) (an @fst_mk @snd_mk))) (an (an @zjB (an @zi9 @zkB)) (an (an @zmb @zmq) (an @zmu @zmh)))) (an (an (an @zly (an @zlo @zgO)) (an (an @zlU @zl6) (an @zl5 @Bool.not_true))) (an (an @Bool.not_false (an @Bool.true_and @Bool.and_true)) (an (an @zmc @zma) (an @zmt @zl8))))) (an (an (an (an @zmn (an @zmk @zeq)) (an (an @zd4 @zgx) (an @zgQ @cmp_gt))) (an (an @zg2 (an @zdC @zdE)) (an (an @zc8 @zew) (an @zdX @zd2)))) (an (an (an @zdH (an @zdM @zeZ)) (an (an @zdz @zdK) (an @zdT @zef))) (an (an @zb5 (an @zgC @zar)) (an (an @zg3 @zjr) (an @zjl @zj9)))))) (an (an (an (an (an @zkc (an @zke @zi0)) (an (an @zmo @zmf) (an @zhV @zhx))) (an (an @zix (an @zil @je)) (an (an @jc @zgZ) (an @zgP @zeJ)))) (an (an (an @zbY (an @zc2 @zg0)) (an (an @jY @za7) (an @xG @xN))) (an (an @zW (an @wI @zbz)) (an (an @zaR @zji) (an @zkv @zjt))))) (an (an (an (an @zj0 (an @zj3 @zhi)) (an (an @zcc @zkh) (an @zjT @qj))) (an (an @yd (an @zaT @zl9)) (an (an @zk4 @zkY) (an @zk5 @zk6)))) (an (an (an @zk1 (an @zkU @zk0)) (an (an @Int.toNat_natCast @Nat.zero_add) (an @Nat.add_assoc @true_and))) (an (an @and_self (an @set_set @zbW)) (an (an @zec @zaO) (an @zaW @zbo))))))):=(an (an (an (an (an (an @zA (an @zhn @zg8)) (an (an @zkb @zdI) (an @fst_mk @snd_mk))) (an (an @zjB (an @zi9 @zkB)) (an (an @zmb @zmq) (an @zmu @zmh)))) (an (an (an @zly (an @zlo @zgO)) (an (an @zlU @zl6) (an @zl5 @Bool.not_true))) (an (an @Bool.not_false (an @Bool.true_and @Bool.and_true)) (an (an @zmc @zma) (an @zmt @zl8))))) (an (an (an (an @zmn (an @zmk @zeq)) (an (an @zd4 @zgx) (an @zgQ @cmp_gt))) (an (an @zg2 (an @zdC @zdE)) (an (an @zc8 @zew) (an @zdX @zd2)))) (an (an (an @zdH (an @zdM @zeZ)) (an (an @zdz @zdK) (an @zdT @zef))) (an (an @zb5 (an @zgC @zar)) (an (an @zg3 @zjr) (an @zjl @zj9)))))) (an (an (an (an (an @zkc (an @zke @zi0)) (an (an @zmo @zmf) (an @zhV @zhx))) (an (an @zix (an @zil @je)) (an (an @jc @zgZ) (an @zgP @zeJ)))) (an (an (an @zbY (an @zc2 @zg0)) (an (an @jY @za7) (an @xG @xN))) (an (an @zW (an @wI @zbz)) (an (an @zaR @zji) (an @zkv @zjt))))) (an (an (an (an @zj0 (an @zj3 @zhi)) (an (an @zcc @zkh) (an @zjT @qj))) (an (an @yd (an @zaT @zl9)) (an (an @zk4 @zkY) (an @zk5 @zk6)))) (an (an (an @zk1 (an @zkU @zk0)) (an (an @Int.toNat_natCast @Nat.zero_add) (an @Nat.add_assoc @true_and))) (an (an @and_self (an @set_set @zbW)) (an (an @zec @zaO) (an @zaW @zbo)))))))
@[reducible] def nd (k:String):List Lean.Syntax->Lean.Syntax:=fun l=>.node .none k.toName ⟨l⟩
@[reducible] def tc (k:String) (l:List Lean.Syntax):Lean.Syntax:=nd ("Lean.Parser.Tactic." ++ k) (.atom .none k :: l)
@[reducible] def wJ:List Lean.Syntax->List Lean.Syntax
 | []=>[]
 | a :: l=>a :: .atom .none ";" :: wJ l
@[reducible] def sQ (l:List Lean.Syntax):Lean.Syntax:=nd "Lean.Parser.Tactic.tacticSeq" [nd "Lean.Parser.Tactic.tacticSeq1Indented" [nd "null" (wJ l)]]
@[reducible] def fi (l:List Lean.Syntax):Lean.Syntax:=tc "first" [nd "null" (l.map fun x=>nd "group" [.atom .none "|", x])]
@[reducible] def iD (s:String):Lean.Syntax:=Lean.mkIdent s.toName
@[reducible] def iL (s:String):List Lean.Term:=(s.splitOn " ").map fun s=>⟨iD s⟩
@[reducible] def wT (M:List (String×Lean.Syntax)) (s:String):Lean.Syntax:=fi ((s.splitOn " ").map fun s=>sQ ((s.splitOn "+").map fun s=>(M.lookup s).getD (tc "apply" [iD s])))
@[reducible] def wR (M:List (String×Lean.Syntax)) (s:String):Lean.Syntax:=
 let l:=s.splitOn "/"
 let h:=nd "Lean.Parser.Term.hole" [.atom .none "_"]
 sQ [tc "show" [nd "Lean.Parser.Term.app" [iD "Eq", nd "null" [nd "Lean.Parser.Term.app" [iD l[0]!,nd "null" (List.replicate l[1]!.toNat! h)],h]]],wT M l[2]!]
set_option hygiene false
set_option compiler.extract_closed false
local macro_rules | `(tactic| wp_walk using $ts,*)=>do
 let f (s:String):Array Lean.Term:=⟨iL s⟩ ++ ts.getElems
 `(tactic| w_strict (first | (simp -dsimp -implicitDefEqProofs only[$[$(f "decide_true decide_false not_true_eq_false not_false_eq_true"):term],*];first | done | with_reducible assumption | exact rfl) | (simp -dsimp -implicitDefEqProofs (disch:=first | assumption | lia | (simp only[EVL] <;> lia) | fail) only[↓reduceIte,Nat.reduceEqDiff,reduceCtorEq,Nat.reduceAdd,Nat.reduceLeDiff,$[$(f "LF LG zeO zlI ziT zjj xn zb1"):term],*];first | done | exact rfl)))
local macro_rules | `(tactic| w_strict $t)=>do
 let M:List (String×Lean.Syntax):=[("a", (<- `(tactic| assumption)).raw),("r", <- `(tactic| exact rfl)),("u", <- `(tactic| with_unfolding_all exact rfl)),("t", <- `(tactic| focus $t:tactic)),("d", <- `(tactic| decide)),("i", <- `(tactic| lia)),("v", <- `(tactic| simp only[EVL] <;> lia)),("U", <- `(tactic| with_unfolding_all assumption))]
 let l:=fi (("evalE/5/ziV zi8+r a wAt wCB zmN zmC zmj wMe wMB wCF zmH wOr zmm wTu wLi zmZ wSl wCC zmx zmO wDi zlv;evalL/5/wL0 wLc;attrOO/3/a zd8+a t zd8;methOO/7/zhp+a zkR+a zkR+t zhp;setAttrO/5/a zhq+a ziS+a zhB+a ziS+i zhB+i ziS+v zhB+v t zhq;st/3/t r;execs/5/a wN zlX wAV wIf wEx wAA wAT wAS zmX wRn wSt;subGet/3/a sgL+a+d+d+u sgL+a+i+i+U u t;evalCmp/7/wC1 wC2;cs/3/csT+r csF+r csE+t;evalAnd/5/wA1 wA2;evalOr/5/wO1 wO2;bd/3/wSq;andThen/3/wS1 wS0;exec/5/zmL wWh;evalAll/5/wX0 wXc;callN/5/a t;forL/7/a t wF0 wFc;forN/6/wFs wFn;whileL/5/a t wWt wWc;whS/5/wWs;whN/4/wW1 wWn;compF/8/wCf;one/1/zmD".splitOn ";").map (wR M) ++ [sQ [wT M "a u t i v"]])
 let d:Array Lean.Term:=⟨iL "zm1 zmJ List.cons_append List.nil_append List.length_cons List.length_nil List.drop_succ_cons List.drop_zero List.drop_nil List.append_nil Nat.reduceAdd Nat.reduceSub Nat.zero_add"⟩
 `(tactic| ((try with_reducible first | apply ex1 | apply ex2);apply evT;(focus ((try (apply zfw (hF:=rfl) (hA:=rfl);dsimp only[$[$d:term],*])) <;> repeat' with_reducible $(⟨l⟩):tactic));(focus first | exact rfl | $t:tactic | skip)))
set_option hygiene true
set_option compiler.extract_closed true
noncomputable def gapO (c:Nat) (a b:Int):za:=.inst 6 [(81,.int 8),(82,.ref c),(83,.int a),(84,.int b)]
inductive jh (V:Hp)(g c:Nat)(X G Y:List MV):Prop
 | mk (hg:V[g]?=some (gapO c X.length (X.length+G.length))) (hc:V[c]?=some (.list (X ++ G ++ Y))) (few:X.length+G.length+Y.length<=400000):jh V g c X G Y
inductive xY (V:Hp)(g c n:Nat)(T:List MV):Prop
 | mk (X G Y:List MV) (h:jh V g c X G Y) (t:T=X ++ Y) (hn:n=X.length+G.length+Y.length):xY V g c n T
theorem tkA (A B:List MV)(k:Nat):(A ++ B).take (A.length+k)=A ++ B.take k:=by rw[List.take_append,List.take_of_length_le (Nat.le_add_right _ _),Nat.add_sub_cancel_left]
theorem dpA (A B:List MV)(k:Nat):(A ++ B).drop (A.length+k)=B.drop k:=by rw[List.drop_append,List.drop_eq_nil_of_le (Nat.le_add_right _ _),Nat.add_sub_cancel_left,List.nil_append]
theorem tk0 (A B:List MV):(A ++ B).take A.length=A:=List.take_left
theorem dp0 (A B:List MV):(A ++ B).drop A.length=B:=List.drop_left
theorem slN(h:V[c]?=some (.list l))(hl:l.length<=1000000)(p q:Nat):sliceGet (.ref c) (.int p) (.int q) V=some (.ref V.length,V ++ [.list ((l.take q).drop p)]):=by
 rw[jY,h,za7 _ _ _ _ hl (Int.natCast_nonneg p) (Int.natCast_nonneg q)];rfl
theorem ssN{w:Nat}{W:List MV}(h:V[c]?=some (.list l))(hw:V[w]?=some (.list W))(ne:c≠w)(p q:Nat)(hpq:p<=q)(hq:q<=l.length)(hl:l.length+W.length<=1000000):
  setSlice (.ref c) (.int p) (.int q) (.ref w) V=some (V.set c (.list (l.take p ++ W ++ l.drop q))):=by
 rw[xG,h,hw,decide_eq_true ne,xN _ _ _ _ _ _ (Int.natCast_nonneg p) (Int.ofNat_le.mpr hpq) (Int.ofNat_le.mpr hq) hl];rfl
theorem zcx (x y:Nat):(x:Int)+(y:Int)=((x+y:Nat):Int):=rfl
theorem zl3 (x g s:Nat):((x+s:Nat):Int)+((x:Int)+g - x)=((x+g+s:Nat):Int):=by lia
theorem zlm (x g s:Nat):((x+s:Nat):Int)+(((x+g:Nat):Int) - x)=((x+g+s:Nat):Int):=by lia
theorem zmF (x g s:Nat):((x+s:Nat):Int) - x+((x:Int)+g)=((x+g+s:Nat):Int):=by lia
theorem zm0 (x g y:Nat):((x+g+y:Nat):Int) - ((x:Int)+g)+x=((x+y:Nat):Int):=by lia
theorem zmB (a b g:Nat):((a+b+g:Nat):Int) - b=((a+g:Nat):Int):=by lia
theorem zmG (x g b:Nat):((x+g:Nat):Int)+((x+b:Nat):Int) - x=((x+g+b:Nat):Int):=by lia
theorem zh8 (X G Y:List MV):(X ++ G ++ Y).length=X.length+G.length+Y.length:=by rw[List.length_append,List.length_append]
namespace jh
variable {V:Hp}{g c:Nat}{X G Y:List MV}
theorem ne (h:jh V g c X G Y):g≠c:=fun e=>by obtain⟨a,b,_⟩:=h;rw[e,b] at a;cases a
theorem ll (h:jh V g c X G Y):(X ++ G ++ Y).length<=1000000:=by obtain⟨_,_,f⟩:=h;rw[zh8];exact Nat.le_trans f (by decide)
end jh
namespace xY
variable {V:Hp}{g c n:Nat}{T:List MV}
theorem few (h:xY V g c n T):n<=400000:=by obtain⟨X,G,Y,⟨_,_,f⟩,_,rfl⟩:=h;exact f
theorem zlZ (h:xY V g c n T):T.length<=n:=by obtain⟨X,G,Y,_,rfl,rfl⟩:=h;rw[List.length_append];lia
theorem gat (h:xY V g c n T):∃ a b:Int,V[g]?=some (gapO c a b):=by obtain⟨X,G,Y,⟨a,_,_⟩,_,_⟩:=h;exact⟨_,_,a⟩
theorem cat (h:xY V g c n T):∃ l,V[c]?=some (.list l):=by obtain⟨X,G,Y,⟨_,b,_⟩,_,_⟩:=h;exact⟨_,b⟩
theorem glt (h:xY V g c n T):g < V.length:=let ⟨_,_,e⟩:=h.gat;zg e
theorem clt (h:xY V g c n T):c < V.length:=let ⟨_,e⟩:=h.cat;zg e
theorem zcU(h:xY V g c n T)(f:∀ o,V[g]?=some o->V'[g]?=some o)(f':∀ o,V[c]?=some o->V'[c]?=some o):xY V' g c n T:=by
 obtain⟨X,G,Y,⟨a,b,d⟩,t,e⟩:=h
 exact⟨X,G,Y,⟨f _ a,f' _ b,d⟩,t,e⟩
theorem map(h:xY V g c n T)(f:∀ c' a b,V[g]?=some (gapO c' a b)->V'[g]?=some (gapO c' a b))(f':∀ l,V[c]?=some (.list l)->V'[c]?=some (.list l)):xY V' g c n T:=by
 obtain⟨X,G,Y,⟨a,b,d⟩,t,e⟩:=h
 exact⟨X,G,Y,⟨f _ _ _ a,f' _ b,d⟩,t,e⟩
theorem code (h:xY V g c n T)(k at':Nat)(hv:T[at']?=some v):callN prog (k+1) 61 [.ref g,.int (at':Int)] V=some (v,V):=by
 obtain⟨X,G,Y,⟨hg,hc,hf⟩,rfl,rfl⟩:=h
 unfold gapO at hg
 by_cases e:at' < X.length
 ·have c1:decide ((at':Int) < X.length)=true:=decide_eq_true (Int.ofNat_lt.mpr e)
  have s1:subGet (.ref c) (.int at') V=some v:=sgL hc (Int.natCast_nonneg _) (by lia) (by
   rw[List.getElem?_append_left e] at hv
   rw[Int.toNat_natCast,List.append_assoc,List.getElem?_append_left e];exact hv)
  wp_walk using c1
 ·obtain⟨j,rfl⟩:=Nat.exists_eq_add_of_le (Nat.le_of_not_lt e)
  have c1:decide (((X.length+j:Nat):Int) < X.length)=false:=decide_eq_false (by lia)
  rw[List.getElem?_append_right (Nat.le_add_right _ _),Nat.add_sub_cancel_left] at hv
  have yl:=(List.getElem?_eq_some_iff.mp hv).1
  have s1:subGet (.ref c) (.int ((X.length+G.length+j:Nat):Int)) V=some v:=sgL hc (Int.natCast_nonneg _) (by lia) (by
   rw[Int.toNat_natCast,List.getElem?_append_right (by simp),<- List.length_append,Nat.add_sub_cancel_left];exact hv)
  have e1:=zmF X.length G.length j
  generalize X.length=x at *
  wp_walk using c1,e1,s1
theorem codes (h:xY V g c n T)(k s e:Nat)(hs:s<=e)(he:e<=T.length)(zz:∀ V' r,(callN prog (k+1) 62 [.ref g,.int (s:Int),.int (e:Int)] V=some (.ref r,V'))->(Upd 0 0 V V')->(V'[r]?=some (.list ((T.take e).drop s)))->(V.length<=r)->GG):GG:=by
 obtain⟨X,G,Y,h,rfl,rfl⟩:=h
 have hl:=h.ll
 obtain⟨hg,hc,hf⟩:=h
 unfold gapO at hg
 by_cases c1:e<=X.length
 ·refine zz (V ++ [za.list (((X ++ Y).take e).drop s)]) V.length ?_ (Upd.app 0 0 _ _) (zm _ _) (Nat.le_refl _)
  have s1:=slN hc hl s e
  rw[List.append_assoc,List.take_append_of_le_length c1,<- List.take_append_of_le_length (l₂:=Y) c1] at s1
  have c2:decide ((e:Int)<=X.length)=true:=decide_eq_true (Int.ofNat_le.mpr c1)
  wp_walk using c2
 ·obtain⟨e',rfl⟩:=Nat.exists_eq_add_of_le (Nat.le_of_not_le c1)
  have c2:decide (((X.length+e':Nat):Int)<=X.length)=false:=decide_eq_false (by lia)
  by_cases c3:X.length<=s
  ·obtain⟨s',rfl⟩:=Nat.exists_eq_add_of_le c3
   refine zz (V ++ [za.list (((X ++ Y).take (X.length+e')).drop (X.length+s'))]) V.length ?_ (Upd.app 0 0 _ _) (zm _ _) (Nat.le_refl _)
   have s1:=slN hc hl (X.length+G.length+s') (X.length+G.length+e')
   rw[<- List.length_append,tkA,dpA] at s1
   rw[tkA,dpA]
   rw[List.length_append] at s1
   have c4:decide (((X.length+s':Nat):Int) ≥ X.length)=true:=decide_eq_true (Int.ofNat_le.mpr c3)
   have e1:=zl3 X.length G.length s'
   have e2:=zl3 X.length G.length e'
   generalize X.length=x at *
   wp_walk using c2,c4,e1,e2,s1
  ·have c4:decide ((s:Int) ≥ X.length)=false:=decide_eq_false fun z=>c3 (Int.ofNat_le.mp z)
   have lt:=Nat.le_of_lt (Nat.lt_of_not_le c3)
   refine zz (V ++ [za.list (X.drop s)] ++ [za.list (Y.take e')] ++ [za.list (X.drop s ++ Y.take e')]) ((V ++ [za.list (X.drop s)] ++ [za.list (Y.take e')]).length) ?_ (((Upd.app 0 0 _ _).trans (Upd.app 0 0 _ _)).trans (Upd.app 0 0 _ _)) ?_ (by simp)
   rotate_left
   ·rw[tkA,List.drop_append_of_le_length lt];exact zm _ _
   have s1:=slN hc hl s X.length
   rw[List.append_assoc,tk0] at s1
   have s2:=slN (zf [za.list (X.drop s)] hc) hl (X.length+G.length) (X.length+G.length+e')
   rw[<- List.length_append,tkA,dp0,List.length_append] at s2
   have e0:=zcx X.length G.length
   have e2:=zlm X.length G.length e'
   have l1:(X.drop s).length+(Y.take e').length<=1000000:=by rw[List.length_drop,List.length_take];exact Nat.le_trans (Nat.add_le_add (Nat.sub_le _ _) (Nat.min_le_right _ _)) (Nat.le_trans (Nat.add_le_add_right (Nat.le_add_right _ G.length) _) (Nat.le_trans hf (by decide)))
   have lX:(X.drop s).length<=1000000:=by lia
   have n1:(V ++ [za.list (X.drop s)] ++ [za.list (Y.take e')])[V.length]?=some (.list (X.drop s)):=zf _ (zm _ _)
   have n2:(V ++ [za.list (X.drop s)] ++ [za.list (Y.take e')])[(V ++ [za.list (X.drop s)]).length]?=some (.list (Y.take e')):=zm _ _
   have q:binop .add (.ref V.length) (.ref (V ++ [za.list (X.drop s)]).length) (V ++ [za.list (X.drop s)] ++ [za.list (Y.take e')])=some (.ref (V ++ [za.list (X.drop s)] ++ [za.list (Y.take e')]).length,V ++ [za.list (X.drop s)] ++ [za.list (Y.take e')] ++ [za.list (X.drop s ++ Y.take e')]):=by
    rw[zhV,n1,n2,zhx _ _ _ l1]
   have hg1:=zf [za.list (X.drop s)] hg
   generalize X.length=x at *
   wp_walk using c2,c4,e0,e2,s1,s2,q
theorem size (h:xY V g c n T)(k:Nat):callN prog (k+1) 60 [.ref g] V=some (.int (T.length:Int),V):=by
 obtain⟨X,G,Y,h,rfl,rfl⟩:=h
 have hl:=h.ll
 obtain⟨hg,hc,hf⟩:=h
 unfold gapO at hg
 have q:Mine.callB .len [.ref c] V=some (.int ((X.length+G.length+Y.length:Nat):Int),V):=by rw[je,hc,jc _ _ hl,zh8]
 have e1:=zm0 X.length G.length Y.length
 rw[List.length_append]
 wp_walk using e1
end xY
noncomputable def Frm (g c:Nat) (V V':Hp):Prop:=V.length<=V'.length/\∀ j,j < V.length->j≠g->j≠c->V'[j]?=V[j]?
theorem Frm.refl (g c:Nat)(V:Hp):Frm g c V V:=⟨Nat.le_refl _,fun _ _ _ _=>rfl⟩
theorem Frm.trans {g:Nat}{Ve:Hp}(a:Frm g c V Vd)(b:Frm g c Vd Ve):Frm g c V Ve:=⟨Nat.le_trans a.1 b.1,fun j h1 h2 h3=>(b.2 j (Nat.lt_of_lt_of_le h1 a.1) h2 h3).trans (a.2 j h1 h2 h3)⟩
theorem Frm.zjF (g c:Nat)(V:Hp)(o:za):Frm g c V (V.set g o):=⟨by rw[List.length_set];exact Nat.le_refl _,fun _ _ h _=>zb _ (Ne.symm h)⟩
theorem Frm.zkW (g c:Nat)(V:Hp)(o:za):Frm g c V (V.set c o):=⟨by rw[List.length_set];exact Nat.le_refl _,fun _ _ _ h=>zb _ (Ne.symm h)⟩
theorem Frm.app (g c:Nat)(V q:Hp):Frm g c V (V ++ q):=⟨by rw[List.length_append];exact Nat.le_add_right _ _,fun _ h _ _=>List.getElem?_append_left h⟩
theorem Frm.upd {g:Nat}(u:Upd 0 0 V V'):Frm g c V V':=⟨u.1,fun j h _ _=>u.2 j h (.inr (Nat.zero_le _))⟩
theorem zmW (x g b:Nat):(x:Int)+g+b=((x+b:Nat):Int)+g:=by lia
theorem zmM (x g d:Nat):((g+d:Nat):Int) - (((x+g:Nat):Int) - x)=d:=by lia
theorem zgc (X:List MV)(h:a<=X.length)(zz:∀ A B,(X=A ++ B)->(A.length=a)->GG):GG:=zz (X.take a) (X.drop a) ((List.take_append_drop a X).symm) (by rw[List.length_take,Nat.min_eq_left h])
namespace jh
variable {V:Hp}{g c:Nat}{X G Y:List MV}
theorem zls {b n:Nat}{D:List MV}(hg:V[g]?=some (.inst 6 [(81,.int 8),(82,.ref c),(83,.int ((a+b:Nat):Int)),(84,.int (((a+b:Nat):Int)+n))]))(hgc:g≠c)(cl:c < V.length)(lD:D.length=b)(hb:b<=1000000)(b0:0 < b)(k:Nat)
  (s1:sliceGet (.ref c) (.int a) (.int (a+b:Nat)) V=some (.ref V.length,V ++ [za.list D])) (s2:setSlice (.ref c) (.int (a+n:Nat)) (.int (a+b+n:Nat)) (.ref V.length) (V ++ [za.list D])=some ((V ++ [za.list D]).set c (.list L2))):
  callN prog (k+1) 63 [.ref g,.int (a:Int)] V=some (.none,((V ++ [za.list D]).set c (.list L2)).set g (gapO c a (a+n))):=by
 have gl:=zg hg
 have hg1:=zf [za.list D] hg
 have e3:=zmB a b n
 have c1:decide ((a:Int) < ((a+b:Nat):Int))=true:=decide_eq_true (Int.ofNat_lt.mpr (Nat.lt_add_of_pos_right b0))
 have e4:=zcx (a+b) n
 have hg2:=(zb (J:=V ++ [za.list D]) (.list L2) (Ne.symm hgc)).trans hg1
 have n1:=zm V (.list D)
 have n2:=(zb (J:=V ++ [za.list D]) (.list L2) (Nat.ne_of_lt cl)).trans n1
 have q1:Mine.callB .len [.ref V.length] (V ++ [za.list D])=some (.int b,V ++ [za.list D]):=by rw[je,n1,jc _ _ (lD ▸ hb),lD]
 have q2:Mine.callB .len [.ref V.length] ((V ++ [za.list D]).set c (.list L2))=some (.int b,(V ++ [za.list D]).set c (.list L2)):=by rw[je,n2,jc _ _ (lD ▸ hb),lD]
 unfold gapO
 wp_walk using c1,e3,e4,s1,s2
theorem zlL {n:Nat}{D:List MV}(hg:V[g]?=some (.inst 6 [(81,.int 8),(82,.ref c),(83,.int x),(84,.int ((x:Int)+n))]))(hgc:g≠c)(cl:c < V.length)(lD:D.length=a)(hb:a<=1000000)(k:Nat)
  (s1:sliceGet (.ref c) (.int (x+n:Nat)) (.int (x+n+a:Nat)) V=some (.ref V.length,V ++ [za.list D])) (s2:setSlice (.ref c) (.int x) (.int (x+a:Nat)) (.ref V.length) (V ++ [za.list D])=some ((V ++ [za.list D]).set c (.list L2))):
  callN prog (k+1) 63 [.ref g,.int (x+a:Nat)] V=some (.none,((V ++ [za.list D]).set c (.list L2)).set g (gapO c (x+a:Nat) ((x+a:Nat)+n))):=by
 have gl:=zg hg
 have hg1:=zf [za.list D] hg
 have e3:=zmG x n a
 have e5:=zmW x n a
 have c1:decide (((x+a:Nat):Int) < x)=false:=decide_eq_false fun z=>Nat.not_lt_of_le (Nat.le_add_right x a) (Int.ofNat_lt.mp z)
 have e4:=zcx x n
 have hg2:=(zb (J:=V ++ [za.list D]) (.list L2) (Ne.symm hgc)).trans hg1
 have n1:=zm V (.list D)
 have n2:=(zb (J:=V ++ [za.list D]) (.list L2) (Nat.ne_of_lt cl)).trans n1
 have q1:Mine.callB .len [.ref V.length] (V ++ [za.list D])=some (.int a,V ++ [za.list D]):=by rw[je,n1,jc _ _ (lD ▸ hb),lD]
 have q2:Mine.callB .len [.ref V.length] ((V ++ [za.list D]).set c (.list L2))=some (.int a,(V ++ [za.list D]).set c (.list L2)):=by rw[je,n2,jc _ _ (lD ▸ hb),lD]
 unfold gapO
 rw[<- e5]
 have e6:=zcx x a
 wp_walk using c1,e3,s1,e4,e6,s2
theorem mvL {b n:Nat}(h:a+b+n+y<=400000):a+n<=a+b+n/\a+b+n<=a+b+n+y/\a+b+n+y+b<=1000000/\b<=1000000/\a+n+(b+y)<=400000:=
 have lb:b<=400000:=Nat.le_trans (Nat.le_trans (Nat.le_add_left b a) (Nat.le_trans (Nat.le_add_right _ n) (Nat.le_add_right _ y))) h
 ⟨Nat.add_le_add_right (Nat.le_add_right a b) n,Nat.le_add_right _ _,Nat.le_trans (Nat.add_le_add h lb) (by decide),Nat.le_trans lb (by decide),by rw[<- Nat.add_assoc,Nat.add_right_comm a n b];exact h⟩
theorem zle {A B:List MV}(h:jh V g c (A ++ B) G Y)(k:Nat)(hb:0 < B.length)(zz:∀ V' X' G' Y',(callN prog (k+1) 63 [.ref g,.int (A.length:Int)] V=some (.none,V'))->(jh V' g c X' G' Y')->(X' ++ Y'=A ++ B ++ Y)->(X'.length=A.length)->(G'.length=G.length)->(Frm g c V V')->GG):GG:=by
 have hl:=h.ll
 have hgc:=h.ne
 obtain⟨hg,hc,hf⟩:=h
 have cl:=zg hc
 rw[List.length_append] at hg hf
 have m:=mvL hf
 have lG:((B ++ (G ++ Y)).take G.length).length=G.length:=List.length_take_of_le (by rw[List.length_append,List.length_append,Nat.add_left_comm];exact Nat.le_add_right _ _)
 have s1:=slN hc hl A.length (A.length+B.length)
 rw[<- List.length_append,List.append_assoc (A ++ B),tk0,dp0,List.length_append] at s1
 have hll:(A ++ B ++ G ++ Y).length=A.length+B.length+G.length+Y.length:=by rw[zh8,List.length_append]
 have s2:=ssN (zf [za.list B] hc) (zm V (.list B)) (Nat.ne_of_lt cl) (A.length+G.length) (A.length+B.length+G.length) m.1 (hll ▸ m.2.1) (hll ▸ m.2.2.1)
 rw[show (A ++ B ++ G ++ Y).take (A.length+G.length)=A ++ (B ++ (G ++ Y)).take G.length by rw[List.append_assoc,List.append_assoc,tkA],show (A ++ B ++ G ++ Y).drop (A.length+B.length+G.length)=Y by rw[<- List.length_append,<- List.length_append,dp0]] at s2
 have w:=zls hg hgc cl rfl m.2.2.2.1 hb k s1 s2
 generalize (B ++ (G ++ Y)).take G.length=G' at lG w
 refine zz (((V ++ [za.list B]).set c (.list (A ++ G' ++ B ++ Y))).set g (gapO c A.length (A.length+G.length))) A G' (B ++ Y) w ⟨lG.symm ▸ get_set _ ((zb _ (Ne.symm hgc)).trans (zf _ hg)),?_,by rw[lG,List.length_append];exact m.2.2.2.2⟩ ((List.append_assoc _ _ _).symm) rfl lG (((Frm.app g c V _).trans (Frm.zkW g c _ _)).trans (Frm.zjF g c _ _))
 rw[zb _ hgc,get_set _ (zf _ hc),List.append_assoc (A ++ G')]
theorem mvR {n b:Nat}(h:x+n+(a+b)<=400000):x<=x+a/\x+a<=x+n+(a+b)/\x+n+(a+b)+a<=1000000/\a<=1000000/\x+a+n+b<=400000:=
 have la:a<=400000:=Nat.le_trans (Nat.le_trans (Nat.le_add_right a b) (Nat.le_add_left _ (x+n))) h
 ⟨Nat.le_add_right _ _,Nat.add_le_add (Nat.le_add_right x n) (Nat.le_add_right a b),Nat.le_trans (Nat.add_le_add h la) (by decide),Nat.le_trans la (by decide),by rw[Nat.add_right_comm x a n,Nat.add_assoc];exact h⟩
theorem zln {A B:List MV}(h:jh V g c X G (A ++ B))(k:Nat)(zz:∀ V' X' G' Y',(callN prog (k+1) 63 [.ref g,.int (X.length+A.length:Nat)] V=some (.none,V'))->(jh V' g c X' G' Y')->(X' ++ Y'=X ++ (A ++ B))->(X'.length=X.length+A.length)->(G'.length=G.length)->(Frm g c V V')->GG):GG:=by
 have hl:=h.ll
 have hgc:=h.ne
 obtain⟨hg,hc,hf⟩:=h
 have cl:=zg hc
 rw[List.length_append] at hf
 have m:=mvR hf
 have lG:((G ++ A).drop A.length).length=G.length:=by rw[List.length_drop,List.length_append,Nat.add_sub_cancel]
 have s1:=slN hc hl (X.length+G.length) (X.length+G.length+A.length)
 rw[<- List.length_append,tkA,dp0,tk0,List.length_append] at s1
 have hll:(X ++ G ++ (A ++ B)).length=X.length+G.length+(A.length+B.length):=by rw[zh8,List.length_append]
 have s2:=ssN (zf [za.list A] hc) (zm V (.list A)) (Nat.ne_of_lt cl) X.length (X.length+A.length) m.1 (hll ▸ m.2.1) (hll ▸ m.2.2.1)
 rw[show (X ++ G ++ (A ++ B)).take X.length=X by rw[List.append_assoc,tk0],show (X ++ G ++ (A ++ B)).drop (X.length+A.length)=(G ++ A).drop A.length ++ B by rw[List.append_assoc,dpA,<- List.append_assoc,List.drop_append_of_le_length (by rw[List.length_append];exact Nat.le_add_left _ _)]] at s2
 have w:=zlL hg hgc cl rfl m.2.2.2.1 k s1 s2
 generalize (G ++ A).drop A.length=G' at lG w
 refine zz (((V ++ [za.list A]).set c (.list (X ++ A ++ (G' ++ B)))).set g (gapO c (X.length+A.length:Nat) ((X.length+A.length:Nat)+G.length))) (X ++ A) G' B w ⟨?_,?_,by rw[lG,List.length_append];exact m.2.2.2.2⟩ (List.append_assoc _ _ _) List.length_append lG (((Frm.app g c V _).trans (Frm.zkW g c _ _)).trans (Frm.zjF g c _ _))
 ·rw[lG,List.length_append];exact get_set _ ((zb _ (Ne.symm hgc)).trans (zf _ hg))
 ·rw[zb _ hgc,get_set _ (zf _ hc),List.append_assoc (X ++ A)]
theorem move (h:jh V g c X G Y)(k a:Nat)(ha:a<=X.length+Y.length)(zz:∀ V' X' G' Y',(callN prog (k+1) 63 [.ref g,.int (a:Int)] V=some (.none,V'))->(jh V' g c X' G' Y')->(X' ++ Y'=X ++ Y)->(X'.length=a)->(G'.length=G.length)->(Frm g c V V')->GG):GG:=by
 by_cases e:a < X.length
 ·have q:=zle (A:=X.take a) (B:=X.drop a) (GG:=GG) (by rw[List.take_append_drop];exact h) k (by rw[List.length_drop];exact Nat.sub_pos_of_lt e)
  rw[List.take_append_drop,List.length_take_of_le (Nat.le_of_lt e)] at q
  exact q zz
 ·obtain⟨b,rfl⟩:=Nat.exists_eq_add_of_le (Nat.le_of_not_lt e)
  have q:=zln (A:=Y.take b) (B:=Y.drop b) (GG:=GG) (by rw[List.take_append_drop];exact h) k
  rw[List.take_append_drop,List.length_take_of_le (Nat.le_of_add_le_add_left ha)] at q
  exact q zz
theorem widen (h:jh V g c X G Y)(k n:Nat)(hn:X.length+G.length+Y.length+n+8<=400000)(zz:∀ V' G',(callN prog (k+1) 64 [.ref g,.int (n:Int)] V=some (.none,V'))->(jh V' g c X G' Y)->(n<=G'.length)->(G'.length<=G.length+n+8)->(Frm g c V V')->GG):GG:=by
 have hl:=h.ll
 have hgc:=h.ne
 have h':=h
 obtain⟨hg,hc,hf⟩:=h
 have cl:=zg hc
 unfold gapO at hg
 by_cases e:n<=G.length
 ·refine zz V G ?_ h' e (by lia) (Frm.refl g c V)
  have c1:decide ((n:Int) - ((X.length:Int)+G.length - X.length) > 0)=false:=decide_eq_false (by lia)
  wp_walk using c1
 ·obtain⟨d,rfl⟩:=Nat.exists_eq_add_of_le (Nat.le_of_not_le e)
  have hg1:=zf [za.list [.int 0]] hg
  have hg2:=zf [za.list (List.replicate (d+8) (.int 0))] hg1
  have hc2:=zf [za.list (List.replicate (d+8) (.int 0))] (zf [za.list [.int 0]] hc)
  have n1:=zm V (.list [.int 0])
  have n2:=zm (V ++ [za.list [.int 0]]) (.list (List.replicate (d+8) (.int 0)))
  have q:binop .mul (.ref V.length) (.int ((d:Int)+8)) (V ++ [za.list [.int 0]])=some (.ref (V ++ [za.list [.int 0]]).length,V ++ [za.list [.int 0]] ++ [za.list (List.replicate (d+8) (.int 0))]):=by
   rw[zix,n1,zil _ _ _ (by lia) (by lia)];rfl
  have lR:(List.replicate (d+8) (MV.int 0)).length=d+8:=List.length_replicate
  have ncw:c≠(V ++ [za.list [.int 0]]).length:=by rw[List.length_append];exact Nat.ne_of_lt (Nat.lt_of_lt_of_le cl (Nat.le_add_right _ _))
  have s:=ssN hc2 n2 ncw (X.length+G.length) (X.length+G.length) (Nat.le_refl _) (by rw[zh8];lia) (by rw[zh8,lR];lia)
  generalize hR:List.replicate (d+8) (MV.int 0)=R at *
  rw[<- List.length_append,tk0,dp0,List.length_append] at s
  have hg3:=(zb (J:=V ++ [za.list [.int 0]] ++ [za.list R]) (.list (X ++ G ++ R ++ Y)) (Ne.symm hgc)).trans hg2
  have e1:=zmM X.length G.length d
  have e2:=zcx X.length G.length
  have c1:decide ((d:Int) > 0)=true:=decide_eq_true (by lia)
  refine zz (((V ++ [za.list [.int 0]] ++ [za.list R]).set c (.list (X ++ G ++ R ++ Y))).set g (gapO c X.length (X.length+(G ++ R).length))) (G ++ R) ?_ ⟨get_set _ hg3,?_,by rw[List.length_append,lR];lia⟩ (by rw[List.length_append,lR];lia) (by rw[List.length_append,lR];lia) ((((Frm.app g c V _).trans (Frm.app g c _ _)).trans (Frm.zkW g c _ _)).trans (Frm.zjF g c _ _))
  ·unfold gapO
   have e3:(X.length:Int)+((G ++ R).length:Nat)=((X.length+G.length:Nat):Int)+d+8:=by rw[List.length_append,lR];lia
   rw[e3]
   wp_walk using e1,c1,e2,s
  ·rw[zb _ hgc,get_set _ hc2,List.append_assoc X]
end jh
theorem zmQ{g b:Nat}{G:List MV}(h:jh V g c X G Y)(ne:g≠c)(e1:s<=X.length)(e2:b<=Y.length):jh (V.set g (gapO c s ((X.length:Int)+G.length+b))) g c (X.take s) (X.drop s ++ G ++ Y.take b) (Y.drop b):=by
 obtain⟨hg,hc,hf⟩:=h
 have l1:(X.take s).length=s:=List.length_take_of_le e1
 have l2:(Y.take b).length=b:=List.length_take_of_le e2
 have l3:(X.drop s ++ G ++ Y.take b).length=X.length - s+G.length+b:=by rw[List.length_append,List.length_append,l2,List.length_drop]
 refine⟨(get_set _ hg).trans ?_,(zb _ ne).trans (hc.trans ?_),?_⟩
 ·rw[l1,l3,show ((X.length:Int)+G.length+b)=s+(X.length - s+G.length+b:Nat) by show ((X.length+G.length+b:Nat):Int)=((s+(X.length - s+G.length+b):Nat):Int);rw[<- Nat.add_assoc,<- Nat.add_assoc,Nat.add_sub_of_le e1]]
 ·rw[<- List.append_assoc,<- List.append_assoc,List.take_append_drop,List.append_assoc (X ++ G),List.take_append_drop]
 ·rw[l1,l3,List.length_drop,<- Nat.add_assoc,<- Nat.add_assoc,Nat.add_sub_of_le e1,Nat.add_assoc (X.length+G.length),Nat.add_sub_of_le e2];exact hf
theorem zmz{g e:Nat}{G X' G' Y':List MV}(h:jh V g c X G Y)(ne:g≠c)(e1:s<=X.length)(e2:X.length<=e)(t:X ++ Y=X' ++ Y')(l:G.length=G'.length)(he:e<=(X' ++ Y').length):
  xY (V.set g (gapO c s ((X.length:Int)+G.length+e - X.length))) g c (X'.length+G'.length+Y'.length) ((X' ++ Y').take s ++ (X' ++ Y').drop e):=by
 have lt:X.length+Y.length=X'.length+Y'.length:=by rw[<- List.length_append,<- List.length_append,t]
 rw[<- t] at he ⊢
 obtain⟨b,rfl⟩:=Nat.exists_eq_add_of_le e2
 rw[List.length_append] at he
 have hb:=Nat.le_of_add_le_add_left he
 rw[show ((X.length:Int)+G.length+(X.length+b:Nat) - X.length)=X.length+G.length+b by lia]
 refine⟨_,_,_,zmQ h ne e1 hb,by rw[List.take_append_of_le_length e1,dpA],?_⟩
 rw[List.length_append,List.length_append,List.length_take_of_le e1,List.length_take_of_le hb,List.length_drop,List.length_drop,<- Nat.add_assoc,<- Nat.add_assoc,Nat.add_sub_of_le e1,Nat.add_assoc (X.length+G.length),Nat.add_sub_of_le hb,l,Nat.add_right_comm,<- lt,Nat.add_right_comm]
namespace xY
variable {V:Hp}{g c n:Nat}{T:List MV}
theorem insert (h:xY V g c n T)(k a:Nat)(ha:a<=T.length){w:Nat}{W:List MV}(hw:V[w]?=some (.list W))(hwc:w≠c)(hn:n+W.length+8<=400000)(zz:∀ V' n',(callN prog (k+2) 65 [.ref g,.int (a:Int),.ref w] V=some (.none,V'))->(xY V' g c n' (T.take a ++ W ++ T.drop a))->(n'<=n+W.length+8)->(Frm g c V V')->GG):GG:=by
 have hwg:w≠g:=fun e=>by obtain⟨_,_,z⟩:=h.gat;rw[e,z] at hw;cases hw
 have hwl:=zg hw
 obtain⟨X,G,Y,h,rfl,rfl⟩:=h
 rw[List.length_append] at ha
 have hg:=h.1
 unfold gapO at hg
 have hgc:=h.ne
 refine h.widen k W.length hn fun Vd Ga q1 h1 g1 g1' F1=>?_
 refine h1.move k a ha fun Ve Xa Gb Y2 q2 h2 t2 x2 g2 F2=>?_
 have hw1:Vd[w]?=some (.list W):=(F1.2 w hwl hwg hwc).trans hw
 have hw2:Ve[w]?=some (.list W):=((F1.trans F2).2 w hwl hwg hwc).trans hw
 have hg1:=h1.1
 unfold gapO at hg1
 obtain⟨hg2,hc2,hf2⟩:=h2
 subst x2
 have lt:Xa.length+Y2.length=X.length+Y.length:=by rw[<- List.length_append,<- List.length_append,t2]
 refine zgc Gb (show W.length<=Gb.length by lia) fun A B w_2 lA=>?_
 obtain rfl:=w_2
 rw[List.length_append] at g2 hg2 hf2
 have hll:(Xa ++ (A ++ B) ++ Y2).length=Xa.length+(A.length+B.length)+Y2.length:=by rw[zh8,List.length_append]
 have s:=ssN hc2 hw2 (Ne.symm hwc) Xa.length (Xa.length+W.length) (Nat.le_add_right _ _) (by rw[hll];lia) (by rw[hll];lia)
 have e1:(Xa ++ (A ++ B) ++ Y2).take Xa.length=Xa:=by rw[List.append_assoc,tk0]
 have e2:(Xa ++ (A ++ B) ++ Y2).drop (Xa.length+W.length)=B ++ Y2:=by rw[<- lA,List.append_assoc,dpA,List.append_assoc,dp0]
 rw[e1,e2] at s
 unfold gapO at hg2
 have lW:W.length<=1000000:=by lia
 have q3:Mine.callB .len [.ref w] V=some (.int W.length,V):=by rw[je,hw,jc _ _ lW]
 have q4:Mine.callB .len [.ref w] Ve=some (.int W.length,Ve):=by rw[je,hw2,jc _ _ lW]
 have hw3:(Ve.set c (.list (Xa ++ W ++ (B ++ Y2))))[w]?=some (.list W):=(zb _ (Ne.symm hwc)).trans hw2
 have q5:Mine.callB .len [.ref w] (Ve.set c (.list (Xa ++ W ++ (B ++ Y2))))=some (.int W.length,Ve.set c (.list (Xa ++ W ++ (B ++ Y2)))):=by rw[je,hw3,jc _ _ lW]
 have hg3:=(zb (J:=Ve) (.list (Xa ++ W ++ (B ++ Y2))) (Ne.symm hgc)).trans hg2
 have e3:((Xa.length:Int)+((A.length+B.length:Nat):Int))=((Xa ++ W).length:Nat)+(B.length:Int):=by rw[List.length_append,<- lA];lia
 have e4:=zcx Xa.length W.length
 refine zz ((Ve.set c (.list (Xa ++ W ++ (B ++ Y2)))).set g (gapO c (Xa ++ W).length ((Xa ++ W).length+B.length))) ((Xa ++ W).length+B.length+Y2.length) ?_ ⟨Xa ++ W,B,Y2,⟨get_set _ hg3,?_,?_⟩,?_,rfl⟩ ?_ (((F1.trans F2).trans (Frm.zkW g c _ _)).trans (Frm.zjF g c _ _))
 ·unfold gapO
  rw[<- e3,List.length_append]
  wp_walk using e4,s
 ·rw[zb _ hgc,get_set _ hc2,List.append_assoc (Xa ++ W)]
 ·rw[List.length_append];lia
 ·rw[<- t2,tk0,dp0]
 ·rw[List.length_append];lia
theorem delete (h:xY V g c n T)(k s e:Nat)(hs:s<=e)(he:e<=T.length)(zz:∀ V' r,(callN prog (k+2) 66 [.ref g,.int (s:Int),.int (e:Int)] V=some (.ref r,V'))->(xY V' g c n (T.take s ++ T.drop e))->(Frm g c V V')->(V.length<=r)->(V'[r]?=some (.list ((T.take e).drop s)))->GG):GG:=by
 obtain⟨a0,b0,hg0⟩:=h.gat
 refine h.codes k s e hs he fun Vd r q1 u1 hr lr=>?_
 have hcl:=h.clt
 have hgl:=h.glt
 have hrc:r≠c:=by lia
 have hrg:r≠g:=by lia
 have h1:=h.zcU (fun o=>u1.keep (o:=o)) (fun o=>u1.keep (o:=o))
 have hrl:=zg hr
 obtain⟨X,G,Y,h1,rfl,rfl⟩:=h1
 clear h
 have hgc:=h1.ne
 have hg1:=h1.1
 rw[List.length_append] at he
 have fin:∀ Ve Xa Gb Y2,jh Ve g c Xa Gb Y2->Xa ++ Y2=X ++ Y->s<=Xa.length->Xa.length<=e->Gb.length=G.length->Frm g c Vd Ve->
   xY (Ve.set g (gapO c s ((Xa.length:Int)+Gb.length+e - Xa.length))) g c (X.length+G.length+Y.length) ((X ++ Y).take s ++ (X ++ Y).drop e)/\Frm g c V (Ve.set g (gapO c s ((Xa.length:Int)+Gb.length+e - Xa.length)))/\
    (Ve.set g (gapO c s ((Xa.length:Int)+Gb.length+e - Xa.length)))[r]?=some (.list (((X ++ Y).take e).drop s)):=fun Ve Xa Gb Y2 h2 t2 e1 e2 e3 F=>
  ⟨zmz h2 hgc e1 e2 t2 e3 (by rw[List.length_append];exact he),((Frm.upd u1).trans F).trans (Frm.zjF g c _ _),(zb _ (Ne.symm hrg)).trans ((F.2 r hrl hrg hrc).trans hr)⟩
 unfold gapO at hg0 hg1
 by_cases c1:e < X.length
 ·refine h1.move k e he fun Ve Xa Gb Y2 q2 h2 t2 x2 g2 F2=>?_
  obtain⟨R,F,hr'⟩:=fin Ve Xa Gb Y2 h2 t2 (by lia) (by lia) g2 F2
  refine zz _ r ?_ R F lr hr'
  have hg2:=h2.1
  have gl2:=zg hg2
  unfold gapO at hg2
  subst x2
  have c2:decide ((Xa.length:Int) < X.length)=true:=decide_eq_true (Int.ofNat_lt.mpr c1)
  have c3:decide ((s:Int) > Xa.length)=false:=decide_eq_false (by lia)
  wp_walk using c2,c3,gapO
 ·have c2:decide ((e:Int) < X.length)=false:=decide_eq_false (by lia)
  by_cases c3:X.length < s
  ·refine h1.move k s (by lia) fun Ve Xa Gb Y2 q2 h2 t2 x2 g2 F2=>?_
   obtain⟨R,F,hr'⟩:=fin Ve Xa Gb Y2 h2 t2 (by lia) (by lia) g2 F2
   refine zz _ r ?_ R F lr hr'
   have hg2:=h2.1
   have gl2:=zg hg2
   unfold gapO at hg2
   have c4:decide ((s:Int) > X.length)=true:=decide_eq_true (Int.ofNat_lt.mpr c3)
   wp_walk using c2,c4,gapO
  ·obtain⟨R,F,hr'⟩:=fin Vd X G Y h1 rfl (by lia) (by lia) rfl (Frm.refl _ _ _)
   refine zz _ r ?_ R F lr hr'
   have c4:decide ((s:Int) > X.length)=false:=decide_eq_false (by lia)
   wp_walk using c2,c4,gapO
end xY
noncomputable def bufL (B:Nat) (nm:List Nat) (p zv t ct:Int):List (Nat×MV):=[(93,.int 1),(10,.str nm),(43,.ref (B+6)),(54,.ref (B+11)),(45,.int p),(32,.int 1),(33,.int zv),(97,.none),(98,.bool true),(25,.bool false),(99,.int t),(100,.int ct),(101,.int 1),(35,.ref (B+13)),(40,.none),(48,.none),(50,.none),(102,.none),(19,.none),(103,.none)]
section
variable (B:Nat)(nm:List Nat)(p zv t ct x:Int)
theorem zi2:lk 43 (bufL B nm p zv t ct)=some (.ref (B+6)):=rfl
theorem ziX:lk 54 (bufL B nm p zv t ct)=some (.ref (B+11)):=rfl
theorem zjf:lk 45 (bufL B nm p zv t ct)=some (.int p):=rfl
theorem zi3:lk 32 (bufL B nm p zv t ct)=some (.int 1):=rfl
theorem zkl:lk 33 (bufL B nm p zv t ct)=some (.int zv):=rfl
theorem zkp:lk 25 (bufL B nm p zv t ct)=some (.bool false):=rfl
theorem zjO:lk 99 (bufL B nm p zv t ct)=some (.int t):=rfl
theorem zje:lk 35 (bufL B nm p zv t ct)=some (.ref (B+13)):=rfl
theorem zkL:lk 40 (bufL B nm p zv t ct)=some .none:=rfl
theorem zkt:lk 48 (bufL B nm p zv t ct)=some .none:=rfl
theorem zkd:lk 50 (bufL B nm p zv t ct)=some .none:=rfl
theorem zgR:lk 64 (bufL B nm p zv t ct)=.none:=rfl
theorem zg7:lk 76 (bufL B nm p zv t ct)=.none:=rfl
theorem zhb:lk 29 (bufL B nm p zv t ct)=.none:=rfl
theorem zgV:lk 27 (bufL B nm p zv t ct)=.none:=rfl
theorem zgY:lk 61 (bufL B nm p zv t ct)=.none:=rfl
theorem zjk:lk 1 (bufL B nm p zv t ct)=.none:=rfl
theorem zgJ:lk 38 (bufL B nm p zv t ct)=.none:=rfl
theorem zkk:st 45 (.int x) (bufL B nm p zv t ct)=bufL B nm x zv t ct:=rfl
theorem ziW:st 33 (.int x) (bufL B nm p zv t ct)=bufL B nm p x t ct:=rfl
theorem zkM:st 99 (.int x) (bufL B nm p zv t ct)=bufL B nm p zv x ct:=rfl
theorem zhg:st 100 (.int x) (bufL B nm p zv t ct)=bufL B nm p zv t x:=rfl
theorem zkA:(bufL B nm p zv t ct).length=20:=rfl
end
theorem LG:type_of% (an (an (an (an @zi2 @ziX) (an @zjf (an @zi3 @zkl))) (an (an @zkp (an @zjO @zje)) (an @zkL (an @zkt @zkd)))) (an (an (an @zgR (an @zg7 @zhb)) (an @zgV (an @zgY @zjk))) (an (an @zgJ (an @zkk @ziW)) (an @zkM (an @zhg @zkA))))):=(an (an (an (an @zi2 @ziX) (an @zjf (an @zi3 @zkl))) (an (an @zkp (an @zjO @zje)) (an @zkL (an @zkt @zkd)))) (an (an (an @zgR (an @zg7 @zhb)) (an @zgV (an @zgY @zjk))) (an (an @zgJ (an @zkk @ziW)) (an @zkM (an @zhg @zkA)))))
structure yg (V:Hp)(B:Nat)(nm:List Nat)(T:List Nat)(p zv t ct:Int)(nc:Nat):Prop where
 b:V[B+4]?=some (.inst 9 (bufL B nm p zv t ct))
 g:xY V (B+6) (B+10) nc (iz T)
 m:V[B+11]?=some (.inst 8 [(57,.ref (B+12))])
 d:V[B+12]?=some (.dict [])
 l:V[B+13]?=some (.list [])
namespace yg
variable {V:Hp}{B:Nat}{nm:List Nat}{T:List Nat}{p zv t ct:Int}{nc:Nat}
theorem app (h:yg V B nm T p zv t ct nc)(q:Hp):yg (V ++ q) B nm T p zv t ct nc:=
 ⟨zf q h.b,h.g.zcU (fun _ e=>zf q e) fun _ e=>zf q e,zf q h.m,zf q h.d,zf q h.l⟩
theorem upd (h:yg V B nm T p zv t ct nc)(u:Upd 0 0 V V'):yg V' B nm T p zv t ct nc:=
 ⟨u.keep h.b,h.g.zcU (fun _ e=>u.keep e) fun _ e=>u.keep e,u.keep h.m,u.keep h.d,u.keep h.l⟩
theorem out (h:yg V B nm T p zv t ct nc){lo:Nat}(u:Upd lo hi V V')(d:hi<=B∨B+14<=lo):yg V' B nm T p zv t ct nc:=
 ⟨u.get h.b (by lia),h.g.zcU (fun _ e=>u.get e (by lia)) fun _ e=>u.get e (by lia),u.get h.m (by lia),u.get h.d (by lia),u.get h.l (by lia)⟩
theorem zcW (h:yg V B nm T p zv t ct nc)(p' zv' t' ct':Int):yg (V.set (B+4) (.inst 9 (bufL B nm p' zv' t' ct'))) B nm T p' zv' t' ct' nc:=
 ⟨get_set _ h.b,h.g.zcU (fun _ e=>(zb _ (by lia)).trans e) fun _ e=>(zb _ (by lia)).trans e,(zb _ (by lia)).trans h.m,(zb _ (by lia)).trans h.d,(zb _ (by lia)).trans h.l⟩
theorem lt (h:yg V B nm T p zv t ct nc):B+13 < V.length:=zg h.l
variable (k:Nat)
theorem writable (h:yg V B nm T p zv t ct nc):callN prog (k+1) 23 [.ref (B+4)] V=some (.none,V):=by
 have hb:=h.b
 wp_walk using hb
theorem bsize (h:yg V B nm T p zv t ct nc):callN prog (k+2) 80 [.ref (B+4)] V=some (.int (T.length:Int),V):=by
 have hb:=h.b
 obtain⟨_,_,hg⟩:=h.g.gat
 have q:=h.g.size k
 rw[zF] at q
 unfold gapO at hg
 wp_walk using hb,hg,q
theorem room (h:yg V B nm T p zv t ct nc)(n:Int)(hn:T.length+n<=4194304):callN prog (k+3) 24 [.ref (B+4),.int n] V=some (.none,V):=by
 have hb:=h.b
 have q:=h.bsize k
 wp_walk using hb,q
theorem reached (h:yg V B nm T p zv t ct nc)(s e:Int)(h1:1<=s)(h2:s<=e)(h3:e<=zv):callN prog (k+1) 25 [.ref (B+4),.int s,.int e] V=some (.tup [.int s,.int e],V):=by
 have hb:=h.b
 by_cases c:s=e
 ·subst c
  wp_walk using hb,if_neg
 ·wp_walk using hb,if_neg,if_pos
theorem ahead (h:yg V B nm T p zv t ct nc)(s e:MV):callN prog (k+1) 26 [.ref (B+4),s,e] V=some (.none,V ++ [za.list []]):=by
 have hb:=h.b;have hl:=h.l
 wp_walk using hb,hl
theorem touch (h:yg V B nm T p zv t ct nc):callN prog (k+1) 83 [.ref (B+4),.bool true] V=some (.none,V.set (B+4) (.inst 9 (bufL B nm p zv (t+1) (t+1)))):=by
 have hb:=h.b;have lb:=zg h.b
 wp_walk using hb
theorem behind (h:yg V B nm T p zv t ct nc)(s e o:MV):callN prog (k+2) 27 [.ref (B+4),s,e,o] V=some (.none,V.set (B+4) (.inst 9 (bufL B nm p zv (t+1) (t+1))) ++ [za.list []]):=by
 have hb:=h.b;have lb:=zg h.b;have hl:=h.l;have ll:=zg h.l
 have q:=h.touch k
 wp_walk using hb,hl,q
theorem zeB (h:yg V B nm T p zv t ct nc)(s e:MV):callN prog (k+1) 30 [.ref (B+4),s,e] V=some (.none,V):=by
 have hb:=h.b
 wp_walk using hb
theorem zeR (h:yg V B nm T p zv t ct nc)(s e o:MV):callN prog (k+1) 31 [.ref (B+4),s,e,o] V=some (.none,V):=by
 have hb:=h.b
 wp_walk using hb
theorem numbers (h:yg V B nm T p zv t ct nc):callN prog (k+1) 70 [.ref (B+11)] V=some (.ref V.length,V ++ [za.list []]):=by
 have hm:=h.m;have hd:=h.d
 wp_walk using hm,hd
theorem zab (h:yg V B nm T p zv t ct nc)(s e o:MV):callN prog (k+2) 73 [.ref (B+11),s,e,o] V=some (.none,V ++ [za.list []]):=by
 have hm:=h.m;have q:=h.numbers k
 wp_walk using hm,q
theorem zfH (h:yg V B nm T p zv t ct nc)(s e:MV):callN prog (k+2) 74 [.ref (B+11),s,e] V=some (.none,V ++ [za.list []]):=by
 have hm:=h.m;have q:=h.numbers k
 wp_walk using hm,q
theorem zdA (h:yg V B nm T p zv t ct nc)(s e o:MV):callN prog (k+2) 75 [.ref (B+11),s,e,o] V=some (.none,V ++ [za.list []]):=by
 have hm:=h.m;have q:=h.numbers k
 wp_walk using hm,q
end yg
theorem wV (a:Nat)(T:List Nat):(iz T).take a=iz (T.take a):=by simp[iz,List.map_take]
theorem qX (a:Nat)(T:List Nat):(iz T).drop a=iz (T.drop a):=by simp[iz,List.map_drop]
namespace yg
variable {V:Hp}{B:Nat}{nm:List Nat}{T:List Nat}{p zv t ct:Int}{nc:Nat}
theorem zju (h:yg V B nm T p zv t ct nc){nc':Nat}(R:xY Vd (B+6) (B+10) nc' (iz T'))
  (f:∀ j,j < V.length->j≠B+6->j≠B+10->Vd[j]?=V[j]?):yg Vd B nm T' p zv t ct nc':=
 ⟨by rw[f _ (zg h.b) (by lia) (by lia)];exact h.b,R,by rw[f _ (zg h.m) (by lia) (by lia)];exact h.m,by rw[f _ (zg h.d) (by lia) (by lia)];exact h.d,by rw[f _ (zg h.l) (by lia) (by lia)];exact h.l⟩
theorem zhh(B:Nat)(n:V.length<=Vd.length)(f:∀ j,j < V.length->j≠B+6->j≠B+10->Vd[j]?=V[j]?):Upd B (B+14) V Vd:=
 ⟨n,fun j h o=>f j h (by lia) (by lia)⟩
variable (k:Nat)
theorem zgM (h:yg V B nm T p zv t ct nc)(a:Nat)(ha:a<=T.length){w:Nat}(hw:V[w]?=some (.list (iz W)))(hwo:w < B∨B+14<=w)(hn:nc+W.length+8<=400000)(zz:∀ V' p' nc',(callN prog (k+3) 29 [.ref (B+4),.int ((a:Int)+1),.ref w] V=some (.none,V'))->(yg V' B nm (T.take a ++ W ++ T.drop a) p' (zv+W.length) t ct nc')->(nc'<=nc+W.length+8)->(Upd B (B+14) V V')->GG):GG:=by
 have hb:=h.b
 obtain⟨_,_,hg⟩:=h.g.gat
 unfold gapO at hg
 refine h.g.insert k a (by rw[zF];exact ha) hw (by lia) (by rw[zF];exact hn) fun Vd nc' q1 R1 l1 nf=>?_
 obtain⟨n1,f1⟩:=nf
 rw[wV,qX,<- zaa,<- zaa] at R1
 rw[zF] at l1
 have X1:=h.zju R1 f1
 have U1:=zhh B n1 f1
 have hb1:=X1.b;have lb1:=zg X1.b
 have hw1:Vd[w]?=some (.list (iz W)):=U1.get hw hwo
 have wB:B+4≠w:=by lia
 have hc:W.length<=400000:=by lia
 by_cases c:(a:Int)+1 < p
 ·refine zz _ (p+W.length) nc' ?_ (X1.zcW (p+W.length) (zv+W.length) t ct) l1 (U1.trans (Upd.set _ _ (by lia)))
  wp_walk using hb,hg,Int.add_sub_cancel,q1,hb1,hw1,zF
 ·refine zz _ p nc' ?_ (X1.zcW p (zv+W.length) t ct) l1 (U1.trans (Upd.set _ _ (by lia)))
  wp_walk using hb,hg,Int.add_sub_cancel,q1,hb1,hw1,zF
theorem zd6 (h:yg V B nm T p zv t ct nc)(s e:Nat)(hs:s<=e)(he:e<=T.length)(zz:∀ V' p' nc' r,(callN prog (k+3) 28 [.ref (B+4),.int ((s:Int)+1),.int ((e:Int)+1)] V=some (.ref r,V'))->(yg V' B nm (T.take s ++ T.drop e) p' (zv - (e - s)) t ct nc')->(nc'=nc)->(Upd B (B+14) V V')->GG):GG:=by
 have hb:=h.b
 obtain⟨_,_,hg⟩:=h.g.gat
 unfold gapO at hg
 refine h.g.delete k s e hs (by rw[zF];exact he) fun Vd r q1 R1 w_4 lr hr=>?_
 obtain⟨n1,f1⟩:=w_4
 rw[wV,qX,<- zaa] at R1
 have X1:=h.zju R1 f1
 have U1:=zhh B n1 f1
 have hb1:=X1.b;have lb1:=zg X1.b
 have e1:((e:Int)+1 - ((s:Int)+1))=(e:Int) - s:=by lia
 by_cases c:(s:Int)+1 < p
 ·refine zz _ (if (s:Int)+1 < p - ((e:Int) - s) then p - ((e:Int) - s) else (s:Int)+1) nc r ?_ (X1.zcW _ (zv - (e - s)) t ct) rfl (U1.trans (Upd.set _ _ (by lia)))
  wp_walk using hb,hg,Int.add_sub_cancel,q1,hb1,e1
 ·refine zz _ p nc r ?_ (X1.zcW p (zv - (e - s)) t ct) rfl (U1.trans (Upd.set _ _ (by lia)))
  wp_walk using hb,hg,Int.add_sub_cancel,q1,hb1,e1
end yg
noncomputable def zH (V:Hp) (B:Nat) (nm:List Nat) (T:List Nat) (p:Int) (N:Nat):Prop:=∃ t ct nc,yg V B nm T p ((T.length:Int)+1) t ct nc/\nc<=N
theorem yg.toR{nm:List Nat}{zv t:Int}{nc:Nat}(X:yg V B nm T p zv t ct nc)(e:zv=(T.length:Int)+1)(l:nc<=N):zH V B nm T p N:=
 ⟨t,ct,nc,e ▸ X,l⟩
namespace zH
variable {V:Hp}{B:Nat}{nm:List Nat}{T:List Nat}{p:Int}{N:Nat}
theorem out (h:zH V B nm T p N){lo:Nat}(u:Upd lo hi V V')(d:hi<=B∨B+14<=lo):zH V' B nm T p N:=by
 obtain⟨t,ct,nc,X,l⟩:=h
 exact⟨t,ct,nc,X.out u d,l⟩
theorem keep (h:zH V B nm T p N)(u:Upd 0 0 V V'):zH V' B nm T p N:=h.out u (.inl (Nat.zero_le _))
variable (k:Nat)
theorem putIn (h:zH V B nm T p N)(a:Nat)(ha:a<=T.length){w:Nat}(hW:W≠[])(hw:V[w]?=some (.list (iz W)))(hwo:w < B∨B+14<=w)(hn:N+W.length+8<=400000)(bm:MV)(pb:Bool)(zz:∀ V' p',(callN prog (k+4) 32 [.ref (B+4),.int ((a:Int)+1),.ref w,bm,.bool pb] V=some (.none,V'))->(zH V' B nm (T.take a ++ W ++ T.drop a) p' (N+W.length+8))->(pb=true->p'=(a:Int)+1+W.length)->(Upd B (B+14) V V')->GG):GG:=by
 obtain⟨t,ct,nc,X,l⟩:=h
 have wl:W.length≠0:=fun e=>hW (List.length_eq_zero_iff.mp e)
 have tl:=X.g.zlZ
 rw[zF] at tl
 have q0:=X.writable (k+2)
 have q1:=X.reached (k+2) ((a:Int)+1) ((a:Int)+1) (by lia) (by lia) (by lia)
 have q2:=X.room k W.length (by lia)
 have q3:=X.ahead (k+2) (.int ((a:Int)+1)) (.int ((a:Int)+1))
 have X1:=X.app [za.list []]
 have U1:Upd B (B+14) V _:=Upd.app B (B+14) V [za.list []]
 have hw1:=U1.get hw hwo
 refine X1.zgM k a ha hw1 hwo (by lia) fun Ve pf nc2 q4 X2 l2 U2=>?_
 have hw2:=U2.get hw1 hwo
 have hb2:=X2.b;have lb2:=zg X2.b;have hm2:=X2.m;have lm2:=zg X2.m
 have wB:B+4≠w:=by lia
 have len:(((T.take a ++ W ++ T.drop a).length:Nat):Int)+1=(T.length:Int)+1+W.length:=by have:=zlM (W:=W) (Nat.le_refl a) ha;rw[Int.sub_self,Int.sub_zero] at this;exact this.symm
 cases pb with
 | true=>
  have X3:=X2.zcW ((a:Int)+1+W.length) ((T.length:Int)+1+W.length) t ct
  have U3:Upd B (B+14) Ve _:=Upd.set Ve (.inst 9 (bufL B nm ((a:Int)+1+W.length) ((T.length:Int)+1+W.length) t ct)) (show B<=B+4/\B+4 < B+14 by lia)
  have hw3:=U3.get hw2 hwo
  have q5:=X3.zab (k+1) (.int ((a:Int)+1)) (.int ((a:Int)+1+W.length)) bm
  have X4:=X3.app [za.list []]
  have q6:=X4.zeR (k+2) (.int ((a:Int)+1)) (.int W.length) bm
  have q7:=X4.behind (k+1) (.int ((a:Int)+1)) (.int ((a:Int)+1+W.length)) (.int 0)
  refine zz _ _ ?_ (((X4.zcW ((a:Int)+1+W.length) ((T.length:Int)+1+W.length) (t+1) (t+1)).app [za.list []]).toR len.symm (by lia)) (fun _=>rfl) (((((U1.trans U2).trans U3).trans (Upd.app _ _ _ _)).trans (Upd.set _ _ (by lia))).trans (Upd.app _ _ _ _))
  ·have hb3:=X3.b;have hm3:=X3.m;have hb4:=X4.b;have hw4:=zf [za.list []] hw3
   wp_walk using q0,q1,hw,zF,q2,q3,q4,hw2,hb2,hb3,hm3,hw3,q5,hw4,q6,q7
 | false=>
  have q5:=X2.zab (k+1) (.int ((a:Int)+1)) (.int ((a:Int)+1+W.length)) bm
  have X4:=X2.app [za.list []]
  have q6:=X4.zeR (k+2) (.int ((a:Int)+1)) (.int W.length) bm
  have q7:=X4.behind (k+1) (.int ((a:Int)+1)) (.int ((a:Int)+1+W.length)) (.int 0)
  refine zz _ _ ?_ (((X4.zcW pf ((T.length:Int)+1+W.length) (t+1) (t+1)).app [za.list []]).toR len.symm (by lia)) (fun e=>(nomatch e)) ((((U1.trans U2).trans (Upd.app _ _ _ _)).trans (Upd.set _ _ (by lia))).trans (Upd.app _ _ _ _))
  ·have hw4:=zf [za.list []] hw2
   wp_walk using q0,q1,hw,zF,q2,q3,q4,hw2,hb2,hm2,q5,hw4,q6,q7
end zH
theorem yg.finish{nm:List Nat}{zv t:Int}{nc:Nat}(X:yg V B nm T p zv t ct nc)(k s e:Nat)(hz:zv=(T.length:Int)+1)(hn:nc<=N'):
  callN prog (k+5) 75 [.ref (B+11),.int ((s:Int)+1),.int ((e:Int)+1),.int W.length] V=some (.none,V ++ [za.list []])/\
  callN prog (k+5) 31 [.ref (B+4),.int ((e:Int)+1),.int W.length,.bool true] (V ++ [za.list []])=some (.none,V ++ [za.list []])/\
  callN prog (k+5) 30 [.ref (B+4),.int ((s:Int)+1),.int ((e:Int)+1)] (V ++ [za.list []])=some (.none,V ++ [za.list []])/\
  ∃ Vg,callN prog (k+5) 27 [.ref (B+4),.int ((s:Int)+1),.int ((s:Int)+1+W.length),.int ((e:Int)+1 - ((s:Int)+1))] (V ++ [za.list []])=some (.none,Vg)/\
      zH Vg B nm T p N'/\Upd B (B+14) V Vg:=by
 have X5:=X.app [za.list []]
 refine⟨X.zdA (k+3) _ _ _,X5.zeR (k+4) _ _ _,X5.zeB (k+4) _ _,_,X5.behind (k+3) _ _ _,((X5.zcW p zv (t+1) (t+1)).app [za.list []]).toR hz hn,?_⟩
 exact ((Upd.app _ _ _ _).trans (Upd.set _ _ (by lia))).trans (Upd.app _ _ _ _)
namespace zH
variable {V:Hp}{B:Nat}{nm:List Nat}{T:List Nat}{p:Int}{N:Nat}
variable (k:Nat)
theorem insertAt (h:zH V B nm T p N)(a:Nat)(ha:a<=T.length){w:Nat}(hW:W≠[])(hw:V[w]?=some (.list (iz W)))(hwo:w < B∨B+14<=w)(hn:N+W.length+8<=400000)(zz:∀ V' p',(callN prog (k+5) 33 [.ref (B+4),.int ((a:Int)+1),.ref w] V=some (.none,V'))->(zH V' B nm (T.take a ++ W ++ T.drop a) p' (N+W.length+8))->(Upd B (B+14) V V')->GG):GG:=by
 refine h.putIn k a ha hW hw hwo hn (.bool false) false fun V' p' q R _ U=>?_
 refine zz V' p' ?_ R U
 wp_walk using q
theorem insert (h:zH V B nm T ((T.length:Int)+1) N){w:Nat}(hW:W≠[])(hw:V[w]?=some (.list (iz W)))(hwo:w < B∨B+14<=w)(hn:N+W.length+8<=400000)(zz:∀ V',(callN prog (k+5) 34 [.ref (B+4),.ref w] V=some (.none,V'))->(zH V' B nm (T ++ W) (((T ++ W).length:Int)+1) (N+W.length+8))->(Upd B (B+14) V V')->GG):GG:=by
 refine h.putIn k T.length (Nat.le_refl _) hW hw hwo hn (.bool false) true fun V' p' q R e U=>?_
 obtain⟨t,ct,nc,X,l⟩:=h
 have hb:=X.b
 rw[List.take_length,List.drop_length,List.append_nil,e rfl] at R
 have e2:((T ++ W).length:Int)+1=(T.length:Int)+1+W.length:=by simp;lia
 refine zz V' ?_ (by rw[e2];exact R) U
 wp_walk using hb,q
theorem delete (h:zH V B nm T p N)(s e:Nat)(hs:s < e)(he:e<=T.length)(zz:∀ V' p' r,(callN prog (k+4) 35 [.ref (B+4),.int ((s:Int)+1),.int ((e:Int)+1)] V=some (.ref r,V'))->(zH V' B nm (T.take s ++ T.drop e) p' N)->(Upd B (B+14) V V')->GG):GG:=by
 obtain⟨t,ct,nc,X,l⟩:=h
 have q0:=X.writable (k+2)
 have q1:=X.reached (k+2) ((s:Int)+1) ((e:Int)+1) (by lia) (by lia) (by lia)
 have q3:=X.ahead (k+2) (.int ((s:Int)+1)) (.int ((e:Int)+1))
 have X1:=X.app [za.list []]
 have U1:Upd B (B+14) V _:=Upd.app B (B+14) V [za.list []]
 refine X1.zd6 k s e (Nat.le_of_lt hs) he fun Ve pf nc2 r q4 X2 l2 U2=>?_
 have hb2:=X2.b;have lb2:=zg X2.b;have hm2:=X2.m;have lm2:=zg X2.m
 have len:((T.length:Int)+1 - (e - s))=((T.take s ++ T.drop e).length:Int)+1:=by rw[show T.take s ++ T.drop e=T.take s ++ [] ++ T.drop e by rw[List.append_nil]];exact (Int.add_zero _).symm.trans (zlM (W:=[]) (Nat.le_of_lt hs) he)
 have q5:=X2.zfH (k+1) (.int ((s:Int)+1)) (.int ((e:Int)+1))
 have X4:=X2.app [za.list []]
 have q6:=X4.zeB (k+2) (.int ((s:Int)+1)) (.int ((e:Int)+1))
 have q7:=X4.behind (k+1) (.int ((s:Int)+1)) (.int ((s:Int)+1)) (.int ((e:Int)+1 - ((s:Int)+1)))
 refine zz _ _ r ?_ (((X4.zcW pf ((T.length:Int)+1 - (e - s)) (t+1) (t+1)).app [za.list []]).toR len (by lia)) ((((U1.trans U2).trans (Upd.app _ _ _ _)).trans (Upd.set _ _ (by lia))).trans (Upd.app _ _ _ _))
 wp_walk using q0,q1,q3,q4,hb2,hm2,q5,q6,q7
theorem zdc (b:Bool){P:Prop}(t:b=true->P)(f:b=false->P):P:=(Bool.eq_false_or_eq_true b).elim t f
theorem zhd {Vg:Hp}{w r k:Nat}{nm:List Nat}{a b x y t:Int}(m24:m 24=some (.ref (B+4)))(m30:m 30=some (.int a))(m31:m 31=some (.int b))(m1:m 1=some (.ref w))(m57:m 57=some .none)(m42:m 42=some (.ref r))(wl:W.length<=1000000)(hb:κ[B+4]?=some (.inst 9 (bufL B nm x y t ct)))(hm:κ[B+11]?=some (.inst 8 [(57,.ref (B+12))]))(hw:κ[w]?=some (.list (iz W)))
  (r1:callN prog (k+5) 75 [.ref (B+11),.int a,.int b,.int W.length] κ=some (.none,κ ++ [za.list []])) (r2:callN prog (k+5) 31 [.ref (B+4),.int b,.int W.length,.bool true] (κ ++ [za.list []])=some (.none,κ ++ [za.list []])) (r3:callN prog (k+5) 30 [.ref (B+4),.int a,.int b] (κ ++ [za.list []])=some (.none,κ ++ [za.list []])) (r4:callN prog (k+5) 27 [.ref (B+4),.int a,.int (a+W.length),.int (b - a)] (κ ++ [za.list []])=some (.none,Vg)):
  execs prog (callN prog (k+5)) (f36.body.drop 10) m κ=some (some (.ref r),m,Vg):=by
 have hw':=zf [za.list []] hw
 show execs prog _ [_,_,_,_,_,_] m κ=_
 wp_walk using m24,m30,m31,m1,m57,m42,zF,hb,hm,hw,hw',r1,r2,r3,r4
noncomputable def mRep (B w r:Nat) (a b p:Int):Loc:=upd (upd (upd (upd (upd (upd (upd (upd (bindP [57] (List.drop 0 [MV.none])) 1 (.ref w)) 29 (.int b)) 28 (.int a)) 24 (.ref (B+4))) 30 (.int a)) 31 (.int b)) 45 (.int p)) 42 (.ref r)
theorem zjn {Ve Vf Vg:Hp}{w r k:Nat}{nm:List Nat}{a b y t:Int}(ab:(a == b)=false)(wl:W.length<=1000000)(w0:W.length≠0)(hb:V[B+4]?=some (.inst 9 (bufL B nm p y t ct)))(hw:V[w]?=some (.list (iz W)))(q0:callN prog (k+5) 23 [.ref (B+4)] V=some (.none,V))(q1:callN prog (k+5) 25 [.ref (B+4),.int a,.int b] V=some (.tup [.int a,.int b],V))
  (q2:callN prog (k+5) 24 [.ref (B+4),.int (W.length - (b - a))] V=some (.none,V)) (q3:callN prog (k+5) 26 [.ref (B+4),.int a,.int b] V=some (.none,V ++ [za.list []])) (q4:callN prog (k+5) 28 [.ref (B+4),.int a,.int b] (V ++ [za.list []])=some (.ref r,Ve)) (q5:callN prog (k+5) 29 [.ref (B+4),.int a,.ref w] Ve=some (.none,Vf)) (q:execs prog (callN prog (k+5)) (f36.body.drop 9) (mRep B w r a b p) Vf=some (some v,m',Vg)):
  callN prog (k+6) 36 [.ref (B+4),.int a,.int b,.ref w] V=some (v,Vg):=by
 have q:execs prog (callN prog (k+5)) [_,_,_,_,_,_,_] _ Vf=_:=q
 unfold mRep at q
 have w1:((W.length:Int) == 0)=false:=beq_eq_false_iff_ne.mpr (Int.ofNat_ne_zero.mpr w0)
 wp_walk using q0,q1,hw,zF,q2,hb,q3,q4,q5,ab,w1
theorem zjw {Vf:Hp}{w r k nc e:Nat}{nm Jja:List Nat}{ph y t:Int}(X3:yg Vf B nm Jja ph y t ct nc)(hw3:Vf[w]?=some (.list (iz W)))(hwo:w < B∨B+14<=w)(wb:W.length<=1000000)(len:y=(Jja.length:Int)+1)(lN:nc<=N)
  (zz:∀ m' Vg p',execs prog (callN prog (k+5)) (f36.body.drop 9) (mRep B w r ((s:Int)+1) ((e:Int)+1) p) Vf=some (some (.ref r),m',Vg)->zH Vg B nm Jja p' N->Upd B (B+14) Vf Vg->GG):GG:=by
 have hb3:=X3.b
 have lb3:=zg hb3
 refine zdc (decide ((e:Int)+1<=p)) (fun c3=>?_) fun c3=>?_
 ·have X4:=X3.zcW (p+W.length - ((e:Int)+1 - ((s:Int)+1))) y t ct
  have U4:Upd B (B+14) Vf _:=Upd.set Vf (.inst 9 (bufL B nm (p+W.length - ((e:Int)+1 - ((s:Int)+1))) y t ct)) ⟨Nat.le_add_right B 4,Nat.add_lt_add_left (by decide:4 < 14) B⟩
  have hw4:=U4.get hw3 hwo
  obtain⟨r1,r2,r3,Vg,r4,R,U5⟩:=X4.finish k (W:=W) s e len (N':=N) lN
  refine zz (mRep B w r ((s:Int)+1) ((e:Int)+1) p) Vg _ ?_ R (U4.trans U5)
  have q:=zhd (m:=mRep B w r ((s:Int)+1) ((e:Int)+1) p) rfl rfl rfl rfl rfl rfl wb X4.b X4.m hw4 r1 r2 r3 r4
  have q:execs prog (callN prog (k+5)) [_,_,_,_,_,_] _ _=_:=q
  show execs prog _ [_,_,_,_,_,_,_] _ Vf=_
  unfold mRep at q ⊢
  have c3:decide (p ≥ (e:Int)+1)=true:=c3
  wp_walk using hb3,hw3,zF,c3,q
 ·obtain⟨r1,r2,r3,Vg,r4,R,U5⟩:=X3.finish k (W:=W) s e len (N':=N) lN
  refine zz (mRep B w r ((s:Int)+1) ((e:Int)+1) p) Vg _ ?_ R U5
  have q:=zhd (m:=mRep B w r ((s:Int)+1) ((e:Int)+1) p) rfl rfl rfl rfl rfl rfl wb hb3 X3.m hw3 r1 r2 r3 r4
  have q:execs prog (callN prog (k+5)) [_,_,_,_,_,_] _ _=_:=q
  show execs prog _ [_,_,_,_,_,_,_] _ Vf=_
  unfold mRep at q ⊢
  have c3:decide (p ≥ (e:Int)+1)=false:=c3
  wp_walk using c3,q,Bool.false_eq_true
theorem replace (h:zH V B nm T p N)(s e:Nat)(hs:s<=e)(he:e<=T.length){w:Nat}(hW:s < e∨W≠[])(hw:V[w]?=some (.list (iz W)))(hwo:w < B∨B+14<=w)(hn:N+W.length+8<=400000)(zz:∀ V' v p',(callN prog (k+6) 36 [.ref (B+4),.int ((s:Int)+1),.int ((e:Int)+1),.ref w] V=some (v,V'))->(zH V' B nm (T.take s ++ W ++ T.drop e) p' (N+W.length+8))->(Upd B (B+14) V V')->GG):GG:=by
 have h':=h
 obtain⟨t,ct,nc,X,l⟩:=h
 have q0:=X.writable (k+4)
 have q1:=X.reached (k+4) ((s:Int)+1) ((e:Int)+1) (by lia) (by lia) (by lia)
 have tl:=X.g.zlZ
 rw[zF] at tl
 by_cases c1:s=e
 ·subst c1
  have hW':W≠[]:=hW.resolve_left (by lia)
  refine h'.insertAt k s he hW' hw hwo hn fun V' p' q R U=>?_
  refine zz _ (.ref V'.length) p' ?_ (R.keep (Upd.app 0 0 _ [za.list []])) (U.trans (Upd.app _ _ _ _))
  wp_walk using q0,q1,q
 ·by_cases c2:W=[]
  ·subst c2
   refine h'.delete (k+1) s e (by lia) he fun V' p' r q w_4 U=>?_
   obtain⟨t',ct',nc',X',l'⟩:=w_4
   refine zz V' (.ref r) p' ?_ ⟨t',ct',nc',by simpa using X',by lia⟩ U
   have w0:(iz ([]:List Nat)).length=0:=rfl
   wp_walk using q0,q1,q,hw,w0
  ·have wl:W.length≠0:=fun e=>c2 (List.length_eq_zero_iff.mp e)
   have hb:=X.b
   have q2:=X.room (k+2) (W.length - ((e:Int)+1 - ((s:Int)+1))) (by lia)
   have q3:=X.ahead (k+4) (.int ((s:Int)+1)) (.int ((e:Int)+1))
   have X1:=X.app [za.list []]
   have U1:Upd B (B+14) V _:=Upd.app B (B+14) V [za.list []]
   have hw1:=U1.get hw hwo
   refine X1.zd6 (k+2) s e hs he fun Ve pf nc2 r q4 X2 l2 U2=>?_
   have hw2:=U2.get hw1 hwo
   have tk:(T.take s).length=s:=List.length_take_of_le (Nat.le_trans hs he)
   refine X2.zgM (k+2) s (by simp;lia) hw2 hwo (by lia) fun Vf ph nc3 q5 X3 l3 U3=>?_
   have tt:(T.take s ++ T.drop e).take s ++ W ++ (T.take s ++ T.drop e).drop s=T.take s ++ W ++ T.drop e:=by
    rw[List.take_left' tk,List.drop_left' tk]
   rw[tt] at X3
   have hw3:=U3.get hw2 hwo
   have hb3:=X3.b;have lb3:=zg X3.b
   have len:((T.length:Int)+1 - (e - s)+W.length)=((T.take s ++ W ++ T.drop e).length:Int)+1:=zlM hs he
   have lN:nc3<=N+W.length+8:=by lia
   have wb:W.length<=1000000:=by lia
   have ab:(((s:Int)+1) == ((e:Int)+1))=false:=beq_eq_false_iff_ne.mpr fun z=>c1 (by lia)
   exact zjw (k:=k) (r:=r) (p:=p) X3 hw3 hwo wb len lN fun m' Vg p' q R U=>zz Vg _ p' (zjn ab wb wl hb hw q0 q1 q2 q3 q4 q5 q) R (((U1.trans U2).trans U3).trans U)
theorem zfs (h:zH V B nm T p N)(x:Int)(zz:∀ V',(setAttr prog (.ref (B+4)) 45 (.int x) V=some V')->(zH V' B nm T x N)->(Upd B (B+14) V V')->GG):GG:=by
 obtain⟨t,ct,nc,X,l⟩:=h
 have hb:=X.b
 refine zz _ ?_ ((X.zcW x _ t ct).toR rfl l) (Upd.set _ _ (by lia))
 exact zhq hb rfl rfl
theorem pt (h:zH V B nm T p N):attrOO V[B+4]? 45 V=some (.int p,V):=by
 obtain⟨t,ct,nc,X,l⟩:=h
 have hb:=X.b
 exact zd8 hb rfl rfl
theorem zv (h:zH V B nm T p N):attrOO V[B+4]? 33 V=some (.int ((T.length:Int)+1),V):=by
 obtain⟨t,ct,nc,X,l⟩:=h
 have hb:=X.b
 exact zd8 hb rfl rfl
theorem zmr (h:zH V B nm T p N):attrOO V[B+4]? 32 V=some (.int 1,V):=by
 obtain⟨t,ct,nc,X,l⟩:=h
 have hb:=X.b
 exact zd8 hb rfl rfl
theorem zjU (h:zH V B nm T p N):callN prog (k+1) 78 [.ref (B+4)] V=some (.int 1,V):=by
 have hz:=h.zmr
 wp_walk using hz
theorem end' (h:zH V B nm T p N):callN prog (k+1) 79 [.ref (B+4)] V=some (.int ((T.length:Int)+1),V):=by
 have hz:=h.zv
 wp_walk using hz
theorem size (h:zH V B nm T p N):callN prog (k+2) 80 [.ref (B+4)] V=some (.int (T.length:Int),V):=by
 obtain⟨t,ct,nc,X,l⟩:=h
 exact X.bsize k
theorem codeAt (h:zH V B nm T p N)(a:Nat)(hc:T[a]?=some c):callN prog (k+2) 81 [.ref (B+4),.int ((a:Int)+1)] V=some (.int c,V):=by
 obtain⟨t,ct,nc,X,l⟩:=h
 have hb:=X.b
 obtain⟨_,_,hg⟩:=X.g.gat
 have al:=(List.getElem?_eq_some_iff.mp hc).1
 have q:=X.g.code k a (v:=.int c) (by simp[iz,hc])
 unfold gapO at hg
 wp_walk using hb,hg,Int.add_sub_cancel,q
theorem codes (h:zH V B nm T p N)(s e:Nat)(hs:s<=e)(he:e<=T.length)(zz:∀ V' r,(callN prog (k+2) 82 [.ref (B+4),.int ((s:Int)+1),.int ((e:Int)+1)] V=some (.ref r,V'))->(Upd 0 0 V V')->(V'[r]?=some (.list (iz ((T.take e).drop s))))->(V.length<=r)->GG):GG:=by
 obtain⟨t,ct,nc,X,l⟩:=h
 have hb:=X.b
 obtain⟨_,_,hg⟩:=X.g.gat
 refine X.g.codes k s e hs (by rw[zF];exact he) fun V' r q U hr lr=>?_
 rw[wV,qX] at hr
 refine zz V' r ?_ U hr lr
 unfold gapO at hg
 wp_walk using hb,hg,Int.add_sub_cancel,q
end zH
theorem zH.b{nm:List Nat}(h:zH V B nm T p N)(zz:∀ t ct,(V[B+4]?=some (.inst 9 (bufL B nm p ((T.length:Int)+1) t ct)))->GG):GG:=
 let ⟨t,ct,_,X,_⟩:=h;zz t ct X.b
theorem zH.meth{nm:List Nat}(h:zH V B nm T p N)(call:CallT)(m:Loc)(x f:Nat)(args:List ME)(hx:prog.meth 9 x=some f)(hk:(x=64∨x=76∨x=29∨x=27∨x=61∨x=1∨x=38)):
  methOO call m (B+4) x args V[B+4]? V=bd (fun q=>call f (.ref (B+4) :: q.1) q.2) .mk (evalL prog call args m V):=by
 obtain⟨t,ct,nc,X,l⟩:=h
 have hl:lk x (bufL B nm p ((T.length:Int)+1) t ct)=.none:=by rcases hk with e | e | e | e | e | e | e <;> subst e <;> rfl
 rw[X.b,zgL,hx,hl,zha]
noncomputable def okc (c:Nat):Bool:=isAlnumC c || c == 32 || c == 10 || c == 45 || c == 44
noncomputable def kd (c:Nat):Nat:=if isAlnumC c then 119 else if c=45 then 95 else if c=44 then 46 else 32
theorem zm2 (c:Nat):[119].elem (kd c)=isAlnumC c:=by
 unfold kd
 cases h:isAlnumC c with
 | true=>rfl
 | false=>
  by_cases h1:c=45
  ·simp[h1]
  ·by_cases h2:c=44 <;> simp[h1,h2]
theorem zlY (c:Nat):([kd c] == [64])=false:=by
 unfold kd
 cases h:isAlnumC c with
 | true=>rfl
 | false=>
  by_cases h1:c=45
  ·simp[h1]
  ·by_cases h2:c=44 <;> simp[h1,h2]
theorem zh3 (c:Nat):([kd c] == [119])=isAlnumC c:=by
 unfold kd
 cases h:isAlnumC c with
 | true=>rfl
 | false=>
  by_cases h1:c=45
  ·simp[h1]
  ·by_cases h2:c=44 <;> simp[h1,h2]
structure zU (V:Hp)(S:Nat):Prop where
 s:V[S]?=some (.inst 4 [(69,.none),(57,.ref (S+1))])
 d:∃ D,V[S+1]?=some (.dict D)/\(∀ i,keyFits (.int i) D=true)/\∀ c,okc c=true->∃ a mt fl,dlk (.int (c:Int)) D=some (.ref a)/\V[a]?=some (.inst 3 [(64,.str [kd c]),(66,mt),(67,fl)])/\S<=a/\a < S+38
namespace zU
variable {V:Hp}{S:Nat}
theorem out (h:zU V S){lo:Nat}(u:Upd lo hi V V')(d:hi<=S∨S+38<=lo):zU V' S:=by
 obtain⟨s,D,d1,kf,all⟩:=h
 refine⟨u.get s (apart d (Nat.le_refl _) (Nat.lt_add_of_pos_right (by decide:0 < 38))),D,u.get d1 (apart d (Nat.le_succ _) (Nat.add_lt_add_left (by decide:1 < 38) S)),kf,fun c hc=>?_⟩
 obtain⟨a,mt,fl,e,ea,l1,l2⟩:=all c hc
 exact⟨a,mt,fl,e,u.get ea (apart d l1 l2),l1,l2⟩
theorem keep (h:zU V S)(u:Upd 0 0 V V'):zU V' S:=h.out u (.inl (Nat.zero_le _))
theorem at' (h:zU V S)(k:Nat)(hc:okc c=true)(zz:∀ a mt fl,(callN prog (k+2) 48 [.ref S,.int (c:Int)] V=some (.ref a,V))->(V[a]?=some (.inst 3 [(64,.str [kd c]),(66,mt),(67,fl)]))->GG):GG:=by
 obtain⟨s,D,d1,kf,all⟩:=h
 obtain⟨a,mt,fl,e,ea,l1,l2⟩:=all c hc
 have q1:callN prog (k+1) 47 [.ref S,.int (c:Int)] V=some (.ref a,V):=by
  wp_walk using s,d1,kf,e,ea,zlY,if_pos
 refine zz a mt fl ?_ ea
 wp_walk using s,q1
theorem kindOf (h:zU V S)(k:Nat)(hc:okc c=true):callN prog (k+3) 49 [.ref S,.int (c:Int)] V=some (.str [kd c],V):=by
 refine h.at' k hc fun a mt fl q ea=>?_
 have s:=h.s
 wp_walk using s,q,ea
theorem wordSign (h:zU V S)(k:Nat)(hc:okc c=true):callN prog (k+4) 15 [.int (c:Int),.ref S] V=some (.bool (isAlnumC c),V):=by
 have q:=h.kindOf k hc
 have s:=h.s
 wp_walk using s,q,zh3
end zU
noncomputable def allok (T:List Nat):Prop:=∀ c∈T,okc c=true
section
variable {V:Hp}{B S N:Nat}{nm T:List Nat}{p:Int}
theorem zkX (h:zH V B nm T p N)(hs:zU V S)(hT:allok T)(k a:Nat)(neg:Bool)(hc:T[a]?=some c):
  callN prog (k+4) 38 [.ref (B+4),.ref S,.int ((a:Int)+1),.str [119],.bool neg] V=some (.bool (isAlnumC c != neg),V):=by
 have ok:=hT c (List.mem_of_getElem? hc)
 have q1:=h.codeAt k a hc
 refine hs.at' (k) ok fun s mt fl q2 ea=>?_
 have hss:=hs.s
 have nn:¬ ((c:Int) < 0):=by lia
 have q3:callN prog (k+3) 37 [.ref (B+4),.ref S,.int ((a:Int)+1)] V=some (.ref s,V):=by
  refine h.b fun _ _ hb=>?_
  wp_walk using q1,hss,q2
 wp_walk using q3,ea,zm2
noncomputable def condF:ME:=.and [.cmp (.v 18) [.lt] [.v 65],.f 38 [.v 60,.v 2,.v 18,.v 62,.v 63]]
noncomputable def bodyF:List MS:=[.assign (.v 18) (.o .add (.v 18) (.l (.int 1)))]
noncomputable def condB:ME:=.and [.cmp (.v 18) [.gt] [.v 65],.f 38 [.v 60,.v 2,.o .sub (.v 18) (.l (.int 1)),.v 62,.v 63]]
noncomputable def bodyB:List MS:=[.assign (.v 18) (.o .sub (.v 18) (.l (.int 1)))]
theorem zjC (h:zH V B nm T p N)(hs:zU V S)(hT:allok T)(k:Nat)(neg:Bool):∀ (M A R:List Nat) (fuel:Nat) (m:Loc),T=A ++ M ++ R->(∀ c∈M,(isAlnumC c != neg)=true)->(∀ c R',R=c :: R'->(isAlnumC c != neg)=false)->M.length < fuel->
  m 60=some (.ref (B+4))->m 2=some (.ref S)->m 65=some (.int ((T.length:Int)+1))->m 62=some (.str [119])->m 63=some (.bool neg)->m 18=some (.int ((A.length:Int)+1)) ->∀ GG:Prop,(∀ m',(whileL (evalE prog (callN prog (k+4)) condF) (execs prog (callN prog (k+4)) bodyF) fuel m V=some (.none,m',V))->(m' 18=some (.int (((A ++ M).length:Int)+1)))->GG)->GG 
 | M,A,R,0=>fun m e _ _ hf _ _ _ _ _ _ GG zz=>by lia
 | [],A,R,f+1=>fun m e hM hR hf h60 h2 h65 h62 h63 h18 GG zz=>by
  refine zz m ?_ (by rw[h18,List.append_nil])
  cases R with
  | nil=>
   have l:A.length=T.length:=by rw[e];simp
   unfold condF
   wp_walk using h18,h65
  | cons c R'=>
   have l:A.length < T.length:=by rw[e];simp
   have hc:T[A.length]?=some c:=by rw[e];simp
   have q:=zkX h hs hT k A.length neg hc
   rw[hR c R' rfl] at q
   unfold condF
   wp_walk using h18,h65,h60,h2,h62,h63,q
 | c :: M,A,R,f+1=>fun m e hM hR hf h60 h2 h65 h62 h63 h18 GG zz=>by
  have l:A.length < T.length:=by rw[e];simp
  have hc:T[A.length]?=some c:=by rw[e];simp
  have q:=zkX h hs hT k A.length neg hc
  rw[hM c (by simp)] at q
  refine zjC h hs hT k neg M (A ++ [c]) R f (upd m 18 (.int ((A.length:Int)+1+1))) (by rw[e];simp) (fun c' h'=>hM c' (List.mem_cons_of_mem _ h')) hR (by simp at hf;lia)
   h60 h2 h65 h62 h63 (by simp[zA]) _ fun m' q' e'=>?_
  refine zz m' ?_ (by rw[e'];simp)
  have q1:evalE prog (callN prog (k+4)) condF m V=some (.bool true,V):=by
   unfold condF
   wp_walk using h18,h65,h60,h2,h62,h63,q
  have q2:execs prog (callN prog (k+4)) bodyF m V=some (.none,upd m 18 (.int ((A.length:Int)+1+1)),V):=by
   unfold bodyF
   wp_walk using h18
  exact wWc q1 (csT rfl (wWs q2 (wWn q')))
theorem zjq (h:zH V B nm T p N)(hs:zU V S)(hT:allok T)(k:Nat)(neg:Bool):∀ (n:Nat) (M A R:List Nat) (fuel:Nat) (m:Loc),M.length=n->T=A ++ M ++ R->(∀ c∈M,(isAlnumC c != neg)=true)->(∀ c A',A=A' ++ [c]->(isAlnumC c != neg)=false)->n < fuel->
  m 60=some (.ref (B+4))->m 2=some (.ref S)->m 65=some (.int 1)->m 62=some (.str [119])->m 63=some (.bool neg)->m 18=some (.int (((A ++ M).length:Int)+1)) ->∀ GG:Prop,(∀ m',(whileL (evalE prog (callN prog (k+4)) condB) (execs prog (callN prog (k+4)) bodyB) fuel m V=some (.none,m',V))->(m' 18=some (.int ((A.length:Int)+1)))->GG)->GG 
 | n,M,A,R,0=>fun m hn e _ _ hf _ _ _ _ _ _ GG zz=>by lia
 | 0,M,A,R,f+1=>fun m hn e hM hR hf h60 h2 h65 h62 h63 h18 GG zz=>by
  obtain rfl:=List.length_eq_zero_iff.mp hn
  rw[List.append_nil] at h18 e
  refine zz m ?_ h18
  rcases List.eq_nil_or_concat A with e0 | ⟨A',c,e0⟩
  ·subst e0
   unfold condB
   wp_walk using h18,h65
  ·rw[List.concat_eq_append] at e0
   have hc:T[A'.length]?=some c:=by rw[e,e0];simp
   have q:=zkX h hs hT k A'.length neg hc
   rw[hR c A' e0] at q
   have l:(A.length:Int)+1=((A'.length:Int)+1)+1:=by rw[e0];simp
   rw[l] at h18
   unfold condB
   wp_walk using h18,h65,h60,h2,h62,h63,Int.add_sub_cancel,q
 | n+1,M,A,R,f+1=>fun m hn e hM hR hf h60 h2 h65 h62 h63 h18 GG zz=>by
  rcases List.eq_nil_or_concat M with e0 | ⟨M',c,e0⟩
  ·rw[e0] at hn;simp at hn
  ·rw[List.concat_eq_append] at e0
   have hn':M'.length=n:=by rw[e0] at hn;simp at hn;exact hn
   have hc:T[(A ++ M').length]?=some c:=by rw[e,e0];simp
   have q:=zkX h hs hT k (A ++ M').length neg hc
   rw[hM c (by rw[e0];simp)] at q
   have l:(((A ++ M).length:Nat):Int)+1=(((A ++ M').length:Int)+1)+1:=by rw[e0];simp;lia
   rw[l] at h18
   refine zjq h hs hT k neg n M' A (c :: R) f (upd m 18 (.int (((A ++ M').length:Int)+1))) hn' (by rw[e,e0];simp) (fun c' h'=>hM c' (by rw[e0];simp[h'])) hR (by lia)
    h60 h2 h65 h62 h63 rfl _ fun m' q' e'=>?_
   refine zz m' ?_ e'
   generalize (A ++ M').length=x at *
   have q1:evalE prog (callN prog (k+4)) condB m V=some (.bool true,V):=by
    unfold condB
    wp_walk using h18,h65,h60,h2,h62,h63,Int.add_sub_cancel,q
   have q2:execs prog (callN prog (k+4)) bodyB m V=some (.none,upd m 18 (.int ((x:Int)+1)),V):=by
    unfold bodyB
    wp_walk using h18,Int.add_sub_cancel
   exact wWc q1 (csT rfl (wWs q2 (wWn q')))
theorem jV:turns=100000:=rfl
theorem yO (h:zH V B nm T p N)(hs:zU V S)(hT:allok T)(k:Nat)(neg:Bool)(M A R:List Nat)(e:T=A ++ M ++ R)(hM:∀ c∈M,(isAlnumC c != neg)=true)(hR:∀ c R',R=c :: R'->(isAlnumC c != neg)=false)(hf:T.length < 90000):
  callN prog (k+5) 39 [.ref (B+4),.ref S,.int ((A.length:Int)+1),.int ((T.length:Int)+1),.str [119],.bool neg] V=some (.int (((A ++ M).length:Int)+1),V):=by
 have lm:M.length<=T.length:=by rw[e];simp;lia
 refine zjC h hs hT k neg M A R turns (upd (upd (upd (upd (upd (upd e0 63 (.bool neg)) 62 (.str [119])) 65 (.int ((T.length:Int)+1))) 18 (.int ((A.length:Int)+1))) 2 (.ref S)) 60 (.ref (B+4))) e hM hR (by rw[jV];lia)
  rfl rfl rfl rfl rfl rfl _ fun m' q e'=>?_
 unfold condF bodyF at q
 wp_walk using q,e'
theorem qd (h:zH V B nm T p N)(hs:zU V S)(hT:allok T)(k:Nat)(neg:Bool)(M A R:List Nat)(e:T=A ++ M ++ R)(hM:∀ c∈M,(isAlnumC c != neg)=true)(hR:∀ c A',A=A' ++ [c]->(isAlnumC c != neg)=false)(hf:T.length < 90000):
  callN prog (k+5) 40 [.ref (B+4),.ref S,.int (((A ++ M).length:Int)+1),.int 1,.str [119],.bool neg] V=some (.int ((A.length:Int)+1),V):=by
 have lm:M.length<=T.length:=by rw[e];simp;lia
 refine zjq h hs hT k neg M.length M A R turns (upd (upd (upd (upd (upd (upd e0 63 (.bool neg)) 62 (.str [119])) 65 (.int 1)) 18 (.int (((A ++ M).length:Int)+1))) 2 (.ref S)) 60 (.ref (B+4))) rfl e hM hR (by rw[jV];lia)
  rfl rfl rfl rfl rfl rfl _ fun m' q e'=>?_
 unfold condB bodyB at q
 generalize (A ++ M).length=x at *
 wp_walk using q,e'
theorem zkj (k:Nat)(a b c d e:MV)(J:Hp):callN prog (k+5) 39 [a,b,c,d,e] J=callN prog (k+5) 39 [a,b,c,d,e,.bool false] J:=by rw[zh4,zl0]
theorem zjg (k:Nat)(a b c d e:MV)(J:Hp):callN prog (k+5) 40 [a,b,c,d,e] J=callN prog (k+5) 40 [a,b,c,d,e,.bool false] J:=by rw[zhL,zlK]
theorem qp:(isAlnumC c != true)=!isAlnumC c:=by cases isAlnumC c <;> rfl
theorem qz:(isAlnumC c != false)=isAlnumC c:=by cases isAlnumC c <;> rfl
theorem zgI (h:zH V B nm T p N)(hs:zU V S)(hT:allok T)(k:Nat)(A M W R:List Nat)(e:T=A ++ M ++ W ++ R)(hM:∀ c∈M,isAlnumC c=false)(hW:∀ c∈W,isAlnumC c=true)(hW0:W≠[])(hR:∀ c R',R=c :: R'->isAlnumC c=false)(hf:T.length < 90000):
  callN prog (k+7) 53 [.ref (B+4),.ref S,.int ((A.length:Int)+1),.int 1] V=some (.tup [.int (((A ++ M ++ W).length:Int)+1),.bool true],V):=by
 have q1:=yO h hs hT k true M A (W ++ R) (by rw[e];simp) (fun c hc=>by rw[qp,hM c hc];rfl) (fun c R' hc=>by
  cases W with
  | nil=>exact absurd rfl hW0
  | cons w W'=>simp at hc;rw[qp,<- hc.1,hW w (by simp)];rfl) hf
 have q2:=yO h hs hT k false W (A ++ M) R e (fun c hc=>by rw[qz,hW c hc]) (fun c R' hc=>by rw[qz,hR c R' hc]) hf
 have lw:W.length≠0:=fun e=>hW0 (List.length_eq_zero_iff.mp e)
 have lt:(A ++ M).length+W.length<=T.length:=by rw[e];simp;lia
 have q0:=h.end' (k+4)
 have q3:callN prog (k+6) 52 [.ref (B+4),.ref S,.int ((A.length:Int)+1),.int 1,.str [119]] V=some (.tup [.int (((A ++ M ++ W).length:Int)+1),.bool true],V):=by
  generalize (A ++ M ++ W).length=y at *
  generalize (A ++ M).length=x at *
  refine h.b fun _ _ hb=>?_
  wp_walk using q0,q1,zkj,zjg,q2
 wp_walk using q3
theorem zlp (h:zH V B nm T p N)(hs:zU V S)(hT:allok T)(k:Nat)(A M:List Nat)(e:T=A ++ M)(hM:∀ c∈M,isAlnumC c=false)(hf:T.length < 90000):
  callN prog (k+7) 53 [.ref (B+4),.ref S,.int ((A.length:Int)+1),.int 1] V=some (.tup [.int ((T.length:Int)+1),.bool false],V):=by
 have q1:=yO h hs hT k true M A [] (by rw[e];simp) (fun c hc=>by rw[qp,hM c hc];rfl) (fun c R' hc=>by cases hc) hf
 have lt:(A ++ M).length=T.length:=by rw[e]
 have q0:=h.end' (k+4)
 have q3:callN prog (k+6) 52 [.ref (B+4),.ref S,.int ((A.length:Int)+1),.int 1,.str [119]] V=some (.tup [.int ((T.length:Int)+1),.bool false],V):=by
  rw[lt] at q1
  refine h.b fun _ _ hb=>?_
  wp_walk using q0,q1
 wp_walk using q3
theorem zhO (h:zH V B nm T p N)(hs:zU V S)(hT:allok T)(k:Nat)(A W R:List Nat)(e:T=A ++ W ++ R)(hW:∀ c∈W,isAlnumC c=true)(hW0:W≠[])(hA:∀ c A',A=A' ++ [c]->isAlnumC c=false)(hf:T.length < 90000):
  callN prog (k+7) 53 [.ref (B+4),.ref S,.int (((A ++ W).length:Int)+1),.int (-1)] V=some (.tup [.int ((A.length:Int)+1),.bool true],V):=by
 have lw:W.length≠0:=fun e=>hW0 (List.length_eq_zero_iff.mp e)
 have q1:=qd h hs hT k true [] (A ++ W) R (by rw[e];simp) (fun c hc=>by cases hc) (fun c A' hc=>by
  rcases List.eq_nil_or_concat W with e0 | ⟨W',w,e0⟩
  ·exact absurd e0 hW0
  ·rw[List.concat_eq_append] at e0
   rw[e0,<- List.append_assoc] at hc
   have:=List.append_inj_right' hc rfl
   simp at this
   rw[qp,<- this,hW w (by rw[e0];simp)];rfl) hf
 have q2:=qd h hs hT k false W A R e (fun c hc=>by rw[qz,hW c hc]) (fun c A' hc=>by rw[qz,hA c A' hc]) hf
 rw[List.append_nil] at q1
 have lt:(A ++ W).length=A.length+W.length:=by simp
 have q0:=h.zjU (k+4)
 generalize (A ++ W).length=y at *
 have q3:callN prog (k+6) 52 [.ref (B+4),.ref S,.int ((y:Int)+1),.int (-1),.str [119]] V=some (.tup [.int ((A.length:Int)+1),.bool true],V):=by
  refine h.b fun _ _ hb=>?_
  wp_walk using q0,q1,zkj,zjg,q2
 wp_walk using q3
theorem jD (A W R:List Nat)(h:zH V B nm T (((A ++ W).length:Int)+1) N)(hs:zU V S)(hT:allok T)(k:Nat)(e:T=A ++ W ++ R)(hW:∀ c∈W,isAlnumC c=true)(hW0:W≠[])(hA:∀ c A',A=A' ++ [c]->isAlnumC c=false)(hR:∀ c R',R=c :: R'->isAlnumC c=false)(hf:T.length < 90000):
  callN prog (k+8) 55 [.ref (B+4),.ref S] V=some (.tup [.int ((A.length:Int)+1),.int (((A ++ W).length:Int)+1)],V):=by
 have q1:=zhO h hs hT k A W R e hW hW0 hA hf
 have q2:=zgI h hs hT k A [] W R (by rw[e];simp) (fun c hc=>by cases hc) hW hW0 hR hf
 rw[List.append_nil] at q2
 have q0:=h.pt
 generalize (A ++ W).length=y at *
 wp_walk using q0,q1,q2,if_neg
end
noncomputable def low (W:List Nat):Prop:=∀ c∈W,c < 128
section
variable {V:Hp}(k:Nat)
theorem qw (s:List Nat)(hs:s.length<=1000000):callN prog (k+1) 90 [.str s] V=some (.ref V.length,V ++ [za.list (iz s)]):=by
 have e:compLoop [] (compF (callN prog k) (.b .ord [.v 71]) false [71] [] (upd e0 43 (.str s))) (chrs s) V=some (iz s,V):=
  kJ (t:=fun c=>MV.str [c]) (g:=fun (c:Nat)=>.int (c:Int)) rfl s fun c _=>by wp_walk using fst_mk
 wp_walk using e
theorem down1 (c:Nat)(h:c < 128):callN prog (k+1) 0 [.int (c:Int)] V=some (.int (loC c:Nat),V):=by
 by_cases c1:65<=c
 ·by_cases c2:c<=90
  ·have e:loC c=c+32:=by unfold loC;rw[if_pos (by simp;lia)]
   rw[e]
   wp_walk using fst_mk
  ·have e:loC c=c:=by unfold loC;rw[if_neg (by simp;lia)]
   rw[e]
   wp_walk using fst_mk
 ·have e:loC c=c:=by unfold loC;rw[if_neg (by simp;lia)]
  rw[e]
  wp_walk using fst_mk
theorem up1 (c:Nat)(h:c < 128):callN prog (k+1) 1 [.int (c:Int)] V=some (.int (upC c:Nat),V):=by
 by_cases c1:97<=c
 ·by_cases c2:c<=122
  ·have e:upC c=c - 32:=by unfold upC;rw[if_pos (by simp;lia)]
   have e2:(c:Int) - 32=((c - 32:Nat):Int):=(Int.ofNat_sub (by lia)).symm
   rw[e]
   wp_walk using e2
  ·have e:upC c=c:=by unfold upC;rw[if_neg (by simp;lia)]
   rw[e]
   wp_walk using fst_mk
 ·have e:upC c=c:=by unfold upC;rw[if_neg (by simp;lia)]
  rw[e]
  wp_walk using fst_mk
theorem neI (a b:Nat):(!decide ((a:Int)=(b:Int)))=(a != b):=by
 by_cases e:a=b
 ·subst e;simp
 ·simp[e,Int.ofNat_inj]
theorem isUpper (c:Nat)(h:c < 128):callN prog (k+2) 2 [.int (c:Int)] V=some (.bool (loC c != c),V):=by
 have q:=down1 (V:=V) k c h
 have e:=neI (loC c) c
 wp_walk using e
theorem isLower (c:Nat)(h:c < 128):callN prog (k+2) 3 [.int (c:Int)] V=some (.bool (upC c != c),V):=by
 have q:=up1 (V:=V) k c h
 have e:=neI (upC c) c
 wp_walk using e
variable {w:Nat}{W:List Nat}(hw:V[w]?=some (.list (iz W)))(hl:low W)(hn:W.length<=1000000)
include hw hl hn
theorem qR:callN prog (k+2) 5 [.ref w] V=some (.ref V.length,V ++ [za.list (iz (W.map loC))]):=by
 have e:compLoop [(w,some (iz W))] (compF (callN prog (k+1)) (.f 0 [.v 0]) false [0] [] (upd e0 1 (.ref w))) (iz W) V=some ((iz W).map (fun v=>match v with | .int i=>.int (loC i.toNat:Nat) | v=>v),V):=by
  refine comp_map (zG hw) _ fun v hv=>?_
  unfold iz at hv
  obtain⟨c,hc,rfl⟩:=List.mem_map.mp hv
  have q:=down1 (V:=V) k c (hl c hc)
  wp_walk using q
 have e2:(iz W).map (fun v=>match v with | .int i=>.int (loC i.toNat:Nat) | v=>v)=iz (W.map loC):=by
  unfold iz
  rw[List.map_map,List.map_map]
  rfl
 have e3:(iz (W.map loC)).length<=1000000:=by simpa[iz] using hn
 rw[e2] at e
 wp_walk using hw,e
theorem zdy:callN prog (k+2) 4 [.ref w] V=some (.ref V.length,V ++ [za.list (iz (W.map upC))]):=by
 have e:compLoop [(w,some (iz W))] (compF (callN prog (k+1)) (.f 1 [.v 0]) false [0] [] (upd e0 1 (.ref w))) (iz W) V=some ((iz W).map (fun v=>match v with | .int i=>.int (upC i.toNat:Nat) | v=>v),V):=by
  refine comp_map (zG hw) _ fun v hv=>?_
  unfold iz at hv
  obtain⟨c,hc,rfl⟩:=List.mem_map.mp hv
  have q:=up1 (V:=V) k c (hl c hc)
  wp_walk using q
 have e2:(iz W).map (fun v=>match v with | .int i=>.int (upC i.toNat:Nat) | v=>v)=iz (W.map upC):=by
  unfold iz
  rw[List.map_map,List.map_map]
  rfl
 have e3:(iz (W.map upC)).length<=1000000:=by simpa[iz] using hn
 rw[e2] at e
 wp_walk using hw,e
end
noncomputable def keyS (W:List Nat):List Nat:=joinS [44] (W.map (digits 4))
theorem zjs (sep:List Nat)(i:Nat)(J:Hp):Mine.methB .join (.str sep) [.ref i] J=qL J[i]? fun l=>(strsOf l).bind fun ss=>if ss.foldl (fun n s=>n+s.length+sep.length) 0<=1000000 then some (.str (joinS sep ss),J) else .none:=rfl
theorem zcT (ss:List (List Nat)):strsOf (ss.map MV.str)=some ss:=by
 induction ss with
 | nil=>rfl
 | cons a r ih=>show (strsOf (r.map MV.str)).bind (fun r=>some (a :: r))=_;rw[ih];rfl
theorem zdt (sep:Nat)(b:Nat):∀ (ss:List (List Nat)) (n:Nat),(∀ s∈ss,s.length<=b)->ss.foldl (fun n s=>n+s.length+sep) n<=n+ss.length * (b+sep)
 | []=>fun n _=>by simp
 | s :: r=>fun n h=>by
  have:=zdt sep b r (n+s.length+sep) fun t ht=>h t (List.mem_cons_of_mem _ ht)
  have h1:=h s (by simp)
  simp only[List.foldl_cons,List.length_cons,Nat.add_mul,Nat.one_mul]
  omega
theorem yV{i:Nat}(h:V[i]?=some (.list (ss.map MV.str)))(b:Nat)(hb:∀ s∈ss,s.length<=b)(hn:ss.length * (b+sep.length)<=1000000):
  Mine.methB .join (.str sep) [.ref i] V=some (.str (joinS sep ss),V):=by
 have:=zdt sep.length b ss 0 hb
 rw[zjs,h]
 show ((strsOf (ss.map MV.str)).bind fun ss=>if ss.foldl (fun n s=>n+s.length+sep.length) 0<=1000000 then some (MV.str (joinS sep ss),V) else none)=_
 rw[zcT]
 exact if_pos (by omega)
theorem zcH:∀ n,n < 128->(digits 4 n).length<=3:=by decide
section
variable {V:Hp}(k:Nat)
variable {w:Nat}{W:List Nat}(hw:V[w]?=some (.list (iz W)))(hl:low W)(hn:W.length<=10000)
include hw hl hn
theorem keyOf:callN prog (k+1) 9 [.ref w] V=some (.str (keyS W),V ++ [za.list ((W.map (digits 4)).map MV.str)]):=by
 have e:compLoop [(w,some (iz W))] (compF (callN prog k) (.b .str [.v 0]) false [0] [] (upd e0 1 (.ref w))) (iz W) V=some ((iz W).map (fun v=>match v with | .int i=>.str (digits 4 i.toNat) | v=>v),V):=by
  refine comp_map (zG hw) _ fun v hv=>?_
  unfold iz at hv
  obtain⟨c,hc,rfl⟩:=List.mem_map.mp hv
  have hc':=hl c hc
  have q:Mine.callB .str [.int (c:Int)] V=some (.str (digits 4 c),V):=by
   show (if decide (0<=(c:Int)) && decide ((c:Int) < 128) then some (MV.str (digits 4 (c:Int).toNat),V) else none)=_
   rw[if_pos (by simp;lia)];rfl
  wp_walk using q
 have e2:(iz W).map (fun v=>match v with | .int i=>.str (digits 4 i.toNat) | v=>v)=(W.map (digits 4)).map MV.str:=by
  unfold iz
  rw[List.map_map,List.map_map]
  rfl
 have e3:((W.map (digits 4)).map MV.str).length<=1000000:=by simp;lia
 have q:=yV (V:=V ++ [za.list ((W.map (digits 4)).map MV.str)]) (i:=V.length) (sep:=[44]) (zm _ _) 3 (fun s hs=>by
  obtain⟨c,hc,rfl⟩:=List.mem_map.mp hs
  exact zcH c (hl c hc)) (by simp;lia)
 rw[e2] at e
 unfold keyS
 wp_walk using hw,e,q
theorem zga:callN prog (k+3) 17 [.ref w] V=some (.bool (W.any fun c=>loC c != c),V ++ [za.list (iz (W.filter fun c=>loC c != c))]):=by
 have e:compLoop [(w,some (iz W))] (compF (callN prog (k+2)) (.v 0) false [0] [.f 2 [.v 0]] (upd e0 1 (.ref w))) (iz W) V=some ((iz W).flatMap (fun v=>match v with | .int i=>if loC i.toNat != i.toNat then [v] else [] | v=>[]),V):=by
  refine yF (zG hw) _ fun v hv=>?_
  unfold iz at hv
  obtain⟨c,hc,rfl⟩:=List.mem_map.mp hv
  have q:=isUpper (V:=V) k c (hl c hc)
  cases h:(loC c != c) <;> rw[h] at q <;> wp_walk using h
 have e2:(iz W).flatMap (fun v=>match v with | .int i=>if loC i.toNat != i.toNat then [v] else [] | v=>[])=iz (W.filter fun c=>loC c != c):=by
  clear hw e hl hn
  unfold iz
  induction W with
  | nil=>rfl
  | cons c W ih=>
   rw[List.map_cons,List.flatMap_cons,ih,List.filter_cons]
   simp only[Int.toNat_natCast]
   split <;> rfl
 have e3:(iz (W.filter fun c=>loC c != c)).length<=1000000:=by
  have:=List.length_filter_le (fun c=>loC c != c) W
  rw[zF];omega
 have e4:decide (0 < ((iz (W.filter fun c=>loC c != c)).length:Int))=W.any fun c=>loC c != c:=by
  rw[zF,Bool.eq_iff_iff,decide_eq_true_eq,List.any_eq_true]
  constructor
  ·intro h
   have:0 < (W.filter fun c=>loC c != c).length:=by omega
   obtain⟨c,hc⟩:=List.length_pos_iff_exists_mem.mp this
   exact⟨c,(List.mem_filter.mp hc).1,(List.mem_filter.mp hc).2⟩
  ·rintro⟨c,hc,h⟩
   have:=List.length_pos_of_mem (List.mem_filter.mpr ⟨hc,h⟩:c∈W.filter fun c=>loC c != c)
   omega
 rw[e2] at e
 wp_walk using hw,e,e4
theorem zgt:callN prog (k+3) 18 [.ref w] V=some (.bool (W.any fun c=>upC c != c),V ++ [za.list (iz (W.filter fun c=>upC c != c))]):=by
 have e:compLoop [(w,some (iz W))] (compF (callN prog (k+2)) (.v 0) false [0] [.f 3 [.v 0]] (upd e0 1 (.ref w))) (iz W) V=some ((iz W).flatMap (fun v=>match v with | .int i=>if upC i.toNat != i.toNat then [v] else [] | v=>[]),V):=by
  refine yF (zG hw) _ fun v hv=>?_
  unfold iz at hv
  obtain⟨c,hc,rfl⟩:=List.mem_map.mp hv
  have q:=isLower (V:=V) k c (hl c hc)
  cases h:(upC c != c) <;> rw[h] at q <;> wp_walk using h
 have e2:(iz W).flatMap (fun v=>match v with | .int i=>if upC i.toNat != i.toNat then [v] else [] | v=>[])=iz (W.filter fun c=>upC c != c):=by
  clear hw e hl hn
  unfold iz
  induction W with
  | nil=>rfl
  | cons c W ih=>
   rw[List.map_cons,List.flatMap_cons,ih,List.filter_cons]
   simp only[Int.toNat_natCast]
   split <;> rfl
 have e3:(iz (W.filter fun c=>upC c != c)).length<=1000000:=by
  have:=List.length_filter_le (fun c=>upC c != c) W
  rw[zF];omega
 have e4:decide (0 < ((iz (W.filter fun c=>upC c != c)).length:Int))=W.any fun c=>upC c != c:=by
  rw[zF,Bool.eq_iff_iff,decide_eq_true_eq,List.any_eq_true]
  constructor
  ·intro h
   have:0 < (W.filter fun c=>upC c != c).length:=by omega
   obtain⟨c,hc⟩:=List.length_pos_iff_exists_mem.mp this
   exact⟨c,(List.mem_filter.mp hc).1,(List.mem_filter.mp hc).2⟩
  ·rintro⟨c,hc,h⟩
   have:=List.length_pos_of_mem (List.mem_filter.mpr ⟨hc,h⟩:c∈W.filter fun c=>upC c != c)
   omega
 rw[e2] at e
 wp_walk using hw,e,e4
end
noncomputable def mwF:List Nat->Nat->Bool->Nat
 | [],n,_=>n
 | c :: r,n,b=>mwF r (if isAlnumC c && !b then n+1 else n) (isAlnumC c)
noncomputable def fuP:List Nat->List Nat
 | []=>[]
 | c :: r=>if isAlnumC c then upC c :: r else c :: fuP r
noncomputable def iuP:List Nat->Bool->List Nat
 | [],_=>[]
 | c :: r,b=>(if b then c else upC c) :: iuP r (isAlnumC c)
theorem zdG (c:Nat)(r:List Nat):iz (c :: r)=.int (c:Int) :: iz r:=rfl
theorem zcX:iz []=[]:=rfl
theorem z6 (V:Hp)(a b:za):(V ++ [a]).set V.length b=V ++ [b]:=by simp
theorem yc(h:okc c=true):c < 128:=by
 have eq:∀ {b:Nat},(c == b)=true->b < 128->c < 128:=fun h hb=>beq_iff_eq.mp h ▸ hb
 have o:∀ {a b:Bool},(a || b)=true->(a=true->c < 128)->(b=true->c < 128)->c < 128:=fun h f g=>(Bool.or_eq_true_iff.mp h).elim f g
 refine o h (fun h=>o h (fun h=>o h (fun h=>o h (fun h=>o h (fun h=>o h (fun h=>?_) fun h=>?_) fun h=>?_) fun h=>eq h (by decide)) fun h=>eq h (by decide)) fun h=>eq h (by decide)) fun h=>eq h (by decide)
 ·exact Nat.lt_of_le_of_lt (of_decide_eq_true (Bool.and_eq_true_iff.mp h).2) (by decide)
 ·exact Nat.lt_of_le_of_lt (of_decide_eq_true (Bool.and_eq_true_iff.mp h).2) (by decide)
 ·exact Nat.lt_of_le_of_lt (of_decide_eq_true (Bool.and_eq_true_iff.mp h).2) (by decide)
section
variable {V:Hp}{S:Nat}(hs:zU V S)(k:Nat){w:Nat}{W:List Nat}(hw:V[w]?=some (.list (iz W)))
noncomputable def mwB:List MS:=[.ifs (.and [.f 15 [.v 0,.v 19],.not (.v 21)]) [.assign (.v 20) (.o .add (.v 20) (.l (.int 1)))] [],
   .assign (.v 21) (.f 15 [.v 0,.v 19])]
include hs hw
theorem zgw:∀ (W':List Nat) (n:Nat) (b:Bool) (m:Loc),allok W'->m 19=some (.ref S)->m 20=some (.int (n:Int))->m 21=some (.bool b) ->∀ GG:Prop,(∀ m',(forL [(w,some (iz W))] false [0] (execs prog (callN prog (k+4)) mwB) (iz W') m V=some (.none,m',V))->(m' 20=some (.int (mwF W' n b:Nat)))->GG)->GG 
 | []=>fun n b m ho h19 h20 h21 GG zz=>by
  refine zz m ?_ h20
  rw[zcX];wp_walk using hw
 | c :: r=>fun n b m ho h19 h20 h21 GG zz=>by
  have q:=hs.wordSign k (ho c (by simp))
  have key:∃ m1,execs prog (callN prog (k+4)) mwB (upd m 0 (.int (c:Int))) V=some (.none,m1,V)/\m1 19=some (.ref S)/\m1 20=some (.int ((if isAlnumC c && !b then n+1 else n:Nat):Int))/\m1 21=some (.bool (isAlnumC c)):=by
   unfold mwB
   cases hc:isAlnumC c with
   | false=>
    rw[hc] at q
    refine⟨upd (upd m 0 (.int (c:Int))) 21 (.bool false),?_,?_,?_,?_⟩
    ·wp_walk using h19,q,Bool.false_eq_true
    ·simp[zA,h19]
    ·simp[zA,h20]
    ·simp[zA]
   | true=>
    rw[hc] at q
    cases b with
    | false=>
     refine⟨upd (upd (upd m 0 (.int (c:Int))) 20 (.int ((n:Int)+1))) 21 (.bool true),?_,?_,?_,?_⟩
     ·wp_walk using h19,h20,h21,q
     ·simp[zA,h19]
     ·simp[zA]
     ·simp[zA]
    | true=>
     refine⟨upd (upd m 0 (.int (c:Int))) 21 (.bool true),?_,?_,?_,?_⟩
     ·wp_walk using h19,h20,h21,q,Bool.false_eq_true
     ·simp[zA,h19]
     ·simp[zA,h20]
     ·simp[zA]
  obtain⟨m1,q1,g19,g20,g21⟩:=key
  refine zgw r _ _ m1 (fun x hx=>ho x (List.mem_cons_of_mem _ hx)) g19 g20 g21 _ fun m' q' e'=>?_
  refine zz m' ?_ e'
  rw[zdG]
  exact wFc (zG hw) rfl q1 (wFn q')
theorem zdF (ho:allok W):callN prog (k+5) 16 [.ref w,.ref S] V=some (.int (mwF W 0 false:Nat),V):=by
 refine zgw hs k hw W 0 false (upd (upd (upd (upd e0 19 (.ref S)) 1 (.ref w)) 20 (.int 0)) 21 (.bool false)) ho rfl rfl rfl _ fun m' q e=>?_
 unfold mwB at q
 wp_walk using hw,q,e
noncomputable def iuB:List MS:=[.expr (.n (.v 3) .append [.ite (.v 4) (.v 0) (.f 1 [.v 0])]),
   .assign (.v 4) (.cmp (.m (.v 2) 5 [.v 0]) [.eq] [.l (.str [119])])]
theorem zhm:∀ (W':List Nat) (acc:List MV) (b:Bool) (m:Loc),allok W'->acc.length+W'.length<=1000->m 2=some (.ref S)->m 3=some (.ref V.length)->m 4=some (.bool b) ->∀ GG:Prop,(∀ m',(forL [(w,some (iz W))] false [0] (execs prog (callN prog (k+3)) iuB) (iz W') m (V ++ [za.list acc])=some (.none,m',V ++ [za.list (acc ++ iz (iuP W' b))]))->(m' 3=some (.ref V.length))->GG)->GG 
 | []=>fun acc b m ho hn h2 h3 h4 GG zz=>by
  refine zz m ?_ h3
  have hw1:=zf [za.list acc] hw
  rw[zcX,show iuP [] b=[] from rfl,zcX,List.append_nil];wp_walk using hw1
 | c :: r=>fun acc b m ho hn h2 h3 h4 GG zz=>by
  have hw1:=zf [za.list acc] hw
  rw[List.length_cons] at hn
  have q:=(hs.keep (Upd.app 0 0 V [za.list (acc ++ [MV.int ((if b then c else upC c:Nat):Int)])])).kindOf k (ho c (by simp))
  have qu:=up1 (V:=V ++ [za.list acc]) (k+2) c (yc (ho c (by simp)))
  have n1:=zm V (.list acc)
  have hss:=zf [za.list (acc ++ [MV.int ((if b then c else upC c:Nat):Int)])] hs.s
  have key:execs prog (callN prog (k+3)) iuB (upd m 0 (.int (c:Int))) (V ++ [za.list acc])=some (.none,upd (upd m 0 (.int (c:Int))) 4 (.bool (isAlnumC c)),V ++ [za.list (acc ++ [MV.int ((if b then c else upC c:Nat):Int)])]):=by
   unfold iuB
   cases b with
   | true => 
    simp only[if_true] at q hss
    wp_walk using h2,h3,h4,n1,z6,hss,q,zh3
   | false=>
    simp only[Bool.false_eq_true,if_false] at q hss
    wp_walk using h2,h3,h4,n1,qu,z6,hss,q,zh3,Bool.false_eq_true
  refine zhm r (acc ++ [MV.int ((if b then c else upC c:Nat):Int)]) (isAlnumC c) _ (fun x hx=>ho x (List.mem_cons_of_mem _ hx)) (by simp;lia)
   (show upd (upd m 0 (.int (c:Int))) 4 (.bool (isAlnumC c)) 2=_ by simp[zA,h2]) (by simp[zA,h3]) rfl _ fun m' q' e'=>?_
  refine zz m' ?_ e'
  rw[zdG]
  refine (wFc (zG hw1) rfl key (wFn q')).trans ?_
  simp[show iuP (c :: r) b=(if b then c else upC c) :: iuP r (isAlnumC c) from rfl,iz]
theorem ze7 (ho:allok W)(hn:W.length<=1000):callN prog (k+4) 6 [.ref w,.ref S] V=some (.ref V.length,V ++ [za.list (iz (iuP W false))]):=by
 have hw1:=zf [za.list []] hw
 refine zhm hs k hw W [] false (upd (upd (upd (upd e0 2 (.ref S)) 1 (.ref w)) 3 (.ref V.length)) 4 (.bool false)) ho (by simpa using hn) rfl rfl rfl _ fun m' q e=>?_
 unfold iuB at q
 rw[List.nil_append] at q
 wp_walk using hw1,q,e
end
theorem fuE (c:Nat)(r:List Nat):fuP (c :: r)=if isAlnumC c then upC c :: r else c :: fuP r:=rfl
theorem zcf:∀ (A:List Nat) (c:Nat) (R:List Nat),(∀ x∈A,isAlnumC x=false)->isAlnumC c=true->fuP (A ++ c :: R)=A ++ upC c :: R
 | []=>fun c R _ hc=>if_pos hc
 | a :: A=>fun c R hA hc=>by
  have h1:=hA a (by simp)
  simp only[List.cons_append,fuE,h1,Bool.false_eq_true,if_false]
  rw[zcf A c R (fun x hx=>hA x (List.mem_cons_of_mem _ hx)) hc]
theorem zeL:∀ A:List Nat,(∀ x∈A,isAlnumC x=false)->fuP A=A
 | []=>fun _=>rfl
 | a :: A=>fun hA=>by
  have h1:=hA a (by simp)
  simp only[fuE,h1,Bool.false_eq_true,if_false]
  rw[zeL A fun x hx=>hA x (List.mem_cons_of_mem _ hx)]
noncomputable def fuB:List MS:=[.ifs (.f 15 [.sub (.v 1) (.v 22),.v 19]) [.ret (.o .add (.o .add (.slice (.v 1) (.l .none) (.v 22)) (.f 4 [.slice (.v 1) (.v 22) (.o .add (.v 22) (.l (.int 1)))])) (.slice (.v 1) (.o .add (.v 22) (.l (.int 1))) (.l .none)))] []]
section
variable {V:Hp}{S:Nat}(hs:zU V S)(k:Nat){w:Nat}{W:List Nat}(hw:V[w]?=some (.list (iz W)))(ho:allok W)(hn:W.length<=1000)
include hs hw ho hn
theorem zg6:∀ (R A:List Nat) (m:Loc),W=A ++ R->(∀ x∈A,isAlnumC x=false)->m 1=some (.ref w)->m 19=some (.ref S)->
  ∃ o m' V',forL [] false [22] (execs prog (callN prog (k+4)) fuB) ((List.range' A.length R.length).map fun (i:Nat)=>MV.int (i:Int)) m V=some (o,m',V')/\
   ((o=.none/\fuP W=W/\V'=V/\m' 1=some (.ref w))∨∃ r,o=some (.ref r)/\V'[r]?=some (.list (iz (fuP W)))/\V.length<=r/\Upd 0 0 V V')
 | []=>fun A m e hA h1 h19=>by
  rw[List.append_nil] at e
  refine⟨.none,m,V,?_,.inl ⟨rfl,by rw[e];exact zeL A hA,rfl,h1⟩⟩
  exact wF0 rfl
 | c :: R=>fun A m e hA h1 h19=>by
  have hc:W[A.length]?=some c:=by rw[e];simp
  have hcl:(iz W)[A.length]?=some (.int (c:Int)):=by simp[iz,hc]
  have al:A.length < W.length:=(List.getElem?_eq_some_iff.mp hc).1
  have okcc:=ho c (List.mem_of_getElem? hc)
  have q:=hs.wordSign k okcc
  rw[List.length_cons,List.range'_succ,List.map_cons]
  have len:=zF W
  cases ha:isAlnumC c with
  | false=>
   rw[ha] at q
   obtain⟨o,m',V',q',r'⟩:=zg6 R (A ++ [c]) (upd m 22 (.int (A.length:Int))) (by rw[e];simp) (by
    intro x hx
    rcases List.mem_append.mp hx with h | h
    ·exact hA x h
    ·rw[List.mem_singleton.mp h];exact ha) (by simp[zA,h1]) (by simp[zA,h19])
   refine⟨o,m',V',?_,r'⟩
   have key:execs prog (callN prog (k+4)) fuB (upd m 22 (.int (A.length:Int))) V=some (.none,upd m 22 (.int (A.length:Int)),V):=by
    unfold fuB
    wp_walk using h1,h19,hw,hcl,q,Bool.false_eq_true
   rw[List.length_append] at q'
   exact wFc rfl rfl key (wFn q')
  | true=>
   rw[ha] at q
   have t1:(iz W).take A.length=iz A:=by rw[wV,e,List.take_left]
   have t2:((iz W).take (A.length+1)).drop A.length=iz [c]:=by
    rw[wV,qX,e]
    congr 1
    rw[show A ++ c :: R=(A ++ [c]) ++ R by simp,List.take_left' (by simp),List.drop_left]
   have t3:(iz W).drop (A.length+1)=iz R:=by
    rw[qX,e]
    congr 1
    rw[show A ++ c :: R=(A ++ [c]) ++ R by simp,List.drop_left' (by simp)]
   have a1:((A.length:Int)+1).toNat=A.length+1:=rfl
   have n2:(V ++ [za.list (iz A)] ++ [za.list (iz [c])])[V.length+1]?=some (.list (iz [c])):=yd (by simp)
   have q2:=zdy (k+2) n2 (by intro x hx;rw[List.mem_singleton.mp hx];exact yc okcc) (by simp)
   have wl:=zg hw
   have la:(iz A).length=A.length:=zF A
   have lr:(iz R).length=R.length:=zF R
   have lc:(iz ([c].map upC)).length=1:=rfl
   have lw:W.length=A.length+R.length+1:=by rw[e];simp;lia
   have ls:(iz A ++ iz ([c].map upC)).length+(iz R).length<=1000000:=by rw[List.length_append];lia
   have fin:fuP W=A ++ ([c].map upC ++ R):=by rw[e,zcf A c R hA ha];rfl
   refine⟨some (.ref (V.length+5)),upd m 22 (.int (A.length:Int)),V ++ [za.list (iz A)] ++ [za.list (iz [c])] ++ [za.list (iz ([c].map upC))] ++ [za.list (iz A ++ iz ([c].map upC))] ++ [za.list (iz R)] ++ [za.list (iz A ++ iz ([c].map upC) ++ iz R)],?_,.inr ⟨V.length+5,rfl,?_,by lia,?_⟩⟩
   rotate_left
   ·rw[yd (by simp),fin,zaa,zaa,List.append_assoc]
   ·exact ((((((Upd.app 0 0 _ _).trans (Upd.app 0 0 _ _)).trans (Upd.app 0 0 _ _)).trans (Upd.app 0 0 _ _)).trans (Upd.app 0 0 _ _)).trans (Upd.app 0 0 _ _))
   ·unfold fuB
    simp only[List.length_append,List.length_singleton,Nat.add_assoc,Nat.reduceAdd] at q2
    wp_walk using h1,h19,hw,hcl,q,t1,t2,a1,q2,t3,la,lr,lc
theorem zhQ(zz:∀ V' r,(callN prog (k+5) 19 [.ref w,.ref S] V=some (.ref r,V'))->(V'[r]?=some (.list (iz (fuP W))))->(r=w∨V.length<=r)->(Upd 0 0 V V')->GG):GG:=by
 obtain⟨o,m',V',q,r'⟩:=zg6 hs k hw ho hn W [] (upd (upd e0 19 (.ref S)) 1 (.ref w)) rfl (fun x hx=>by cases hx) rfl rfl
 have len:=zF W
 have it:iterOf .range [.int (W.length:Int)] V=some ((List.range' 0 W.length).map fun (i:Nat)=>MV.int (i:Int),[],V):=by
  show (if 0<=(W.length:Int)/\(W.length:Int)<=1000000 then some ((List.range (W.length:Int).toNat).map fun (i:Nat)=>MV.int (i:Int),[],V) else none)=_
  rw[if_pos (by lia),List.range_eq_range',Int.toNat_natCast]
 unfold fuB at q
 rw[List.length_nil] at q
 rcases r' with⟨rfl,e1,rfl,h1⟩ | ⟨r,rfl,hr,lr,U⟩
 ·refine zz _ w ?_ (by rw[e1];exact hw) (.inl rfl) (Upd.refl 0 0 _)
  wp_walk using hw,len,it,q,h1
 ·refine zz V' r ?_ hr (.inr lr) U
  wp_walk using hw,len,it,q
end
theorem zbs{nm:List Nat}(h:zH V B nm T p N)(hl:low T)(hn:T.length<=10000)(k:Nat)(zz:∀ V',(callN prog (k+3) 91 [.ref (B+4)] V=some (.str T,V'))->(Upd 0 0 V V')->GG):GG:=by
 refine h.codes k 0 T.length (Nat.zero_le _) (Nat.le_refl _) fun Vd r q U hr lr=>?_
 rw[show (((0:Nat):Int)+1)=1 from rfl] at q
 rw[List.take_length,List.drop_zero] at hr
 have qs:=h.size k
 have e:compLoop [(r,some (iz T))] (compF (callN prog (k+2)) (.b .chr [.v 0]) false [0] [] (upd e0 24 (.ref (B+4)))) (iz T) Vd=some ((T.map fun c=>[c]).map MV.str,Vd):=by
  rw[List.map_map]
  refine kJ (t:=fun (c:Nat)=>MV.int (c:Int)) (zG hr) T fun c hc=>?_
  have hc':=hl c hc
  have q:Mine.callB .chr [.int (c:Int)] Vd=some (.str [c],Vd):=by
   show (if decide (0<=(c:Int)) && decide ((c:Int) < 128) then some (MV.str [(c:Int).toNat],Vd) else none)=_
   rw[if_pos (by simp;lia)];rfl
  wp_walk using q
 have e3:((T.map fun c=>[c]).map MV.str).length<=1000000:=by simp;lia
 have q3:=yV (V:=Vd ++ [za.list ((T.map fun c=>[c]).map MV.str)]) (i:=Vd.length) (sep:=[]) (zm _ _) 1 (fun s hs=>by
  obtain⟨c,hc,rfl⟩:=List.mem_map.mp hs
  simp) (by simp;lia)
 have e4:∀ T:List Nat,joinS [] (T.map fun c=>[c])=T:=by
  intro T
  induction T with
  | nil=>rfl
  | cons c r ih=>
   cases r with
   | nil=>rfl
   | cons d r=>simp only[List.map_cons,zj5,List.nil_append] at ih ⊢;rw[ih];rfl
 rw[e4] at q3
 refine zz _ ?_ (U.trans (Upd.app 0 0 _ [za.list ((T.map fun c=>[c]).map MV.str)]))
 refine h.b fun _ _ hb=>?_
 wp_walk using qs,q,hr,e,q3
theorem yq{i:Nat}(q:Hp)(h:i < J.length):(J ++ q).set i o=J.set i o ++ q:=List.set_append_left i o h
theorem yI {call:CallT}{b:List MS}{ma:Loc}{J1:Hp}{r:Option MV×Loc×Hp}(k:execs prog call b ma J1=some r):∀ {a:List MS} {m:Loc} {J:Hp},execs prog call a m J=some (.none,ma,J1)->execs prog call (a ++ b) m J=some r
 | [],m,J,h=>by cases h;exact k
 | s :: a,m,J,h=>by
  rw[yQ] at h
  rw[List.cons_append,yQ]
  cases e:exec prog call s m J with
  | none=>rw[e] at h;cases h
  | some p=>
   obtain⟨_ | v,m',J'⟩:=p
   ·rw[e] at h;exact yI k h
   ·rw[e] at h;cases h
theorem set_same{i:Nat}(h:J[i]?=some o):J.set i o=J:=by
 apply List.ext_getElem?
 intro j
 by_cases c:i=j
 ·subst c;rw[get_set _ h,h]
 ·rw[zb _ c]
theorem zjE (x:Nat)(v:MV):∀ l,(st x v l).length<=l.length+1
 | []=>Nat.le_refl _
 | (y,w) :: r=>by
  rw[stE]
  split
  ·exact Nat.le_succ _
  ·exact Nat.succ_le_succ (zjE x v r)
theorem za4 {call:CallT}{i:Nat}(h6:m 6=some (.ref i)):∀ (L:List (Nat×MV)) (f:List (Nat×MV)) (κ:Hp),(L.all fun p=>noRef p.2 && prog.attr c p.1)=true->f.length+L.length<=100->κ[i]?=some (.inst c f)->
  execs prog call (L.map fun p=>.assign (.a (.v 6) p.1) (.l p.2)) m κ=some (.none,m,κ.set i (.inst c (L.foldl (fun f p=>st p.1 p.2 f) f)))
 | []=>fun f κ _ _ h=>by rw[List.foldl_nil,set_same h];rfl
 | (x,v) :: r=>fun f κ ha hn h=>by
  rw[List.all_cons,Bool.and_eq_true,Bool.and_eq_true] at ha
  rw[List.length_cons] at hn
  have l:=zjE x v f
  have ih:=za4 (call:=call) h6 r (st x v f) (κ.set i (.inst c (st x v f))) ha.2 (by lia) (get_set _ h)
  rw[set_set] at ih
  exact wAA (zi8 ha.1.1) (ziV h6) (zhq h rfl (by rw[ha.1.2,decide_eq_true (by lia:f.length<=100)];rfl)) ih
theorem zhC (k:Nat){c0:Nat}(hc:J[c0]?=some (.list [])):callN prog (k+1) 59 [.ref J.length,.ref c0,.int 8] (J ++ [.inst 6 []])=some (.none,J ++ [.inst 6 [(81,.int 8),(82,.ref (J.length+4)),(83,.int 0),(84,.int 8)]] ++ [.list []] ++ [.list [.int 0]] ++ [.list (List.replicate 8 (.int 0))] ++ [.list (List.replicate 8 (.int 0))]):=by
 have cl:=zg hc
 wp_walk using z6,yq,hc
theorem zfW (k:Nat)(J:Hp):callN prog (k+1) 69 [.ref J.length] (J ++ [.inst 8 []])=some (.none,J ++ [.inst 8 [(57,.ref (J.length+1))]] ++ [.dict []]):=by
 wp_walk using z6,yq
noncomputable def bufA:List (Nat×MV):=[(45,.int 1),(32,.int 1),(33,.int 1),(97,.none),(98,.bool true),(25,.bool false),(99,.int 1),(100,.int 1),(101,.int 1)]
noncomputable def bufC:List (Nat×MV):=[(40,.none),(48,.none),(50,.none),(102,.none),(19,.none),(103,.none)]
theorem yK (J q:Hp)(j:Nat):(J ++ q)[J.length+j]?=q[j]?:=by rw[List.getElem?_append_right (Nat.le_add_right ..),Nat.add_sub_cancel_left]
theorem Upd.zmw {i:Nat}(o:za)(h:J.length<=i)(u:Upd 0 0 J V):Upd 0 0 J (V.set i o):=
 ⟨by rw[List.length_set];exact u.1,fun j hj _=>(zb _ (by lia)).trans (u.2 j hj (by lia))⟩
theorem ziE (k:Nat)(hB:J.length=B+4)(c:List Nat)(zz:∀ V',(callN prog (k+2) 76 [.ref (B+4),.int 1,.str c] (J ++ [.inst 9 []])=some (.none,V'))->(yg V' B c [] 1 1 1 1 8)->(Upd 0 0 J V')->(V'.length=B+14)->GG):GG:=by
 have g1:=zhC k (zm (J ++ [.inst 9 [(93,.int 1),(10,.str c)]]) (.list []))
 simp only[List.length_append,List.length_cons,List.length_nil,Nat.reduceAdd,Nat.zero_add,Nat.add_assoc,hB] at g1
 rw[<- hB] at zz
 let m:Loc:=bindP [6,93,10,81] [.ref J.length,.int 1,.str c,.int 8]
 have s1:execs prog (callN prog (k+1)) [.assign (.a (.v 6) 93) (.v 93),.assign (.a (.v 6) 10) (.v 10)] m (J ++ [.inst 9 []])=some (.none,m,J ++ [.inst 9 [(93,.int 1),(10,.str c)]]):=by
  wp_walk using z6
 have hl:(J ++ [za.inst 9 [(93,.int 1),(10,.str c)]]).length=J.length+1:=by rw[List.length_append];rfl
 have hm:m 6=some (.ref J.length):=rfl
 obtain⟨G,hG⟩:∃ G,G=(J ++ [za.inst 9 [(93,.int 1),(10,.str c)],.list [],gapO (B+10) 0 8,.list [],.list [.int 0],.list (List.replicate 8 (.int 0)),.list (List.replicate 8 (.int 0))]):=⟨_,rfl⟩
 have eG:J ++ [za.inst 9 [(93,.int 1),(10,.str c)]] ++ [za.list []] ++ [za.inst 6 [(81,.int 8),(82,.ref (B+10)),(83,.int 0),(84,.int 8)]] ++ [.list []] ++ [.list [.int 0]] ++ [.list (List.replicate 8 (.int 0))] ++ [.list (List.replicate 8 (.int 0))]=G:=by
  rw[hG];simp only[List.append_assoc,List.cons_append,List.nil_append];rfl
 rw[eG] at g1
 have lG:G.length=B+11:=by rw[hG,List.length_append,hB];rfl
 have G0:G[B+4]?=some (.inst 9 [(93,.int 1),(10,.str c)]):=by rw[hG,<- hB];exact yK J _ 0
 have G2:G[B+6]?=some (gapO (B+10) 0 8):=by rw[hG];exact (congrArg _ (show B+6=J.length+2 by lia)).trans (yK J _ 2)
 have G6:G[B+10]?=some (.list (List.replicate 8 (.int 0))):=by rw[hG];exact (congrArg _ (show B+10=J.length+6 by lia)).trans (yK J _ 6)
 have UG:Upd 0 0 J G:=by rw[hG];exact Upd.app _ _ _ _
 clear hG eG
 have s2:execs prog (callN prog (k+1)) [.assign (.a (.v 6) 43) (.c 6 [.list [],.v 81])] m (J ++ [.inst 9 [(93,.int 1),(10,.str c)]])=some (.none,m,G.set J.length (.inst 9 [(93,.int 1),(10,.str c),(43,.ref (B+6))])):=by
  wp_walk using g1,hl,hB,G0
 have s3:∀ (κ:Hp) (l:List (Nat×MV)),κ[J.length]?=some (.inst 9 l)->l.length<=100->execs prog (callN prog (k+1)) [.assign (.a (.v 6) 54) (.c 8 [])] m κ=some (.none,m,(κ ++ [za.inst 8 [(57,.ref (κ.length+1))]] ++ [za.dict []]).set J.length (.inst 9 (st 54 (.ref κ.length) l))):=by
  intro κ l h hn
  have g:=zfW k κ
  have h':=zf [za.inst 8 [(57,.ref (κ.length+1))]] h
  have h'':=zf [za.dict []] h'
  have p:(prog.attr 9 54 && decide (l.length<=100))=true:=by rw[decide_eq_true hn];rfl
  wp_walk using g,h'',p
 have s5:∀ (κ:Hp) (l:List (Nat×MV)),κ[J.length]?=some (.inst 9 l)->l.length<=100->execs prog (callN prog (k+1)) [.assign (.a (.v 6) 35) (.list [])] m κ=some (.none,m,(κ ++ [za.list []]).set J.length (.inst 9 (st 35 (.ref κ.length) l))):=by
  intro κ l h hn
  have h':=zf [za.list []] h
  have p:(prog.attr 9 35 && decide (l.length<=100))=true:=by rw[decide_eq_true hn];rfl
  wp_walk using h',p
 have K3:=get_set (.inst 9 [(93,.int 1),(10,.str c),(43,.ref (B+6))]) (hB ▸ G0:G[J.length]?=_)
 have t3:=s3 _ _ K3 (show 3<=100 by decide)
 generalize hκ:G.set J.length (.inst 9 [(93,.int 1),(10,.str c),(43,.ref (B+6))])=κ3 at *
 have l3:κ3.length=B+11:=by rw[<- hκ,List.length_set,lG]
 rw[l3] at t3
 have g3:∀ j,j < B+11->j≠B+4->κ3[j]?=G[j]?:=fun j _ h=>by rw[<- hκ];exact zb _ (by lia)
 have U3:Upd 0 0 J κ3:=by rw[<- hκ];exact UG.zmw _ (Nat.le_refl _)
 obtain⟨κ4,h4⟩:∃ κ4,κ4=κ3 ++ [za.inst 8 [(57,.ref (B+11+1))]] ++ [za.dict []]:=⟨_,rfl⟩
 rw[<- h4] at t3
 have l4:κ4.length=B+13:=by rw[h4,List.length_append,List.length_append,l3];rfl
 have g4:∀ j,j < B+11->κ4[j]?=κ3[j]?:=fun j h=>by rw[h4,qj (by rw[List.length_append,l3];exact Nat.lt_succ_of_lt h),qj (l3 ▸ h)]
 have m4:κ4[B+11]?=some (.inst 8 [(57,.ref (B+12))]):=by rw[h4];exact zf _ (yd l3.symm)
 have d4:κ4[B+12]?=some (.dict []):=by rw[h4];exact yd (by rw[List.length_append,l3];rfl)
 have U4:Upd 0 0 J κ4:=by rw[h4];exact (U3.trans (Upd.app ..)).trans (Upd.app ..)
 have K4:=get_set (.inst 9 [(93,.int 1),(10,.str c),(43,.ref (B+6)),(54,.ref (B+11))]) ((g4 _ (by lia)).trans K3)
 have t4:=za4 (call:=callN prog (k+1)) hm bufA _ _ rfl (by show 4+9<=100;decide) K4
 rw[set_set] at t4
 have K5:=get_set (.inst 9 (bufA.foldl (fun f p=>st p.1 p.2 f) [(93,.int 1),(10,.str c),(43,.ref (B+6)),(54,.ref (B+11))])) ((g4 _ (by lia)).trans K3)
 have t5:=s5 _ _ K5 (by show 13<=100;decide)
 rw[List.length_set,l4,<- yq _ (show J.length < κ4.length by lia),set_set] at t5
 have K6:=get_set (.inst 9 (st 35 (.ref (B+13)) (bufA.foldl (fun f p=>st p.1 p.2 f) [(93,.int 1),(10,.str c),(43,.ref (B+6)),(54,.ref (B+11))]))) (zf [za.list []] ((g4 _ (by lia)).trans K3))
 have t6:=za4 (call:=callN prog (k+1)) hm bufC _ _ rfl (by show 14+6<=100;decide) K6
 rw[set_set] at t6
 have gg:∀ j,j < B+13->j≠B+4->((κ4 ++ [za.list []]).set J.length (.inst 9 (bufL B c 1 1 1 1)))[j]?=κ4[j]?:=fun j h n=>(zb _ (by lia)).trans (qj (l4 ▸ h))
 refine zz ((κ4 ++ [za.list []]).set J.length (.inst 9 (bufL B c 1 1 1 1))) ?_ ⟨?_,?_,?_,?_,?_⟩ ((U4.trans (Upd.app ..)).zmw _ (Nat.le_refl _)) ?_
 ·refine zfw (hF:=rfl) (hA:=rfl) (yI (yI (yI (yI (yI t6 t5) t4) t3) s2) s1)
 ·rw[<- hB];exact get_set _ (zf _ ((g4 _ (by lia)).trans K3))
 ·exact⟨[],List.replicate 8 (.int 0),[],⟨(gg _ (by lia) (by lia)).trans ((g4 _ (by lia)).trans ((g3 _ (by lia) (by lia)).trans G2)),(gg _ (by lia) (by lia)).trans ((g4 _ (by lia)).trans ((g3 _ (by lia) (by lia)).trans G6)),by decide⟩,rfl,rfl⟩
 ·exact (gg _ (by lia) (by lia)).trans m4
 ·exact (gg _ (by lia) (by lia)).trans d4
 ·exact (zb _ (by lia)).trans (yd l4.symm)
 ·rw[List.length_set,List.length_append,l4];rfl
structure za0 (V:Hp)(S n:Nat)(f:Nat->Option Nat):Prop where
 s:V[S]?=some (.inst 4 [(69,.none),(57,.ref (S+1))])
 d:∃ D:List (MV×MV),V[S+1]?=some (.dict D)/\(∀ p∈D,∃ i,p.1=.int i)/\D.length<=n/\
  ∀ c x,f c=some x->∃ a mt fl,dlk (.int (c:Int)) D=some (.ref a)/\V[a]?=some (.inst 3 [(64,.str [x]),(66,mt),(67,fl)])/\S<=a/\a < V.length
theorem kf_int {D:List (MV×MV)}(h:∀ p∈D,∃ i,p.1=.int i)(i:Int):keyFits (.int i) D=true:=by
 unfold keyFits
 simp only[List.all_eq_true]
 intro p hp
 obtain⟨i,e⟩:=h p hp
 rw[e];rfl
theorem zdh (k y v:MV):∀ l,dlk k (l ++ [(y,v)])=match dlk k l with
  | some w=>some w
  | .none=>if y.beq k then some v else .none
 | []=>rfl
 | (z,w) :: r=>by
  simp only[List.cons_append,zgz]
  split
  ·rfl
  ·exact zdh k y v r
theorem yH (a b:Int):MV.beq (.int a) (.int b)=decide (a=b):=rfl
theorem zin {D:List (MV×MV)}(h:∀ p∈D,∃ i,p.1=.int i)(i j:Int)(v:MV):dlk (.int j) (dst (.int i) v D)=if i=j then some v else dlk (.int j) D:=by
 unfold dst
 by_cases hs:(dlk (.int i) D).isSome
 ·rw[if_pos hs]
  induction D with
  | nil=>cases hs
  | cons p r ih=>
   obtain⟨y,w⟩:=p
   obtain⟨q,e⟩:=h (y,w) (by simp)
   simp only at e
   subst e
   simp only[List.map_cons,zgz,yH] at hs ⊢
   by_cases c:q=i
   ·subst c
    simp only[decide_true,if_true,zgz,yH]
    by_cases c2:q=j
    ·simp[c2]
    ·simp only[c2,decide_false,Bool.false_eq_true,if_false]
     clear ih hs
     have hr:=fun p hp=>h p (List.mem_cons_of_mem _ hp)
     clear h
     induction r with
     | nil=>rfl
     | cons p r ih=>
      obtain⟨y,u⟩:=p
      obtain⟨x,e⟩:=hr (y,u) (by simp)
      simp only at e
      subst e
      simp only[List.map_cons,zgz,yH]
      by_cases c3:x=q
      ·subst c3
       simp only[decide_true,if_true,zgz,yH,c2,decide_false,Bool.false_eq_true,if_false]
       exact ih fun p hp=>hr p (List.mem_cons_of_mem _ hp)
      ·simp only[c3,decide_false,Bool.false_eq_true,if_false,zgz,yH]
       by_cases c4:x=j
       ·simp only[c4,decide_true,if_true]
       ·simp only[c4,decide_false,Bool.false_eq_true,if_false]
        exact ih fun p hp=>hr p (List.mem_cons_of_mem _ hp)
   ·simp only[c,decide_false,Bool.false_eq_true,if_false,zgz,yH] at hs ⊢
    by_cases c2:q=j
    ·subst c2
     have:¬ i=q:=fun e=>c e.symm
     simp[this]
    ·simp only[c2,decide_false,Bool.false_eq_true,if_false]
     exact ih (fun p hp=>h p (List.mem_cons_of_mem _ hp)) hs
 ·rw[if_neg hs,zdh,yH]
  by_cases c:i=j
  ·subst c
   have:dlk (.int i) D=.none:=by simpa using hs
   rw[this];simp
  ·simp only[c,decide_false,Bool.false_eq_true,if_false]
   cases dlk (.int j) D <;> rfl
theorem zcj {D:List (MV×MV)}(h:∀ p∈D,∃ i,p.1=.int i)(i:Int)(v:MV):∀ p∈dst (.int i) v D,∃ i,p.1=.int i:=by
 intro p hp
 unfold dst at hp
 split at hp
 ·obtain⟨q,hq,rfl⟩:=List.mem_map.mp hp
  split <;> exact h q hq
 ·rcases List.mem_append.mp hp with hp | hp
  ·exact h p hp
  ·rw[List.mem_singleton.mp hp];exact⟨i,rfl⟩
theorem zeF (k v:MV)(D:List (MV×MV)):(dst k v D).length<=D.length+1:=by
 unfold dst
 split <;> simp
noncomputable def modB:List MS:=[.assign (.sub (.a (.v 6) 57) (.b .ord [.v 71])) (.v 19)]
theorem zeP (k S a:Nat)(call:CallT):∀ (text:List Nat) (V:Hp) (m:Loc) (D:List (MV×MV)),V[S]?=some (.inst 4 [(69,.none),(57,.ref (S+1))])->V[S+1]?=some (.dict D)->(∀ p∈D,∃ i,p.1=.int i)->D.length+text.length<=1000->
  m 6=some (.ref S)->m 19=some (.ref a)->
  ∃ m',forL [] false [71] (execs prog call modB) (chrs text) m V=some (.none,m',V.set (S+1) (.dict (text.foldl (fun D (c:Nat)=>dst (.int (c:Int)) (.ref a) D) D)))
 | []=>fun V m D hs hd hk hn h6 h19=>by
  have e:V.set (S+1) (.dict D)=V:=by
   apply List.ext_getElem?
   intro j
   by_cases c:S+1=j
   ·subst c;rw[get_set _ hd,hd]
   ·rw[zb _ c]
  refine⟨m,?_⟩
  exact (wF0 rfl).trans (by rw[List.foldl_nil,e])
 | c :: r=>fun V m D hs hd hk hn h6 h19=>by
  rw[List.length_cons] at hn
  have dl:=zeF (.int (c:Int)) (.ref a) D
  have lt:=zg hd
  obtain⟨m',q⟩:=zeP k S a call r (V.set (S+1) (.dict (dst (.int (c:Int)) (.ref a) D))) (upd m 71 (.str [c])) (dst (.int (c:Int)) (.ref a) D)
   ((zb _ (by lia)).trans hs) (get_set _ hd) (zcj hk _ _) (by lia) (by simp[zA,h6]) (by simp[zA,h19])
  refine⟨m',?_⟩
  have key:execs prog call modB (upd m 71 (.str [c])) V=some (.none,upd m 71 (.str [c]),V.set (S+1) (.dict (dst (.int (c:Int)) (.ref a) D))):=by
   have kf:=kf_int hk (c:Int)
   unfold modB
   wp_walk using h6,h19,hs,hd,kf
  have ec:chrs (c :: r)=.str [c] :: chrs r:=rfl
  rw[ec]
  refine (wFc rfl rfl key (wFn q)).trans ?_
  rw[set_set]
  rfl
theorem qJ (a:Nat)(c:Nat):∀ (text:List Nat) (D:List (MV×MV)),(∀ p∈D,∃ i,p.1=.int i)->(∀ p∈text.foldl (fun D (c:Nat)=>dst (.int (c:Int)) (.ref a) D) D,∃ i,p.1=.int i)/\(text.foldl (fun D (c:Nat)=>dst (.int (c:Int)) (.ref a) D) D).length<=D.length+text.length/\
  dlk (.int (c:Int)) (text.foldl (fun D (c:Nat)=>dst (.int (c:Int)) (.ref a) D) D)=if text.elem c then some (.ref a) else dlk (.int (c:Int)) D
 | []=>fun D h=>⟨h,by simp,by simp⟩
 | x :: r=>fun D h=>by
  obtain⟨h1,h2,h3⟩:=qJ a c r (dst (.int (x:Int)) (.ref a) D) (zcj h _ _)
  have dl:=zeF (.int (x:Int)) (.ref a) D
  refine⟨h1,by simp only[List.foldl_cons,List.length_cons];lia,?_⟩
  rw[List.foldl_cons,h3,zin h]
  by_cases e:r.elem c=true
  ·rw[if_pos e,if_pos (by rw[List.elem_cons,e];cases c == x <;> rfl)]
  ·rw[if_neg e]
   by_cases e2:c=x
   ·subst e2;rw[if_pos rfl,if_pos (by rw[List.elem_cons];simp)]
   ·have e3:¬ ((x:Int)=(c:Int)):=by lia
    have e4:(c == x)=false:=by simp[e2]
    rw[if_neg e3,if_neg (by rw[List.elem_cons,e4];exact e)]
theorem ziq (k:Nat)(V:Hp):callN prog (k+1) 43 [.str []] V=some (.str [],V ++ [.list []]):=by
 have c:evalE prog (callN prog k) (.comp (.v 68) false [68] .val [.l (.str [49,50,51,52,98,99,110,112])] [.cmp (.v 68) [.isIn] [.v 43]]) (bindP [43] [.str []]) V=some (.ref V.length,V ++ [.list []]):=by kernel_rfl
 have t:(tyOf (.str []) (V ++ [za.list []]) == tyOf (.str []) (V ++ [za.list []]))=true:=by kernel_rfl
 exact zfw (hF:=rfl) (hA:=rfl) (zlX (wMB (zi8 rfl) (wLc c wL0) rfl (yV (ss:=[]) (zm V _) 0 (fun _ h=>nomatch h) (by decide))))
theorem zm5 (V:Hp):Mine.callB .all [.ref V.length] (V ++ [.list []])=some (.bool true,V ++ [.list []]):=by
 show (qL (V ++ [za.list []])[V.length]? fun l=>aN l (some (.bool true,V ++ [za.list []])):Option (MV×Hp))=_
 rw[zm];rfl
noncomputable def ReadS (d:List Nat) (x:Nat):Prop:=∃ mt,∀ k V,callN prog (k+3) 44 [.str d] V=some (.ref (V.length+2),V ++ [.list []] ++ [.list []] ++ [.inst 3 [(64,.str [x]),(66,mt),(67,.str [])]])
theorem qm {d:List Nat}(mt:MV)(h1:∀ k V,execs prog (callN prog (k+2)) (f44.body.take 4) (bindP [43] [.str d]) V=some (.none,upd (upd (upd (bindP [43] [.str d]) 64 (.str [x])) 66 mt) 67 (.str []),V))
  (h2:List.elem x [32,119,95,46,40,41,39,34,92,47,36,60,62,64,33,124]=true):ReadS d x:=by
 refine⟨mt,fun k V=>?_⟩
 have c:evalE prog (callN prog (k+2)) (.comp (.or [.cmp (.v 68) [.isIn] [.l (.str [49,50,51,52,98,99,110,112])],.cmp (.v 68) [.eq] [.l (.str [32])]]) false [68] .val [.v 67] []) (upd (upd (upd (bindP [43] [.str d]) 64 (.str [x])) 66 mt) 67 (.str [])) V=some (.ref V.length,V ++ [.list []]):=by kernel_rfl
 have s:=ziq (k+1) (V ++ [.list []])
 have i:callN prog (k+2) 41 [.ref (V ++ [za.list []] ++ [za.list []]).length,.str [x],mt,.str []] (V ++ [.list []] ++ [.list []] ++ [.inst 3 []])=some (.none,V ++ [.list []] ++ [.list []] ++ [.inst 3 [(64,.str [x]),(66,mt),(67,.str [])]]):=by
  generalize V ++ [za.list []] ++ [za.list []]=J
  wp_walk using z6
 have q:execs prog (callN prog (k+2)) (f44.body.drop 4) (upd (upd (upd (bindP [43] [.str d]) 64 (.str [x])) 66 mt) 67 (.str [])) V=some (some (.ref (V ++ [za.list []] ++ [za.list []]).length),upd (upd (upd (bindP [43] [.str d]) 64 (.str [x])) 66 mt) 67 (.str []),V ++ [.list []] ++ [.list []] ++ [.inst 3 [(64,.str [x]),(66,mt),(67,.str [])]]):=
  wIf (wOr (wO2 (zmj (ziV rfl) (wC1 (zi8 rfl) (show some (!(List.elem x [32,119,95,46,40,41,39,34,92,47,36,60,62,64,33,124]))=some false by rw[h2];rfl))) (wO1 (zmm (wCB (wLc c wL0) (zm5 V)))))) (zlX (wCC (wLc (ziV rfl) (wLc (ziV rfl) (wLc (wCF (wLc (ziV rfl) wL0) s) wL0))) rfl i))
 refine (zfw (ps:=[43]) (ds:=[]) (full:=[.str d]) rfl rfl (yI q (h1 k V))).trans ?_
 rw[List.length_append,List.length_append];rfl
theorem yo{S n:Nat}{f:Nat->Option Nat}(h:za0 V S n f)(k:Nat){d:List Nat}(hd:ReadS d x)(text:List Nat)(hn:n+text.length<=1000)(zz:∀ V',(callN prog (k+4) 46 [.ref S,.str text,.str d] V=some (.none,V'))->(za0 V' S (n+text.length) (fun c=>if text.elem c then some x else f c))->(V'.length=V.length+3)->(Upd S (S+2) V V')->GG):GG:=by
 obtain⟨mt,hr⟩:=hd
 have q:=hr k V
 obtain⟨Vd,h1⟩:∃ Vd,Vd=V ++ [.list []] ++ [.list []] ++ [.inst 3 [(64,.str [x]),(66,mt),(67,.str [])]]:=⟨_,rfl⟩
 rw[<- h1] at q
 have U1:Upd 0 0 V Vd:=by rw[h1];exact ((Upd.app ..).trans (Upd.app ..)).trans (Upd.app ..)
 have ln:Vd.length=V.length+3:=by rw[h1,List.length_append,List.length_append,List.length_append];rfl
 have ho:Vd[V.length+2]?=some (.inst 3 [(64,.str [x]),(66,mt),(67,.str [])]):=by rw[h1];exact yd (by rw[List.length_append,List.length_append];rfl)
 clear h1
 obtain⟨hs,D,d1,dk,dn,all⟩:=h
 have lt:=zg d1
 obtain⟨m',q2⟩:=zeP k S (V.length+2) (callN prog (k+3)) text Vd (upd (upd (upd (upd e0 70 (.str d)) 43 (.str text)) 6 (.ref S)) 19 (.ref (V.length+2))) D (U1.keep hs) (U1.keep d1) dk (by lia) rfl rfl
 have U2:Upd S (S+2) Vd _:=Upd.set Vd (.dict (text.foldl (fun D (c:Nat)=>dst (.int (c:Int)) (.ref (V.length+2)) D) D)) (show S<=S+1/\S+1 < S+2 by lia)
 refine zz _ ?_ ⟨?_,_,get_set _ (U1.keep d1),(qJ (V.length+2) 0 text D dk).1,?_,?_⟩ (by simp[ln]) ((U1.any _ _).trans U2)
 ·unfold modB at q2
  wp_walk using q,q2
 ·rw[zb _ (by lia)];exact U1.keep hs
 ·have:=(qJ (V.length+2) 0 text D dk).2.1
  lia
 ·intro c y hy
  rw[(qJ (V.length+2) c text D dk).2.2]
  split at hy
  ·cases hy
   rename_i he
   rw[if_pos he]
   exact⟨V.length+2,mt,_,rfl,by rw[zb _ (by lia)];exact ho,by lia,by simp;lia⟩
  ·rename_i he
   rw[if_neg he]
   obtain⟨a,mt',fl,e1,e2,e3,e4⟩:=all c y hy
   have ne:S+1≠a:=fun e=>by rw[<- e,d1] at e2;cases e2
   exact⟨a,mt',fl,e1,by rw[zb _ ne];exact U1.keep e2,e3,by simp;lia⟩
noncomputable def lettersS:List Nat:=[97,98,99,100,101,102,103,104,105,106,107,108,109,110,111,112,113,114,115,116,117,118,119,120,121,122,65,66,67,68,69,70,71,72,73,74,75,76,77,78,79,80,81,82,83,84,85,86,87,88,89,90,48,49,50,51,52,53,54,55,56,57]
theorem zdU:∀ c,c < 128->okc c=true->(if [92].elem c then some 92 else if [34].elem c then some 34 else if [125].elem c then some 41 else if [123].elem c then some 40 else if [93].elem c then some 41 else if [91].elem c then some 40 else if [41].elem c then some 41 else if [40].elem c then some 40 else
  if [46,44,59,58,63,33,35,64,126,94,39,96].elem c then some 46 else if [95,45,43,42,47,38,124,60,62,61].elem c then some 95 else if [32,9,10,13,12].elem c then some 32 else if (lettersS ++ [36,37]).elem c then some 119 else .none:Option Nat)=some (kd c):=by decide +kernel
theorem ziP (V:Hp)(zz:∀ V',(callN prog 39 51 [] V=some (.ref V.length,V'))->(zU V' V.length)->(Upd 0 0 V V')->(V'.length=V.length+38)->GG):GG:=by
 have P0:za0 (V ++ [za.inst 4 [(69,.none),(57,.ref (V.length+1))]] ++ [za.dict []]) V.length 0 (fun _=>.none):=
  ⟨by rw[qj (by simp)];exact zm _ _,[],yd (by simp),by simp,by simp,by intro c x h;cases h⟩
 have q0:callN prog 38 45 [.ref V.length] (V ++ [za.inst 4 []])=some (.none,V ++ [za.inst 4 [(69,.none),(57,.ref (V.length+1))]] ++ [za.dict []]):=by
  wp_walk using z6,yq
 have U0:Upd V.length (V.length+2) V (V ++ [za.inst 4 [(69,.none),(57,.ref (V.length+1))]] ++ [za.dict []]):=(Upd.app _ _ _ _).trans (Upd.app _ _ _ _)
 have l0:(V ++ [za.inst 4 [(69,.none),(57,.ref (V.length+1))]] ++ [za.dict []]).length=V.length+2:=by simp
 generalize V ++ [za.inst 4 [(69,.none),(57,.ref (V.length+1))]] ++ [za.dict []]=V0 at *
 refine yo P0 34 (d:=[119]) (x:=119) (qm .none (fun k V=>by kernel_rfl) (by kernel_rfl)) (lettersS ++ [36,37]) (by decide) fun Vd q1 P1 l1 U1=>?_
 refine yo P1 34 (d:=[32]) (x:=32) (qm .none (fun k V=>by kernel_rfl) (by kernel_rfl)) [32,9,10,13,12] (by decide) fun Ve q2 P2 l2 U2=>?_
 refine yo P2 34 (d:=[95]) (x:=95) (qm .none (fun k V=>by kernel_rfl) (by kernel_rfl)) [95,45,43,42,47,38,124,60,62,61] (by decide) fun Vf q3 P3 l3 U3=>?_
 refine yo P3 34 (d:=[46]) (x:=46) (qm .none (fun k V=>by kernel_rfl) (by kernel_rfl)) [46,44,59,58,63,33,35,64,126,94,39,96] (by decide) fun ν4 q4 P4 l4 U4=>?_
 refine yo P4 34 (d:=[40,41]) (x:=40) (qm (.int 41) (fun k V=>by kernel_rfl) (by kernel_rfl)) [40] (by decide) fun Vg q5 P5 l5 U5=>?_
 refine yo P5 34 (d:=[41,40]) (x:=41) (qm (.int 40) (fun k V=>by kernel_rfl) (by kernel_rfl)) [41] (by decide) fun Vh q6 P6 l6 U6=>?_
 refine yo P6 34 (d:=[40,93]) (x:=40) (qm (.int 93) (fun k V=>by kernel_rfl) (by kernel_rfl)) [91] (by decide) fun Vi q7 P7 l7 U7=>?_
 refine yo P7 34 (d:=[41,91]) (x:=41) (qm (.int 91) (fun k V=>by kernel_rfl) (by kernel_rfl)) [93] (by decide) fun ν8 q8 P8 l8 U8=>?_
 refine yo P8 34 (d:=[40,125]) (x:=40) (qm (.int 125) (fun k V=>by kernel_rfl) (by kernel_rfl)) [123] (by decide) fun V9 q9 P9 l9 U9=>?_
 refine yo P9 34 (d:=[41,123]) (x:=41) (qm (.int 123) (fun k V=>by kernel_rfl) (by kernel_rfl)) [125] (by decide) fun Va qa Pa la Ua=>?_
 refine yo Pa 34 (d:=[34]) (x:=34) (qm .none (fun k V=>by kernel_rfl) (by kernel_rfl)) [34] (by decide) fun Vb qb Pb lb Ub=>?_
 refine yo Pb 34 (d:=[92]) (x:=92) (qm .none (fun k V=>by kernel_rfl) (by kernel_rfl)) [92] (by decide) fun Vc qc Pc lc Uc=>?_
 have lenc:Vc.length=V.length+38:=by rw[lc,lb,la,l9,l8,l7,l6,l5,l4,l3,l2,l1,l0]
 have U:=(((((((((((U0.trans U1).trans U2).trans U3).trans U4).trans U5).trans U6).trans U7).trans U8).trans U9).trans Ua).trans Ub).trans Uc
 refine zz Vc ?_ ⟨Pc.s,?_⟩ ⟨lenc ▸ Nat.le_add_right _ _,fun j hj _=>U.2 j hj (by lia)⟩ lenc
 ·have h0:=P0.s;have h1:=P1.s;have h2:=P2.s;have h3:=P3.s;have h4:=P4.s;have h5:=P5.s;have h6:=P6.s;have h7:=P7.s;have h8:=P8.s;have h9:=P9.s;have ha:=Pa.s;have hb:=Pb.s
  have ql:callN prog 38 50 [] V0=some (.str lettersS,V0):=by
   unfold lettersS
   wp_walk using fst_mk
  clear P0 P1 P2 P3 P4 P5 P6 P7 P8 P9 Pa Pb Pc U0 U1 U2 U3 U4 U5 U6 U7 U8 U9 Ua Ub Uc U l0 l1 l2 l3 l4 l5 l6 l7 l8 l9 la lb lc lenc
  have bl:binop .add (.str lettersS) (.str [36,37]) V0=some (.str (lettersS ++ [36,37]),V0):=rfl
  have b2:∀ (a b:Nat) (J:Hp),binop .add (.str [a]) (.str [b]) J=some (.str [a,b],J):=fun _ _ _=>rfl
  simp only[Nat.reduceAdd] at q1 q2 q3 q4 q5 q6 q7 q8 q9 qa qb qc
  wp_walk using List.cons_append,List.nil_append,q0,h0,ql,q1,h1,q2,h2,q3,h3,q4,h4,q5,h5,q6,h6,q7,h7,q8,h8,q9,h9,qa,ha,qb,hb,qc
 ·obtain⟨D,d1,dk,dn,all⟩:=Pc.d
  refine⟨D,d1,kf_int dk,fun c hc=>?_⟩
  obtain⟨a,mt,fl,e1,e2,e3,e4⟩:=all c _ (zdU c (yc hc) hc)
  exact⟨a,mt,fl,e1,e2,e3,lenc ▸ e4⟩
theorem zhW (k:Nat)(V:Hp):callN prog (k+1) 84 [.ref V.length] (V ++ [.inst 10 []])=some (.none,V ++ [.inst 10 [(57,.ref (V.length+1)),(105,.ref (V.length+2)),(106,.int 0),(107,.int 0),(108,.int 0),(35,.ref (V.length+3))]] ++ [.dict []] ++ [.list []] ++ [.list []]):=by
 wp_walk using z6,yq
theorem ze9 (k:Nat)(hk:κ.length=B+4)(h0:κ[B]?=some (.inst 10 [(57,.ref (B+1)),(105,.ref (B+2)),(106,.int 0),(107,.int 0),(108,.int 0),(35,.ref (B+3))]))(h1:κ[B+1]?=some (.dict []))(h2:κ[B+2]?=some (.list []))(h3:κ[B+3]?=some (.list []))(c:Nat)(zz:∀ V',(callN prog (k+4) 86 [.ref B,.str [c]] κ=some (.ref (B+4),V'))->(yg V' B [c] [] 1 1 1 1 8)->(Upd B (B+4) κ V')->(V'.length=B+14)->GG):GG:=by
 have by0:callN prog (k+3) 85 [.ref B,.str [c]] κ=some (.none,κ):=by wp_walk using h0,h2
 have hl:(κ.set B (za.inst 10 [(57,.ref (B+1)),(105,.ref (B+2)),(106,.int 0),(107,.int 1),(108,.int 0),(35,.ref (B+3))])).length=B+4:=by rw[List.length_set,hk]
 refine ziE (k+1) hl [c] fun V' q X U l=>?_
 have U1:=Upd.set κ (za.inst 10 [(57,.ref (B+1)),(105,.ref (B+2)),(106,.int 0),(107,.int 1),(108,.int 0),(35,.ref (B+3))]) (show B<=B/\B < B+4 by lia)
 have e0:=get_set (za.inst 10 [(57,.ref (B+1)),(105,.ref (B+2)),(106,.int 0),(107,.int 1),(108,.int 0),(35,.ref (B+3))]) h0
 have f0:=U.keep e0
 have f1:=U.keep ((zb _ (by lia)).trans h1)
 have f2:=U.keep ((zb _ (by lia)).trans h2)
 have f3:=U.keep ((zb _ (by lia)).trans h3)
 have xb:=X.b
 have xl:=X.l
 have xe:=set_same xl
 have U2:=Upd.set V' (za.dict [(.int 1,.ref (B+4))]) (show B<=B+1/\B+1 < B+4 by lia)
 have U3:=Upd.set (V'.set (B+1) (za.dict [(.int 1,.ref (B+4))])) (za.list [.int 1]) (show B<=B+2/\B+2 < B+4 by lia)
 have g0:=(zb (za.dict [(.int 1,.ref (B+4))]) (show B+1≠B by lia)).trans f0
 have g4:=(zb (za.dict [(.int 1,.ref (B+4))]) (show B+1≠B+4 by lia)).trans xb
 have g2:=(zb (za.dict [(.int 1,.ref (B+4))]) (show B+1≠B+2 by lia)).trans f2
 refine zz ((V'.set (B+1) (za.dict [(.int 1,.ref (B+4))])).set (B+2) (za.list [.int 1])) ?_ ?_ ((U1.trans (U.any _ _)).trans (U2.trans U3)) (by rw[List.length_set,List.length_set,l])
 ·have hc:([c] == ([]:List Nat))=false:=rfl
  have q:callN prog (k+3) 76 _ _=_:=q
  have es:st 107 (.int 1) [(57,.ref (B+1)),(105,.ref (B+2)),(106,.int 0),(107,.int 0),(108,.int 0),(35,.ref (B+3))]=[(57,.ref (B+1)),(105,.ref (B+2)),(106,.int 0),(107,.int 1),(108,.int 0),(35,.ref (B+3))]:=rfl
  wp_walk using hc,Int.zero_add,es,List.append_nil,List.nil_append,Option.getD_some,h0,by0,hl,e0,q,f0,f1,f2,f3,xb,xl,xe,g0,g2,g4
  rw[Option.getD_some,hl]
 ·have hx:∀ j,j≠B+1->j≠B+2->((V'.set (B+1) (za.dict [(.int 1,.ref (B+4))])).set (B+2) (za.list [.int 1]))[j]?=V'[j]?:=fun j a b=>(zb _ (Ne.symm b)).trans (zb _ (Ne.symm a))
  exact⟨(hx _ (by lia) (by lia)).trans xb,X.g.zcU (fun _ e=>(hx _ (by lia) (by lia)).trans e) fun _ e=>(hx _ (by lia) (by lia)).trans e,(hx _ (by lia) (by lia)).trans X.m,(hx _ (by lia) (by lia)).trans X.d,(hx _ (by lia) (by lia)).trans xl⟩
theorem jA (k c:Nat)(m:Loc)(V:Hp)(zz:∀ V',(evalE prog (callN prog (k+5)) (.m (.c 10 []) 125 [.l (.str [c])]) m V=some (.ref (V.length+4),V'))->(zH V' V.length [c] [] 1 8)->(Upd 0 0 V V')->(V'.length=V.length+14)->GG):GG:=by
 have q0:=zhW (k+4) V
 have e:V ++ [za.inst 10 [(57,.ref (V.length+1)),(105,.ref (V.length+2)),(106,.int 0),(107,.int 0),(108,.int 0),(35,.ref (V.length+3))]] ++ [.dict []] ++ [.list []] ++ [.list []]=V ++ [za.inst 10 [(57,.ref (V.length+1)),(105,.ref (V.length+2)),(106,.int 0),(107,.int 0),(108,.int 0),(35,.ref (V.length+3))],.dict [],.list [],.list []]:=by
  simp only[List.append_assoc,List.cons_append,List.nil_append]
 rw[e] at q0
 have h0:=yK V [za.inst 10 [(57,.ref (V.length+1)),(105,.ref (V.length+2)),(106,.int 0),(107,.int 0),(108,.int 0),(35,.ref (V.length+3))],.dict [],.list [],.list []] 0
 have h1:=yK V [za.inst 10 [(57,.ref (V.length+1)),(105,.ref (V.length+2)),(106,.int 0),(107,.int 0),(108,.int 0),(35,.ref (V.length+3))],.dict [],.list [],.list []] 1
 have h2:=yK V [za.inst 10 [(57,.ref (V.length+1)),(105,.ref (V.length+2)),(106,.int 0),(107,.int 0),(108,.int 0),(35,.ref (V.length+3))],.dict [],.list [],.list []] 2
 have h3:=yK V [za.inst 10 [(57,.ref (V.length+1)),(105,.ref (V.length+2)),(106,.int 0),(107,.int 0),(108,.int 0),(35,.ref (V.length+3))],.dict [],.list [],.list []] 3
 have U0:=Upd.app 0 0 V [za.inst 10 [(57,.ref (V.length+1)),(105,.ref (V.length+2)),(106,.int 0),(107,.int 0),(108,.int 0),(35,.ref (V.length+3))],.dict [],.list [],.list []]
 have l0:(V ++ [za.inst 10 [(57,.ref (V.length+1)),(105,.ref (V.length+2)),(106,.int 0),(107,.int 0),(108,.int 0),(35,.ref (V.length+3))],.dict [],.list [],.list []]).length=V.length+4:=List.length_append
 refine ze9 (k+1) l0 h0 h1 h2 h3 c fun V' q X U l=>?_
 generalize V ++ [za.inst 10 [(57,.ref (V.length+1)),(105,.ref (V.length+2)),(106,.int 0),(107,.int 0),(108,.int 0),(35,.ref (V.length+3))],.dict [],.list [],.list []]=κ at *
 refine zz V' ?_ (X.toR rfl (Nat.le_refl _)) ⟨by lia,fun j hj _=>(U.2 j (by lia) (by lia)).trans (U0.2 j hj (by lia))⟩ l
 refine wMe (wCC wL0 rfl q0) (zhp h0 rfl rfl (wLc (zi8 rfl) wL0) q)
noncomputable def texts:List (List Nat):=[[120],[102,111,111,32,98,97,114],[98,97],[97,98,32,98,97],[],[120,45,121,32,122],[98,49]]
noncomputable def wordsD:List (List Nat):=[[97],[97,98],[98,49],[65,98],[98,97]]
noncomputable def typed:List (List Nat):=[[97],[65],[97,98],[65,98],[65,66],[98,49],[66,49],[98,97],[98,65],[99],[120]]
theorem zkH (k:Nat){t:List Nat}(ht:t∈texts)(b:Bool)(V:Hp):callN prog (k+1) 94 [.str t,.bool b] V=some (.str (if b then iuP t false else fuP t),V):=by
 unfold texts at ht
 simp only[List.mem_cons,List.not_mem_nil,or_false] at ht
 rcases ht with rfl | rfl | rfl | rfl | rfl | rfl | rfl <;> cases b <;> kernel_rfl
structure Ent where
 key:List Nat
 text:List Nat
 ex:Bool
 used:Nat
variable{e:Ent}{P:Bool->Ent->Nat->Prop}{q:Bool×Ent}{L':Bool->List Ent}
structure TA where
 t:Bool->Nat
 p:Bool->Nat
 d:Bool->Nat
 adr:Bool->List Nat->Nat
variable{A:TA}
noncomputable def lower (W:List Nat):List Nat:=W.map loC
noncomputable def fnd (L:List Ent) (W:List Nat):Option Ent:=L.find? fun e=>e.key == W
noncomputable def ownE (L:List Ent) (W:List Nat):Option Ent:=match fnd L W with
 | some e=>some e
 | .none=>match fnd L (lower W) with
  | some e=>if e.ex then .none else some e
  | .none=>.none
noncomputable def entE (L:Bool->List Ent) (W:List Nat):Option (Bool×Ent):=match ownE (L false) W with
 | some e=>some (false,e)
 | .none=>(ownE (L true) W).map fun e=>(true,e)
noncomputable def nmT (b:Bool):List Nat:=if b then [112,97,114,101,110,116] else [111,119,110]
noncomputable def tabO (A:TA) (b:Bool):za:=.inst 1 [(10,.str (nmT b)),(11,.ref (A.p b)),(12,.ref (A.d b)),(13,.bool false)]
noncomputable def entD (adr:List Nat->Nat) (L:List Ent):List (MV×MV):=L.map fun e=>(.str (keyS e.key),.ref (adr e.key))
structure ziU (V:Hp)(lo hi a:Nat)(e:Ent):Prop where
 r:∃ wl cl,V[a]?=some (.inst 0 [(7,.ref wl),(1,.ref cl),(8,.bool e.ex),(9,.int (e.used:Int))])/\V[cl]?=some (.list (iz e.text))/\lo<=cl/\cl < hi
 lo:lo<=a
 hi:a < hi
structure zu (V:Hp)(lo hi:Nat)(A:TA)(L:Bool->List Ent):Prop where
 obj:∀ b,V[A.t b]?=some (tabO A b)
 par:∀ b,V[A.p b]?=some (.list (if b then [] else [.ref (A.t true)]))
 dic:∀ b,V[A.d b]?=some (.dict (entD (A.adr b) (L b)))
 ent:∀ b,∀ e∈L b,ziU V lo hi (A.adr b e.key) e
 inj:∀ b b' e e',e∈L b->e'∈L b'->A.adr b e.key=A.adr b' e'.key->b=b'/\e.key=e'.key
 keys:∀ b,∀ e∈L b,e.key∈typed/\e.text∈texts
 nod:∀ b,(L b).Pairwise fun e e'=>e.key≠e'.key
 few:∀ b,(L b).length<=4
 rng:∀ b,lo<=A.t b/\A.t b < hi/\lo<=A.p b/\A.p b < hi/\lo<=A.d b/\A.d b < hi
theorem zO:∀ W∈typed,low W:=by
 intro W h
 simp only[typed,List.mem_cons,List.not_mem_nil,or_false] at h
 unfold low
 rcases h with rfl | rfl | rfl | rfl | rfl | rfl | rfl | rfl | rfl | rfl | rfl <;> decide
theorem zq:∀ W∈typed,W.length<=2/\W≠[]:=by
 intro W h
 simp only[typed,List.mem_cons,List.not_mem_nil,or_false] at h
 rcases h with rfl | rfl | rfl | rfl | rfl | rfl | rfl | rfl | rfl | rfl | rfl <;> decide
theorem yJ:∀ W∈typed,lower W∈typed:=by
 intro W h
 simp only[typed,List.mem_cons,List.not_mem_nil,or_false] at h
 rcases h with rfl | rfl | rfl | rfl | rfl | rfl | rfl | rfl | rfl | rfl | rfl <;> decide
theorem yE:∀ W∈typed,∀ c∈W,isAlnumC c=true:=by
 intro W h
 simp only[typed,List.mem_cons,List.not_mem_nil,or_false] at h
 rcases h with rfl | rfl | rfl | rfl | rfl | rfl | rfl | rfl | rfl | rfl | rfl <;> decide
theorem zcq:∀ Jja∈typed,∀ W∈typed,(keyS Jja == keyS W)=(Jja == W):=by
 have h:(typed.all fun Jja=>typed.all fun W=>(keyS Jja == keyS W) == (Jja == W))=true:=by decide +kernel
 intro Jja hV W hW
 have:=List.all_eq_true.mp (List.all_eq_true.mp h Jja hV) W hW
 exact eq_of_beq this
theorem qN (a b:List Nat):MV.beq (.str a) (.str b)=(a == b):=rfl
theorem zcn (adr:List Nat->Nat)(L:List Ent)(s:List Nat):keyFits (.str s) (entD adr L)=true:=by
 show ((L.map fun e=>_).all fun p:MV×MV=>isS p.1)=true
 rw[List.all_map]
 exact List.all_eq_true.mpr fun _ _=>rfl
theorem za5 (adr:List Nat->Nat)(hW:W∈typed):∀ L:List Ent,(∀ e∈L,e.key∈typed)->dlk (.str (keyS W)) (entD adr L)=(fnd L W).map fun e=>.ref (adr e.key)
 | []=>fun _=>rfl
 | e :: r=>fun h=>by
  have h1:=zcq e.key (h e (by simp)) W hW
  have ih:=za5 adr hW r fun x hx=>h x (List.mem_cons_of_mem _ hx)
  unfold entD fnd at *
  simp only[List.map_cons,dlk,qN,h1,List.find?_cons]
  cases e.key == W with
  | true=>rfl
  | false=>simpa using ih
theorem zbu {L:List Ent}(h:fnd L W=some e):e∈L/\e.key=W:=by
 unfold fnd at h
 have h1:=List.find?_some h
 exact⟨List.mem_of_find?_eq_some h,by simpa using h1⟩
theorem zb3 {L:List Ent}(h:ownE L W=some e):e∈L:=by
 unfold ownE at h
 split at h
 ·rename_i x hx;cases h;exact (zbu hx).1
 ·split at h
  ·rename_i x hx
   split at h
   ·cases h
   ·cases h;exact (zbu hx).1
  ·cases h
theorem yw {L:Bool->List Ent}{b:Bool}(h:entE L W=some (b,e)):e∈L b:=by
 unfold entE at h
 split at h
 ·rename_i x hx;cases h;exact zb3 hx
 ·simp only[Option.map_eq_some_iff,Prod.mk.injEq] at h
  obtain⟨x,hx,rfl,rfl⟩:=h
  exact zb3 hx
noncomputable def refO (adr:List Nat->Nat) (o:Option Ent):MV:=match o with
 | some e=>.ref (adr e.key)
 | .none=>.none
noncomputable def refE (A:TA) (o:Option (Bool×Ent)):MV:=match o with
 | some (b,e)=>.ref (A.adr b e.key)
 | .none=>.none
namespace zu
variable {V:Hp}{lo hi:Nat}{A:TA}{L:Bool->List Ent}
theorem out (h:zu V lo hi A L)(u:Upd lo' hi' V V')(d:hi'<=lo∨hi<=lo'):zu V' lo hi A L:=by
 refine⟨fun b=>u.get (h.obj b) ?_,fun b=>u.get (h.par b) ?_,fun b=>u.get (h.dic b) ?_,fun b e he=>?_,h.inj,h.keys,h.nod,h.few,h.rng⟩
 ·have r:=h.rng b;exact apart d r.1 r.2.1
 ·have r:=h.rng b;exact apart d r.2.2.1 r.2.2.2.1
 ·have r:=h.rng b;exact apart d r.2.2.2.2.1 r.2.2.2.2.2
 ·obtain⟨⟨wl,cl,e1,e2,e3,e4⟩,e5,e6⟩:=h.ent b e he
  exact⟨⟨wl,cl,u.get e1 (apart d e5 e6),u.get e2 (apart d e3 e4),e3,e4⟩,e5,e6⟩
theorem keep (h:zu V lo hi A L)(u:Upd 0 0 V V'):zu V' lo hi A L:=h.out u (.inl (Nat.zero_le _))
theorem zk3 (h:zu V lo hi A L)(b:Bool)(hW:W∈typed):dlk (.str (keyS W)) (entD (A.adr b) (L b))=(fnd (L b) W).map fun e=>.ref (A.adr b e.key):=
 za5 (A.adr b) hW (L b) fun e he=>(h.keys b e he).1
theorem exact (h:zu V lo hi A L){b:Bool}(he:e∈L b):attrOO V[A.adr b e.key]? 8 V=some (.bool e.ex,V):=by
 obtain⟨⟨wl,cl,e1,e2,e3,e4⟩,e5,e6⟩:=h.ent b e he
 wp_walk using e1
theorem zb4 (h:zu V lo hi A L)(k:Nat)(b:Bool){w:Nat}(hW:W∈typed)(hw:V[w]?=some (.list (iz W)))(zz:∀ V',(callN prog (k+4) 12 [.ref (A.t b),.ref w] V=some (refO (A.adr b) (ownE (L b) W),V'))->(Upd 0 0 V V')->GG):GG:=by
 have hobj:=h.obj b
 unfold tabO at hobj
 have hl:=zO W hW
 have hn:=(zq W hW).1
 have q1:=keyOf (V:=V) (k+2) hw hl (by lia)
 have U1:=Upd.app 0 0 V [za.list ((W.map (digits 4)).map MV.str)]
 generalize V ++ [za.list ((W.map (digits 4)).map MV.str)]=Vd at q1 U1
 have d1:=U1.keep (h.dic b)
 have kf:=zcn (A.adr b) (L b)
 have g1:=h.zk3 b hW
 have l0:=zg hobj
 have hobj1:=U1.keep hobj
 have hdic:=h.dic b
 cases e1:fnd (L b) W with
 | some e=>
  rw[e1,Option.map_some] at g1
  refine zz Vd ?_ U1
  have e2:ownE (L b) W=some e:=by unfold ownE;rw[e1]
  rw[e2]
  wp_walk using hobj,q1,hdic,d1,kf,g1
 | none=>
  rw[e1,Option.map_none] at g1
  have hw1:=U1.keep hw
  have q2:=qR (V:=Vd) (k+1) hw1 hl (by lia)
  have U2:=U1.trans (Upd.app 0 0 Vd [za.list (iz (W.map loC))])
  have n2:=zm Vd (za.list (iz (W.map loC)))
  generalize hr:Vd.length=r at q2 n2
  generalize Vd ++ [za.list (iz (W.map loC))]=Ve at q2 U2 n2
  have hW2:=yJ W hW
  have q3:=keyOf (V:=Ve) (k+2) n2 (zO _ hW2) (by have:=(zq _ hW2).1;unfold lower at this;lia)
  have U3:=U2.trans (Upd.app 0 0 Ve [za.list (((W.map loC).map (digits 4)).map MV.str)])
  generalize Ve ++ [za.list (((W.map loC).map (digits 4)).map MV.str)]=Vf at q3 U3
  have d3:=U3.keep (h.dic b)
  have g2:=h.zk3 b hW2
  unfold lower at g2
  cases e2:fnd (L b) (lower W) with
  | none=>
   have g3:dlk (.str (keyS (W.map loC))) (entD (A.adr b) (L b))=.none:=by rw[g2];unfold lower at e2;rw[e2];rfl
   have e3:ownE (L b) W=.none:=by unfold ownE;rw[e1,e2]
   rw[e3] at zz
   refine zz Vf ?_ U3
   wp_walk using hobj,q1,hdic,d1,kf,g1,Option.map_none,hobj1,q2,q3,d3,g3,Bool.false_eq_true
  | some e=>
   have g3:dlk (.str (keyS (W.map loC))) (entD (A.adr b) (L b))=some (.ref (A.adr b e.key)):=by rw[g2];unfold lower at e2;rw[e2];rfl
   have x3:=(h.keep U3).exact (zbu e2).1
   have e3:ownE (L b) W=if e.ex then .none else some e:=by unfold ownE;rw[e1,e2]
   rw[e3] at zz
   refine zz Vf ?_ U3
   cases ex:e.ex with
   | true=>
    rw[ex] at x3
    wp_walk using hobj,q1,hdic,d1,kf,g1,Option.map_none,hobj1,q2,q3,d3,g3,x3
   | false=>
    rw[ex] at x3
    wp_walk using hobj,q1,hdic,d1,kf,g1,Option.map_none,hobj1,q2,q3,d3,g3,x3,Bool.false_eq_true
end zu
theorem xM{i:Nat}{a b:za}(h:i=J.length):(J ++ [a]).set i b=J ++ [b]:=by subst h;simp
noncomputable def isinO (o:Option za) (k:List Nat):Option Bool:=qLD o (fun l=>if l.all isS then some (l.any fun v=>v.beq (.str k)) else .none) (fun l=>if keyFits (.str k) l then some (dlk (.str k) l).isSome else .none)
theorem qK (k:List Nat)(j:Nat)(J:Hp):isIn (.str k) (.ref j) J=isinO J[j]? k:=rfl
theorem zks (k:List Nat):isinO (some (.list [])) k=some false:=rfl
theorem zjx (a k:List Nat):isinO (some (.list [.str a])) k=some (a == k):=by
 show some ((MV.str a).beq (.str k) || false)=_
 rw[Bool.or_false,qN]
theorem ji (l:List (MV×MV))(k:List Nat):isinO (some (.dict l)) k=if keyFits (.str k) l then some (dlk (.str k) l).isSome else .none:=rfl
theorem zlJ (v:MV)(i:Nat)(J:Hp):popO (some (.list [v])) i J=some (v,J.set i (.list [])):=rfl
namespace zu
variable {V:Hp}{lo hi:Nat}{A:TA}{L:Bool->List Ent}
theorem zcv (h:zu V lo hi A L)(k:Nat)(zz:∀ V' r,(callN prog (k+1) 13 [.ref (A.t false)] V=some (.ref r,V'))->(V'[r]?=some (.list [.ref (A.t false),.ref (A.t true)]))->(Upd 0 0 V V')->GG):GG:=by
 have h0:=h.obj false;have h1:=h.obj true
 have p0:=h.par false;have p1:=h.par true
 unfold tabO at h0 h1
 simp only[Bool.false_eq_true,if_false,if_true] at p0 p1
 have l0:=zg h0;have l1:=zg h1;have m0:=zg p0;have m1:=zg p1
 have nn:(nmT false == nmT true)=false:=rfl
 have r1:∀ v:MV,([v]:List MV).reverse=[v]:=fun _=>rfl
 have r0:([]:List MV).reverse=[]:=rfl
 refine zz (V ++ [za.list [.ref (A.t false),.ref (A.t true)]] ++ [za.list [.str (nmT false),.str (nmT true)]] ++ [za.list []] ++ [za.list [.ref (A.t true)]] ++ [za.list []]) V.length ?_ ?_ (((((Upd.app 0 0 _ _).trans (Upd.app 0 0 _ _)).trans (Upd.app 0 0 _ _)).trans (Upd.app 0 0 _ _)).trans (Upd.app 0 0 _ _))
 ·wp_walk using h0,h1,p0,p1,zlJ,qK,Option.bind_some,zks,zjx,nn,r1,r0,yq,xM,List.nil_append,List.cons_append,Option.map_some
 ·simp -dsimp -implicitDefEqProofs (disch:=first | assumption | lia | (simp only[EVL] <;> lia) | fail) only[qj,yd]
theorem entryOf (h:zu V lo hi A L)(k:Nat){w:Nat}(hW:W∈typed)(hw:V[w]?=some (.list (iz W)))(zz:∀ V',(callN prog (k+5) 14 [.ref (A.t false),.ref w] V=some (refE A (entE L W),V'))->(Upd 0 0 V V')->GG):GG:=by
 refine h.zcv (k+3) fun Vd r q1 hr U1=>?_
 refine (h.keep U1).zb4 k false hW (U1.keep hw) fun Ve q2 U2=>?_
 have U12:=U1.trans U2
 have hr2:=U2.keep hr
 cases e1:ownE (L false) W with
 | some e=>
  have e3:entE L W=some (false,e):=by unfold entE;rw[e1]
  rw[e1] at q2
  rw[e3] at zz
  refine zz Ve ?_ U12
  wp_walk using q1,hr,hr2,q2
 | none=>
  refine (h.keep U12).zb4 k true hW (U12.keep hw) fun Vf q3 U3=>?_
  have hr3:=U3.keep hr2
  rw[e1] at q2
  cases e2:ownE (L true) W with
  | some e=>
   have e3:entE L W=some (true,e):=by unfold entE;rw[e1,e2];rfl
   rw[e2] at q3
   rw[e3] at zz
   refine zz Vf ?_ (U12.trans U3)
   wp_walk using q1,hr,hr2,q2,q3,hr3,Bool.false_eq_true
  | none=>
   have e3:entE L W=.none:=by unfold entE;rw[e1,e2];rfl
   rw[e2] at q3
   rw[e3] at zz
   refine zz Vf ?_ (U12.trans U3)
   wp_walk using q1,hr,hr2,q2,q3,hr3,Bool.false_eq_true
end zu
noncomputable def writtenP (text W:List Nat) (ex:Bool):List Nat:=
 if ex || !(W.any fun c=>loC c != c) then text else if W.any fun c=>upC c != c then fuP text else if decide (1 < mwF text 0 false) then iuP text false else text.map upC
theorem qH:∀ t∈texts,allok t:=by
 intro W h
 simp only[texts,List.mem_cons,List.not_mem_nil,or_false] at h
 unfold allok
 rcases h with rfl | rfl | rfl | rfl | rfl | rfl | rfl <;> decide
theorem zX:∀ t∈texts,t.length<=7:=by
 intro W h
 simp only[texts,List.mem_cons,List.not_mem_nil,or_false] at h
 rcases h with rfl | rfl | rfl | rfl | rfl | rfl | rfl <;> decide
noncomputable def bump (n:Nat->Nat) (b:Bool) (key:List Nat) (L:Bool->List Ent):Bool->List Ent:=fun b'=>if b'=b then (L b).map fun e=>if e.key=key then { e with used:=n e.used } else e else L b'
theorem zch {n:Nat->Nat}{b:Bool}{L:Bool->List Ent}:bump n b key L b=(L b).map fun e=>if e.key=key then { e with used:=n e.used } else e:=if_pos rfl
theorem zbK {n:Nat->Nat}{b:Bool}{L:Bool->List Ent}(h:¬ b'=b):bump n b key L b'=L b':=if_neg h
theorem zbZ {n:Nat->Nat}{b:Bool}{L:Bool->List Ent}{x':Ent}{P:Ent->Prop}(h:x'∈bump n b key L b')(k1:∀ x∈L b',¬ (b'=b/\x.key=key)->P x)(k2:∀ x∈L b,b'=b->x.key=key->P { x with used:=n x.used }):P x':=by
 by_cases hb:b'=b
 ·rw[hb,zch] at h
  obtain⟨x,hx,e⟩:=List.mem_map.mp h
  rw[<- e]
  by_cases hk:x.key=key
  ·rw[if_pos hk];exact k2 x hx hb hk
  ·rw[if_neg hk];exact k1 x (hb ▸ hx) fun z=>hk z.2
 ·rw[zbK hb] at h
  exact k1 x' h fun z=>hb z.1
theorem zfJ {L:List Ent}(p:L.Pairwise fun e e'=>e.key≠e'.key):∀ {x e:Ent},x∈L->e∈L->x.key=e.key->x=e:=by
 induction p with
 | nil=>intro x e hx;cases hx
 | cons h _ ih=>
  intro x e hx he hk
  cases hx with
  | head=>cases he with
   | head=>rfl
   | tail _ he=>exact absurd hk (h _ he)
  | tail _ hx=>cases he with
   | head=>exact absurd hk.symm (h _ hx)
   | tail _ he=>exact ih hx he hk
namespace zu
variable {V:Hp}{lo hi:Nat}{A:TA}{L:Bool->List Ent}
theorem setUsed (h:zu V lo hi A L){b:Bool}(he:e∈L b)(n:Nat->Nat)(zz:∀ V',(setAttr prog (.ref (A.adr b e.key)) 9 (.int (n e.used:Nat)) V=some V')->(zu V' lo hi A (bump n b e.key L))->(Upd lo hi V V')->GG):GG:=by
 obtain⟨⟨wl,cl,e1,e2,e3,e4⟩,e5,e6⟩:=h.ent b e he
 refine zz _ (zhq (l':=[(7,.ref wl),(1,.ref cl),(8,.bool e.ex),(9,.int (n e.used:Nat))]) e1 rfl rfl) ?_ (Upd.set _ _ ⟨e5,e6⟩)
 have ne:∀ {j:Nat} {o o':za},V[j]?=some o->(∀ l,o≠.inst 0 l)->(V.set (A.adr b e.key) o')[j]?=some o:=fun hj c=>(zb _ fun z=>by rw[z,hj] at e1;cases e1;exact c _ rfl).trans hj
 have dl:∀ b',entD (A.adr b') (bump n b e.key L b')=entD (A.adr b') (L b'):=fun b'=>by
  by_cases hb:b'=b
  ·rw[hb,zch]
   unfold entD
   rw[List.map_map]
   exact List.map_congr_left fun x _=>by show (MV.str (keyS (ite _ _ _:Ent).key),MV.ref (A.adr b (ite _ _ _:Ent).key))=_;split <;> rfl
  ·rw[zbK hb]
 have ky:∀ {b' x},x∈bump n b e.key L b'->∃ y∈L b',y.key=x.key/\y.text=x.text:=fun {b' x} hx=>zbZ (P:=fun x=>∃ y∈L b',y.key=x.key/\y.text=x.text) hx (fun y hy _=>⟨y,hy,rfl,rfl⟩) fun y hy hb _=>⟨y,hb ▸ hy,rfl,rfl⟩
 refine⟨fun b'=>ne (h.obj b') nofun,fun b'=>ne (h.par b') nofun,fun b'=>by rw[dl];exact ne (h.dic b') nofun,fun b' x' hx'=>zbZ (P:=fun x=>ziU _ lo hi (A.adr b' x.key) x) hx' (fun x hx no=>?_) fun x hx hb hk=>?_,fun ba bb xa xc hxa hxb hc=>?_,fun b' x' hx'=>?_,fun b'=>?_,fun b'=>?_,h.rng⟩
 ·obtain⟨⟨wl',cl',f1,f2,f3,f4⟩,f5,f6⟩:=h.ent b' x hx
  exact⟨⟨wl',cl',(zb _ fun z=>no (h.inj b' b x e hx he z.symm)).trans f1,ne f2 nofun,f3,f4⟩,f5,f6⟩
 ·rw[zfJ (h.nod b) hx he hk,hb]
  exact⟨⟨wl,cl,get_set _ e1,ne e2 nofun,e3,e4⟩,e5,e6⟩
 ·obtain⟨ya,hy1,k₁,_⟩:=ky hxa
  obtain⟨yb,hy2,ka,_⟩:=ky hxb
  rw[<- k₁,<- ka] at hc ⊢
  exact h.inj ba bb ya yb hy1 hy2 hc
 ·obtain⟨x,hx,k1,k2⟩:=ky hx'
  rw[<- k1,<- k2]
  exact h.keys b' x hx
 ·by_cases hb:b'=b
  ·rw[hb,zch,List.pairwise_map]
   have hk:∀ z:Ent,(if z.key=e.key then { z with used:=n z.used } else z).key=z.key:=fun z=>by split <;> rfl
   exact (h.nod b).imp fun {x y} hxy=>by rw[hk,hk];exact hxy
  ·rw[zbK hb];exact h.nod b'
 ·by_cases hb:b'=b
  ·rw[hb,zch,List.length_map];exact h.few b
  ·rw[zbK hb];exact h.few b'
end zu
structure FR (B lo hi:Nat)(J V:Hp):Prop where
 len:J.length<=V.length
 eq:∀ j,j < J.length->(j < B∨B+14<=j)->((j < lo∨hi<=j)∨∀ l,J[j]?≠some (.inst 0 l))->V[j]?=J[j]?
namespace FR
variable {B lo hi:Nat}{J V κ:Hp}
theorem refl (B lo hi:Nat)(J:Hp):FR B lo hi J J:=⟨Nat.le_refl _,fun _ _ _ _=>rfl⟩
theorem trans (a:FR B lo hi J V)(b:FR B lo hi V κ):FR B lo hi J κ:=
 ⟨Nat.le_trans a.len b.len,fun j h o c=>by
  have e:=a.eq j h o c
  rw[b.eq j (Nat.lt_of_lt_of_le h a.len) o (by rw[e];exact c),e]⟩
theorem zaH (u:Upd B (B+14) J V):FR B lo hi J V:=⟨u.1,fun j h o _=>u.2 j h o⟩
theorem zT (u:Upd 0 0 J V):FR B lo hi J V:=⟨u.1,fun j h _ _=>u.2 j h (.inr (Nat.zero_le _))⟩
theorem get (f:FR B lo hi J V)(h:J[j]?=some o)(d:j < B∨B+14<=j)(n:∀ l,o≠.inst 0 l):V[j]?=some o:=
 (f.eq j (zg h) d (.inr fun l e=>n l (by rw[h] at e;cases e;rfl))).trans h
theorem zkV (f:FR B lo hi J V)(h:J[j]?=some o)(d:j < B∨B+14<=j)(n:j < lo∨hi<=j):V[j]?=some o:=
 (f.eq j (zg h) d (.inl n)).trans h
end FR
structure FT (lo hi:Nat)(J V:Hp):Prop where
 len:J.length<=V.length
 eq:∀ j,j < J.length->((j < lo∨hi<=j)∨∀ l,J[j]?≠some (.inst 0 l))->V[j]?=J[j]?
namespace FT
variable {B lo hi:Nat}{J V κ:Hp}
theorem trans (a:FT lo hi J V)(b:FT lo hi V κ):FT lo hi J κ:=
 ⟨Nat.le_trans a.len b.len,fun j h c=>by
  have e:=a.eq j h c
  rw[b.eq j (Nat.lt_of_lt_of_le h a.len) (by rw[e];exact c),e]⟩
theorem zT (u:Upd 0 0 J V):FT lo hi J V:=⟨u.1,fun j h _=>u.2 j h (.inr (Nat.zero_le _))⟩
theorem get (f:FT lo hi J V)(h:J[j]?=some o)(n:∀ l,o≠.inst 0 l):V[j]?=some o:=
 (f.eq j (zg h) (.inr fun l e=>n l (by rw[h] at e;cases e;rfl))).trans h
theorem fr (f:FT lo hi J V)(B:Nat):FR B lo hi J V:=⟨f.len,fun j h _ c=>f.eq j h c⟩
end FT
theorem zH.ft{lo:Nat}{nm:List Nat}(h:zH J B nm T p N)(f:FT lo hi J V):zH V B nm T p N:=by
 obtain⟨t,ct,nc,X,l⟩:=h
 exact⟨t,ct,nc,⟨f.get X.b (by intro l e;cases e),X.g.map (fun _ _ _ z=>f.get z (by intro l e;cases e)) fun _ z=>f.get z (by intro l e;cases e),f.get X.m (by intro l e;cases e),f.get X.d (by intro l e;cases e),f.get X.l (by intro l e;cases e)⟩,l⟩
theorem zU.ft{lo S:Nat}(h:zU J S)(f:FT lo hi J V):zU V S:=by
 obtain⟨s,D,d1,kf,all⟩:=h
 refine⟨f.get s (by intro l e;cases e),D,f.get d1 (by intro l e;cases e),kf,fun c hc=>?_⟩
 obtain⟨a,mt,fl,e,ea,l1,l2⟩:=all c hc
 exact⟨a,mt,fl,e,f.get ea (by intro l e;cases e),l1,l2⟩
theorem zU.fr{lo S:Nat}(h:zU J S)(f:FR B lo hi J V)(d:S+38<=B∨B+14<=S):zU V S:=by
 obtain⟨s,D,d1,kf,all⟩:=h
 refine⟨f.get s (apart d.symm (Nat.le_refl _) (Nat.lt_add_of_pos_right (by decide:0 < 38))) (fun _=>nofun),D,f.get d1 (apart d.symm (Nat.le_succ _) (Nat.add_lt_add_left (by decide:1 < 38) S)) (fun _=>nofun),kf,fun c hc=>?_⟩
 obtain⟨a,mt,fl,e,ea,l1,l2⟩:=all c hc
 exact⟨a,mt,fl,e,f.get ea (apart d.symm l1 l2) (fun _=>nofun),l1,l2⟩
theorem zu.fr{lo:Nat}{L:Bool->List Ent}(h:zu J lo' hi' A L)(f:FR B lo hi J V)(d:hi'<=B∨B+14<=lo')(d2:hi'<=lo∨hi<=lo'):zu V lo' hi' A L:=by
 have g:∀ {i:Nat} {o:za},J[i]?=some o->lo'<=i->i < hi'->V[i]?=some o:=fun e a b=>f.zkV e (apart d.symm a b) (apart d2.symm a b)
 refine⟨fun b=>g (h.obj b) (h.rng b).1 (h.rng b).2.1,fun b=>g (h.par b) (h.rng b).2.2.1 (h.rng b).2.2.2.1,fun b=>g (h.dic b) (h.rng b).2.2.2.2.1 (h.rng b).2.2.2.2.2,fun b e he=>?_,h.inj,h.keys,h.nod,h.few,h.rng⟩
 obtain⟨⟨wl,cl,e1,e2,e3,e4⟩,e5,e6⟩:=h.ent b e he
 exact⟨⟨wl,cl,g e1 e5 e6,g e2 e3 e4,e3,e4⟩,e5,e6⟩
namespace zu
variable {V:Hp}{lo hi:Nat}{A:TA}{L:Bool->List Ent}
theorem zbX (h:zu V lo hi A L){b:Bool}(he:e∈L b)(n:Nat->Nat)(zz:∀ V',(setAttrO V[A.adr b e.key]? (A.adr b e.key) 9 (.int (n e.used:Nat)) V=some V')->(zu V' lo hi A (bump n b e.key L))->(FT lo hi V V')->GG):GG:=by
 refine h.setUsed he n fun V' q h' U=>?_
 obtain⟨⟨wl,cl,e1,e2,e3,e4⟩,e5,e6⟩:=h.ent b e he
 rw[zW] at q
 have q':=q
 rw[e1,wI] at q'
 simp only[zlw,true_and] at q'
 rw[if_pos (by simp)] at q'
 cases q'
 refine zz _ q h' ⟨by simp,fun j hj c=>?_⟩
 rcases c with c | c
 ·exact zb _ (by lia)
 ·refine zb _ fun z=>c _ (by rw[<- z];exact e1)
theorem zeE (h:zu V lo hi A L){b:Bool}(he:e∈L b):attrOO V[A.adr b e.key]? 9 V=some (.int (e.used:Int),V):=by
 obtain⟨⟨wl,cl,e1,e2,e3,e4⟩,e5,e6⟩:=h.ent b e he
 wp_walk using e1
theorem zfE (h:zu V lo hi A L)(b:Bool):attrOO V[A.t b]? 13 V=some (.bool false,V):=by
 have hobj:=h.obj b
 unfold tabO at hobj
 wp_walk using hobj
theorem written (h:zu V lo hi A L){S:Nat}(hs:zU V S)(k:Nat){b:Bool}(he:e∈L b){w:Nat}(hW:W∈typed)(hw:V[w]?=some (.list (iz W)))(zz:∀ V' r,(callN prog (k+6) 20 [.ref (A.t false),.ref (A.adr b e.key),.ref w,.ref S] V=some (.ref r,V'))->(V'[r]?=some (.list (iz (writtenP e.text W e.ex))))->((lo<=r/\r < hi)∨V.length<=r)->(Upd 0 0 V V')->GG):GG:=by
 have hx:=h.exact he
 have hk:=h.keys b e he
 have tok:=qH _ hk.2;have zlZ:=zX _ hk.2
 obtain⟨⟨wl,cl,e1,e2,e3,e4⟩,e5,e6⟩:=h.ent b e he
 have hc:attrOO V[A.adr b e.key]? 1 V=some (.ref cl,V):=by wp_walk using e1
 have hl:=zO W hW
 have hn:=(zq W hW).1
 have q1:=zga (V:=V) (k+2) hw hl (by lia)
 have U1:=Upd.app 0 0 V [za.list (iz (W.filter fun c=>loC c != c))]
 generalize V ++ [za.list (iz (W.filter fun c=>loC c != c))]=Vd at q1 U1
 have q2:=zgt (V:=Vd) (k+2) (U1.keep hw) hl (by lia)
 have U2:=U1.trans (Upd.app 0 0 Vd [za.list (iz (W.filter fun c=>upC c != c))])
 generalize Vd ++ [za.list (iz (W.filter fun c=>upC c != c))]=Ve at q2 U2
 clear e1
 revert zz
 unfold writtenP
 cases ex:e.ex with
 | true=>
  rw[ex] at hx
  intro zz
  refine zz V cl ?_ (by simpa using e2) (.inl ⟨e3,e4⟩) (Upd.refl 0 0 _)
  wp_walk using hc,hx
 | false=>
  rw[ex] at hx
  cases up:(W.any fun c=>loC c != c) with
  | false=>
   rw[up] at q1
   intro zz
   refine zz Vd cl ?_ (by simpa using U1.keep e2) (.inl ⟨e3,e4⟩) U1
   wp_walk using hc,hx,q1,Bool.false_eq_true
  | true=>
   rw[up] at q1
   cases lw:(W.any fun c=>upC c != c) with
   | true=>
    rw[lw] at q2
    refine zhQ (hs.keep U2) k (U2.keep e2) tok (by lia) fun V' r q3 hr lr U3=>?_
    intro zz
    refine zz V' r ?_ (by simpa using hr) ?_ (U2.trans U3)
    ·wp_walk using hc,hx,q1,q2,q3,Bool.false_eq_true
    ·have:=U2.1
     rcases lr with rfl | lr
     ·exact .inl ⟨e3,e4⟩
     ·exact .inr (by lia)
   | false=>
    rw[lw] at q2
    have q3:=zdF (hs.keep U2) k (U2.keep e2) tok
    have tg:=(h.keep U2).zfE false
    cases mw:decide (1 < mwF e.text 0 false) with
    | true=>
     have q4:=ze7 (hs.keep U2) (k+1) (U2.keep e2) tok (by lia)
     intro zz
     refine zz (Ve ++ [za.list (iz (iuP e.text false))]) Ve.length ?_ (by simp) (.inr U2.1) (U2.trans (Upd.app 0 0 _ _))
     have mw':decide ((1:Int) < (mwF e.text 0 false:Nat))=true:=by rw[decide_eq_true_eq] at mw ⊢;lia
     wp_walk using hc,hx,q1,q2,q3,mw',tg,q4,Bool.false_eq_true
    | false=>
     have q4:=zdy (V:=Ve) (k+3) (U2.keep e2) (fun c hc=>yc (tok c hc)) (by lia)
     intro zz
     refine zz (Ve ++ [za.list (iz (e.text.map upC))]) Ve.length ?_ (by simp) (.inr U2.1) (U2.trans (Upd.app 0 0 _ _))
     have mw':decide ((1:Int) < (mwF e.text 0 false:Nat))=false:=by rw[decide_eq_false_iff_not] at mw ⊢;lia
     wp_walk using hc,hx,q1,q2,q3,mw',tg,q4,Bool.false_eq_true
theorem zbb (h:zu V lo hi A L){S:Nat}(hs:zU V S)(k:Nat){b:Bool}{w:Nat}(hE:entE L W=some (b,e))(hW:W∈typed)(hw:V[w]?=some (.list (iz W)))(zz:∀ V' r,(callN prog (k+7) 21 [.ref (A.t false),.ref w,.ref S] V=some (.ref r,V'))->(zu V' lo hi A (bump (·+1) b e.key L))->(V'[r]?=some (.list (iz (writtenP e.text W e.ex))))->((lo<=r/\r < hi)∨V.length<=r)->(FT lo hi V V')->GG):GG:=by
 refine h.entryOf (k+1) hW hw fun Vd q1 U1=>?_
 have he:=yw hE
 rw[hE] at q1
 simp only[refE] at q1
 have h1:=h.keep U1
 have u1:=h1.zeE he
 refine h1.zbX he (·+1) fun Ve q2 h2 F2=>?_
 have F12:=(FT.zT (lo:=lo) (hi:=hi) U1).trans F2
 have hw1:=U1.keep hw
 have hw2:=F12.get hw (by intro l c;cases c)
 have hs2:=hs.ft F12
 have he':{ e with used:=e.used+1 }∈bump (·+1) b e.key L b:=by
  unfold bump
  rw[if_pos rfl]
  exact List.mem_map.mpr ⟨e,he,by rw[if_pos rfl]⟩
 refine h2.written hs2 k he' hW hw2 fun Vf r q3 hr lr U3=>?_
 refine zz Vf r ?_ (h2.keep U3) hr ?_ (F12.trans (FT.zT U3))
 ·have len:=zF W
  have ln:=(zq W hW).1
  have ln2:W.length≠0:=fun z=>(zq W hW).2 (List.length_eq_zero_iff.mp z)
  have cast:((e.used:Int)+1)=((e.used+1:Nat):Int):=by lia
  wp_walk using q1,hw1,len,u1,cast,q2,q3,Bool.false_eq_true
 ·have:=F12.len
  rcases lr with lr | lr
  ·exact .inl lr
  ·exact .inr (by lia)
theorem zcQ (h:zu V lo hi A L)(k:Nat){b:Bool}{w:Nat}(hE:entE L W=some (b,e))(hu:0 < e.used)(hW:W∈typed)(hw:V[w]?=some (.list (iz W)))(zz:∀ V',(callN prog (k+6) 22 [.ref (A.t false),.ref w] V=some (.ref w,V'))->(zu V' lo hi A (bump (· - 1) b e.key L))->(FT lo hi V V')->GG):GG:=by
 refine h.entryOf k hW hw fun Vd q1 U1=>?_
 have he:=yw hE
 rw[hE] at q1
 simp only[refE] at q1
 have h1:=h.keep U1
 have u1:=h1.zeE he
 refine h1.zbX he (· - 1) fun Ve q2 h2 F2=>?_
 refine zz Ve ?_ h2 ((FT.zT U1).trans F2)
 have cast:((e.used:Int) - 1)=((e.used - 1:Nat):Int):=(Int.ofNat_sub (by assumption)).symm
 wp_walk using q1,u1,cast,q2,Bool.false_eq_true
end zu
theorem zfo (J:Hp)(n:Nat)(a b:Int):pyEq J (n+1) (.int a) (.int b)=some (decide (a=b)):=rfl
theorem zbL (J:Hp)(n:Nat):∀ X:List Nat,pyEqL (pyEq J (n+1)) (iz X) (iz X)=some true
 | []=>rfl
 | c :: r=>by
  show ((pyEq J (n+1) (.int (c:Int)) (.int (c:Int))).bind fun t=>(pyEqL (pyEq J (n+1)) (iz r) (iz r)).bind fun u=>some (t && u))=_
  rw[zbL J n r,zfo,decide_eq_true rfl];rfl
theorem eqL{n i:Nat}(hi:J[i]?=some (.list X))(hj:J[j]?=some (.list Y))(h:X.length=Y.length):pyEq J (n+1) (.ref i) (.ref j)=pyEqL (pyEq J n) X Y:=by
 show (qL J[i]? fun x=>qL J[j]? fun y=>if x.length=y.length then pyEqL (pyEq J n) x y else some false)=_
 rw[hi,hj];exact if_pos h
theorem eqD{n i:Nat}(hi:J[i]?=some (.list X))(hj:J[j]?=some (.list Y))(h:¬ X.length=Y.length):pyEq J (n+1) (.ref i) (.ref j)=some false:=by
 show (qL J[i]? fun x=>qL J[j]? fun y=>if x.length=y.length then pyEqL (pyEq J n) x y else some false)=_
 rw[hi,hj];exact if_neg h
theorem zf5{a b:MV}{t:Bool}(h:pyEq J 4 a b=some t):cmpop .ne a b J=some (!t):=by
 show ((pyEq J 4 a b).bind fun t=>some (!t))=_
 rw[h];rfl
theorem zl2{i:Nat}{X:List Nat}(hi:J[i]?=some (.list (iz X)))(hj:J[j]?=some (.list (iz X))):cmpop .ne (.ref i) (.ref j) J=some false:=
 zf5 ((eqL hi hj rfl).trans (zbL J 2 X))
theorem zg4:∀ W,(fuP W).length=W.length
 | []=>rfl
 | c :: r=>by
  unfold fuP
  split
  ·rfl
  ·simp[zg4 r]
theorem zgU:∀ W b,(iuP W b).length=W.length
 | []=>fun b=>rfl
 | c :: r=>fun b=>by simp[iuP,zgU r]
theorem yN (t W:List Nat)(ex:Bool):(writtenP t W ex).length<=t.length:=by
 unfold writtenP
 split
 ·exact Nat.le_refl _
 ·split
  ·rw[zg4];exact Nat.le_refl _
  ·split
   ·rw[zgU];exact Nat.le_refl _
   ·simp
noncomputable def expO (place:Int) (w r:Nat):za:=.inst 5 [(22,.int place),(7,.ref w),(1,.ref r)]
section
variable {V:Hp}{B S N lo hi:Nat}{nm D W R:List Nat}{p:Int}{A:TA}{L:Bool->List Ent}
theorem zkT (k:Nat)(p w c:MV)(J:Hp):callN prog (k+1) 54 [.ref J.length,p,w,c] (J ++ [.inst 5 []])=some (.none,J ++ [.inst 5 [(22,p),(7,w),(1,c)]]):=by
 wp_walk using xM
theorem zgh (h:zH V B nm (D ++ W ++ R) (((D ++ W).length:Int)+1) N)(hs:zU V S)(ht:zu V lo hi A L)(k:Nat)(ho:allok (D ++ W ++ R))(hW:W∈typed)(hD:∀ c A',D=A' ++ [c]->isAlnumC c=false)(hR:∀ c R',R=c :: R'->isAlnumC c=false)(hf:(D ++ W ++ R).length < 90000)
  (hE:entE L W=.none) {GG:Prop} (zz:∀ V',(callN prog (k+9) 56 [.ref (B+4),.ref (A.t false),.ref S] V=some (.none,V'))->(Upd 0 0 V V')->GG):GG:=by
 have ln:=(zq W hW).1
 have ln2:W.length≠0:=fun z=>(zq W hW).2 (List.length_eq_zero_iff.mp z)
 have q1:=jD D W R h hs ho k rfl (yE W hW) (zq W hW).2 hD hR hf
 refine h.codes (k+6) D.length (D ++ W).length (by simp) (by simp) fun Vd w q2 U1 hw lw=>?_
 rw[List.take_left,List.drop_left] at hw
 refine (ht.keep U1).entryOf (k+3) hW hw fun Ve q3 U2=>?_
 rw[hE] at q3
 simp only[refE] at q3
 refine h.b fun _ _ hb=>?_
 have len:=zF W
 refine zz Ve ?_ (U1.trans U2)
 generalize (D ++ W).length=y at *
 wp_walk using q1,q2,hw,len,q3,Bool.false_eq_true
theorem zdw (h:zH V B nm (D ++ W ++ R) (((D ++ W).length:Int)+1) N)(hs:zU V S)(ht:zu V lo hi A L)(k:Nat)(ho:allok (D ++ W ++ R))(hW:W∈typed)(hD:∀ c A',D=A' ++ [c]->isAlnumC c=false)(hR:∀ c R',R=c :: R'->isAlnumC c=false)(hf:(D ++ W ++ R).length < 90000)
  (dS:S+38<=B∨B+14<=S) (dT:hi<=B∨B+14<=lo) (lB:B+13 < V.length) (hN:N+100<=400000) {b:Bool} {e:Ent} (hE:entE L W=some (b,e)) {GG:Prop} (zz:∀ V' x w r,(callN prog (k+9) 56 [.ref (B+4),.ref (A.t false),.ref S] V=some (.ref x,V'))->(zH V' B nm (D ++ writtenP e.text W e.ex ++ R) (((D ++ writtenP e.text W e.ex).length:Int)+1) (N+50))->(zu V' lo hi A (bump (·+1) b e.key L))->(FR B lo hi V V')->(V'[x]?=some (expO ((D.length:Int)+1) w r))->(V'[w]?=some (.list (iz W)))->(V'[r]?=some (.list (iz (writtenP e.text W e.ex))))->(V.length<=x)->(V.length<=w)->((lo<=r/\r < hi)∨V.length<=r)->GG):GG:=by
 have ln:=(zq W hW).1
 have ln2:W.length≠0:=fun z=>(zq W hW).2 (List.length_eq_zero_iff.mp z)
 have q1:=jD D W R h hs ho k rfl (yE W hW) (zq W hW).2 hD hR hf
 refine h.codes (k+6) D.length (D ++ W).length (by simp) (by simp) fun Vd w q2 U1 hw lw=>?_
 rw[List.take_left,List.drop_left] at hw
 refine (ht.keep U1).entryOf (k+3) hW hw fun Ve q3 U2=>?_
 rw[hE] at q3
 simp only[refE] at q3
 refine h.b fun _ _ hb=>?_
 have U12:=U1.trans U2
 have hw2:=U2.keep hw
 have l12:=U12.1
 refine (ht.keep U12).zbb (hs.keep U12) (k+1) hE hW hw2 fun Vf r q4 ht3 hr lr F3=>?_
 have F13:=(FT.zT (lo:=lo) (hi:=hi) U12).trans F3
 have l13:=F13.len
 have ro:r < B∨B+14<=r:=by first | exact rB dT (Nat.lt_of_lt_of_le lB l13) (by assumption) | lia
 have h3:=h.ft F13
 have wl:(writtenP e.text W e.ex).length<=40:=by
  have he:=yw hE
  have:=zX _ (ht.keys b e he).2
  exact Nat.le_trans (yN _ _ _) (by lia)
 refine h3.replace (k+2) D.length (D ++ W).length (by simp) (by simp) (.inl (by simp;lia)) hr ro (by lia) fun ν4 v pi q5 h4 U4=>?_
 have e1:(D ++ W ++ R).take D.length ++ writtenP e.text W e.ex ++ (D ++ W ++ R).drop (D ++ W).length=D ++ writtenP e.text W e.ex ++ R:=by
  rw[List.drop_left,show D ++ W ++ R=D ++ (W ++ R) by simp,List.take_left]
 rw[e1] at h4
 have hr4:=U4.get hr ro
 have hw3:=F3.get hw2 (by intro l c;cases c)
 have hw4:=U4.get hw3 (.inr (by lia))
 refine h4.zfs ((D.length:Int)+1+(writtenP e.text W e.ex).length) fun Vg q6 h5 U5=>?_
 rw[zW] at q6
 have len:=zF (writtenP e.text W e.ex)
 have lenW:=zF W
 have F15:=((F13.fr B).trans (FR.zaH U4)).trans (FR.zaH U5)
 have T5:=(ht3.out U4 dT.symm).out U5 dT.symm
 have cast:((D ++ writtenP e.text W e.ex).length:Int)+1=(D.length:Int)+1+(writtenP e.text W e.ex).length:=by simp;lia
 have l15:=F15.len
 refine zz (Vg ++ [expO ((D.length:Int)+1) w r]) Vg.length w r ?_ ?_ (T5.keep (Upd.app 0 0 _ _)) (F15.trans (FR.zT (Upd.app 0 0 _ _))) (zm _ _) (zf _ (U5.get hw4 (.inr (by lia)))) (zf _ (U5.get hr4 ro)) l15 lw ?_
 ·have hr5:=U5.get hr4 ro
  generalize (D ++ W).length=y at *
  generalize (writtenP e.text W e.ex).length=z at *
  unfold expO
  have q5':callN prog (k+8) 36 [.ref (B+4),.int ((D.length:Int)+1),.int ((y:Int)+1),.ref r] Vf=some (v,ν4):=q5
  have q7:=zkT (k+7) (.int ((D.length:Int)+1)) (.ref w) (.ref r) Vg
  wp_walk using q1,q2,hw,lenW,q3,hw2,q4,q5',hr4,len,q6,hr5,xM,Bool.false_eq_true
 ·rw[cast]
  obtain⟨t,ct,nc,X,l⟩:=h5
  exact⟨t,ct,nc,X.app _,by lia⟩
 ·lia
end
theorem zH.wide{nm:List Nat}(h:zH V B nm T p N)(l:N<=N'):zH V B nm T p N':=by
 obtain⟨t,ct,nc,X,l'⟩:=h
 exact⟨t,ct,nc,X,by lia⟩
section
variable {V:Hp}{B N lo hi:Nat}{nm D W X R:List Nat}{p:Int}{A:TA}{L:Bool->List Ent}
theorem zfT (h:zH V B nm (D ++ X ++ R) p N)(ht:zu V lo hi A L)(k:Nat)(hW:W∈typed)(lX:X.length<=40)(lB:B+13 < V.length)
  (dT:hi<=B∨B+14<=lo) (hN:N+100<=400000) {b:Bool} {e:Ent} (hE:entE L W=some (b,e)) (hu:0 < e.used) {x w r:Nat}
  (hx:V[x]?=some (expO ((D.length:Int)+1) w r)) (hw:V[w]?=some (.list (iz W))) (hr:V[r]?=some (.list (iz X))) (xo:x < B∨B+14<=x) (wo:w < B∨B+14<=w) {GG:Prop} (zz:∀ V' p',(callN prog (k+9) 57 [.ref (B+4),.ref (A.t false),.ref x] V=some (.bool true,V'))->(zH V' B nm (D ++ W ++ R) p' (N+50))->(zu V' lo hi A (bump (· - 1) b e.key L))->(FR B lo hi V V')->GG):GG:=by
 have ln:=(zq W hW).1
 have ln2:=(zq W hW).2
 refine h.codes (k+6) D.length (D ++ X).length (by simp) (by simp) fun Vd c q1 U1 hc lc=>?_
 rw[List.take_left,List.drop_left] at hc
 have hne:=zl2 hc (U1.keep hr)
 have hx1:=U1.keep hx
 have hw1:=U1.keep hw
 refine (ht.keep U1).zcQ (k+2) hE hu hW hw1 fun Ve q2 ht2 F2=>?_
 have F12:=(FT.zT (lo:=lo) (hi:=hi) U1).trans F2
 have h2:=h.ft F12
 have hx2:=F2.get hx1 (by intro l c;cases c)
 have hw2:=F2.get hw1 (by intro l c;cases c)
 refine h2.replace (k+2) D.length (D ++ X).length (by simp) (by simp) (.inr ln2) hw2 wo (by lia) fun Vf v ph q3 h3 U3=>?_
 have e1:(D ++ X ++ R).take D.length ++ W ++ (D ++ X ++ R).drop (D ++ X).length=D ++ W ++ R:=by
  rw[List.drop_left,show D ++ X ++ R=D ++ (X ++ R) by simp,List.take_left]
 rw[e1] at h3
 have hx3:=U3.get hx2 xo
 have hw3:=U3.get hw2 wo
 refine h3.zfs ((D.length:Int)+1+W.length) fun ν4 q4 h4 U4=>?_
 rw[zW] at q4
 have F14:=((F12.fr B).trans (FR.zaH U3)).trans (FR.zaH U4)
 have T4:=(ht2.out U3 (by lia)).out U4 (by lia)
 have bv:=h.zmr
 have zv:=h.zv
 have lenX:=zF X
 have lenW:=zF W
 have cast:(D.length:Int)+1+(X.length:Int)=((D ++ X).length:Int)+1:=by simp;lia
 have le:(D ++ X).length<=(D ++ X ++ R).length:=by simp
 have q3':callN prog (k+8) 36 [.ref (B+4),.int ((D.length:Int)+1),.int (((D ++ X).length:Int)+1),.ref w] Ve=some (v,Vf):=q3
 refine zz ν4 _ ?_ (h4.wide (N':=N+50) (by lia)) T4 F14
 ·unfold expO at hx hx1 hx2 hx3
  clear q3
  generalize (D ++ X ++ R).length=z at *
  generalize (D ++ X).length=y at *
  refine h.b fun _ _ hb=>?_
  wp_walk using hx,hr,lenX,cast,bv,zv,q1,hx1,hne,q2,q3',hx3,hw3,lenW,q4,Bool.false_eq_true
end
theorem zka {l:List (MV×MV)}{i:Nat}{k:MV}(h:keyFits k l=true)(hl:l.length<=1000000)(d:dlk k l=some v):popK (some (.dict l)) i k J=some (v,J.set i (.dict (ddel k l))):=by
 show (if keyFits k l && decide (l.length<=1000000) then (dlk k l).bind fun v=>some (v,J.set i (.dict (ddel k l))) else .none)=_
 rw[h,decide_eq_true hl,d];rfl
theorem zg9 {l:List (MV×MV)}{i:Nat}{k:MV}(h:keyFits k l=true)(hl:l.length<=1000000):popD (some (.dict l)) i k J=oX (dlk k l) (some (.none,J)) fun v=>some (v,J.set i (.dict (ddel k l))):=by
 show (if keyFits k l && decide (l.length<=1000000) then oX (dlk k l) (some (.none,J)) fun v=>some (v,J.set i (.dict (ddel k l))) else .none)=_
 rw[h,decide_eq_true hl];rfl
noncomputable def UpL (lo:Nat) (J V:Hp):Prop:=J.length<=V.length/\∀ j,j < lo->V[j]?=J[j]?
theorem UpL.refl (lo:Nat)(J:Hp):UpL lo J J:=⟨Nat.le_refl _,fun _ _=>rfl⟩
theorem UpL.trans {lo:Nat}(a:UpL lo J V)(b:UpL lo V κ):UpL lo J κ:=⟨Nat.le_trans a.1 b.1,fun j h=>(b.2 j h).trans (a.2 j h)⟩
theorem UpL.zT {lo:Nat}(u:Upd 0 0 J V)(h:lo<=J.length):UpL lo J V:=⟨u.1,fun j hj=>u.2 j (by lia) (.inr (Nat.zero_le _))⟩
theorem UpL.set {lo i:Nat}(J:Hp)(o:za)(h:lo<=i):UpL lo J (J.set i o):=⟨by simp,fun j hj=>zb o (by lia)⟩
theorem zbH{i:Nat}(h:J[i]?=some o):J.set i o=J:=by
 apply List.ext_getElem?
 intro j
 by_cases c:i=j
 ·subst c;rw[get_set _ h,h]
 ·rw[zb _ c]
noncomputable def del (W:List Nat) (L:List Ent):List Ent:=L.filter fun e=>!(e.key == W)
noncomputable def updL (L:Bool->List Ent) (b:Bool) (l:List Ent):Bool->List Ent:=fun b'=>if b'=b then l else L b'
theorem zbV {L:List Ent}(h:fnd L W=.none):del W L=L:=by
 unfold del fnd at *
 rw[List.find?_eq_none] at h
 rw[List.filter_eq_self]
 intro e he
 have:=h e he
 simpa using this
theorem zc0 (adr:List Nat->Nat)(hW:W∈typed):∀ L:List Ent,(∀ e∈L,e.key∈typed)->ddel (.str (keyS W)) (entD adr L)=entD adr (del W L)
 | []=>fun _=>rfl
 | e :: r=>fun h=>by
  have h1:=zcq e.key (h e (by simp)) W hW
  have ih:=zc0 adr hW r fun x hx=>h x (List.mem_cons_of_mem _ hx)
  unfold ddel entD del at *
  simp only[List.map_cons,List.filter_cons,qN,h1]
  cases e.key == W with
  | true=>simpa using ih
  | false=>simpa using ih
namespace zu
variable {V:Hp}{lo hi:Nat}{A:TA}{L:Bool->List Ent}
theorem zeS (h:zu V lo hi A L)(hd:A.d false≠A.d true)(b:Bool){l:List Ent}(hl:l.Sublist (L b)):zu (V.set (A.d b) (.dict (entD (A.adr b) l))) lo hi A (updL L b l):=by
 have hb:=h.dic b
 have o1:∀ {j:Nat} {c:Nat} {l:List (Nat×MV)},V[j]?=some (.inst c l)->A.d b≠j:=fun hj c=>by rw[<- c,hb] at hj;cases hj
 have o2:∀ {j:Nat} {l:List MV},V[j]?=some (.list l)->A.d b≠j:=fun hj c=>by rw[<- c,hb] at hj;cases hj
 have sub:∀ b' e,e∈updL L b l b'->e∈L b':=by
  intro b' e he
  unfold updL at he
  split at he
  ·rename_i hb;subst hb;exact hl.subset he
  ·exact he
 refine⟨fun b'=>(zb _ (o1 (h.obj b'))).trans (h.obj b'),fun b'=>(zb _ (o2 (h.par b'))).trans (h.par b'),fun b'=>?_,fun b' e he=>?_,fun ba bb eg eh hO hS=>h.inj ba bb eg eh (sub _ _ hO) (sub _ _ hS),fun b' e he=>h.keys b' e (sub _ _ he),fun b'=>?_,fun b'=>?_,h.rng⟩
 ·by_cases c:b'=b
  ·subst c
   unfold updL
   rw[if_pos rfl]
   exact get_set _ hb
  ·have:A.d b≠A.d b':=by cases b <;> cases b' <;> first | exact absurd rfl c | exact hd | exact hd.symm
   unfold updL
   rw[if_neg c]
   exact (zb _ this).trans (h.dic b')
 ·obtain⟨⟨wl,cl,e1,e2,e3,e4⟩,e5,e6⟩:=h.ent b' e (sub _ _ he)
  exact⟨⟨wl,cl,(zb _ (o1 e1)).trans e1,(zb _ (o2 e2)).trans e2,e3,e4⟩,e5,e6⟩
 ·unfold updL
  split
  ·rename_i hb;subst hb;exact (h.nod b').sublist hl
  ·exact h.nod b'
 ·unfold updL
  split
  ·rename_i hb;subst hb;exact Nat.le_trans hl.length_le (h.few b')
  ·exact h.few b'
theorem mono (h:zu V lo hi A L)(hh:hi<=hi'):zu V lo hi' A L:=by
 refine⟨h.obj,h.par,h.dic,fun b e he=>?_,h.inj,h.keys,h.nod,h.few,fun b=>?_⟩
 ·obtain⟨⟨wl,cl,e1,e2,e3,e4⟩,e5,e6⟩:=h.ent b e he
  exact⟨⟨wl,cl,e1,e2,e3,Nat.lt_of_lt_of_le e4 hh⟩,e5,Nat.lt_of_lt_of_le e6 hh⟩
 ·have r:=h.rng b;exact⟨r.1,Nat.lt_of_lt_of_le r.2.1 hh,r.2.2.1,Nat.lt_of_lt_of_le r.2.2.2.1 hh,r.2.2.2.2.1,Nat.lt_of_lt_of_le r.2.2.2.2.2 hh⟩
theorem zeN (h:zu V lo hi A L)(hd:A.d false≠A.d true)(b:Bool)(call:CallT)(m:Loc)(hW:W∈typed)(h15:m 15=some (.str (keyS W)))(h2:m 2=some (.ref (A.t b))):
  execs prog call [.ifs (.cmp (.v 15) [.isIn] [.a (.v 2) 12]) [.expr (.n (.a (.v 2) 12) .pop [.v 15])] []] m V=some (.none,m,V.set (A.d b) (.dict (entD (A.adr b) (del W (L b))))):=by
 have hobj:=h.obj b
 unfold tabO at hobj
 have hdic:=h.dic b
 have g:=h.zk3 b hW
 have kf:=zcn (A.adr b) (L b) (keyS W)
 cases e:fnd (L b) W with
 | none=>
  rw[zbV e,zbH hdic]
  rw[e,Option.map_none] at g
  wp_walk using h15,h2,hobj,qK,Option.bind_some,hdic,ji,kf,g,Option.isSome_none,Bool.false_eq_true
 | some x=>
  rw[e,Option.map_some] at g
  have dd:=zc0 (A.adr b) hW (L b) fun e he=>(h.keys b e he).1
  have len:(entD (A.adr b) (L b)).length<=1000000:=by unfold entD;rw[List.length_map];have:=h.few b;lia
  have pk:popK (some (.dict (entD (A.adr b) (L b)))) (A.d b) (.str (keyS W)) V=some (.ref (A.adr b x.key),V.set (A.d b) (.dict (entD (A.adr b) (del W (L b))))):=by
   rw[zka kf len g,dd]
  wp_walk using h15,h2,hobj,qK,Option.bind_some,hdic,ji,kf,g,Option.isSome_some,pk
theorem forget (h:zu V lo hi A L)(hd:A.d false≠A.d true)(k:Nat)(b:Bool){w:Nat}(hW:W∈typed)(hw:V[w]?=some (.list (iz W)))(zz:∀ V',(callN prog (k+3) 11 [.ref (A.t b),.ref w] V=some (.none,V'))->(zu V' lo hi A (updL L b (del (lower W) (del W (L b)))))->(V.length<=V'.length)->(∀ j,j < V.length->j≠A.d b->V'[j]?=V[j]?)->GG):GG:=by
 have hl:=zO W hW
 have hn:=(zq W hW).1
 have hW2:=yJ W hW
 have q1:=keyOf (V:=V) (k+1) hw hl (by lia)
 have U1:=Upd.app 0 0 V [za.list ((W.map (digits 4)).map MV.str)]
 generalize V ++ [za.list ((W.map (digits 4)).map MV.str)]=Vd at q1 U1
 have q2:=qR (V:=Vd) k (U1.keep hw) hl (by lia)
 have U2:=U1.trans (Upd.app 0 0 Vd [za.list (iz (W.map loC))])
 have n2:=zm Vd (za.list (iz (W.map loC)))
 generalize hr:Vd.length=r at q2 n2
 generalize Vd ++ [za.list (iz (W.map loC))]=Ve at q2 U2 n2
 have q3:=keyOf (V:=Ve) (k+1) n2 (zO _ hW2) (by have:=(zq _ hW2).1;unfold lower at this;lia)
 have U3:=U2.trans (Upd.app 0 0 Ve [za.list (((W.map loC).map (digits 4)).map MV.str)])
 generalize Ve ++ [za.list (((W.map loC).map (digits 4)).map MV.str)]=Vf at q3 U3
 have h3:=h.keep U3
 have s1:=h3.zeN hd b (callN prog (k+2)) (upd (upd (upd e0 7 (.ref w)) 2 (.ref (A.t b))) 15 (.str (keyS W))) hW rfl rfl
 have h4:=h3.zeS hd b (l:=del W (L b)) List.filter_sublist
 have eb:updL L b (del W (L b)) b=del W (L b):=by unfold updL;rw[if_pos rfl]
 have d4:=h4.dic b
 have s2:=h4.zeN hd b (callN prog (k+2)) (upd (upd (upd (upd e0 7 (.ref w)) 2 (.ref (A.t b))) 15 (.str (keyS W))) 15 (.str (keyS (lower W)))) hW2 rfl rfl
 have h5:=h4.zeS hd b (l:=del (lower W) (del W (L b))) (by rw[eb];exact List.filter_sublist)
 have e5:updL (updL L b (del W (L b))) b (del (lower W) (del W (L b)))=updL L b (del (lower W) (del W (L b))):=by
  funext b';unfold updL;split <;> rfl
 rw[e5] at h5
 rw[eb] at s2
 have hrng:=h.rng b
 refine zz _ ?_ h5 (by simpa using U3.1) ?_
 ·have ek:keyS (List.map loC W)=keyS (lower W):=rfl
  have lp:forL [] false [15] (execs prog (callN prog (k+2)) [.ifs (.cmp (.v 15) [.isIn] [.a (.v 2) 12]) [.expr (.n (.a (.v 2) 12) .pop [.v 15])] []]) [.str (keyS W),.str (keyS (lower W))] (upd (upd e0 7 (.ref w)) 2 (.ref (A.t b))) Vf=some (.none,upd (upd (upd (upd e0 7 (.ref w)) 2 (.ref (A.t b))) 15 (.str (keyS W))) 15 (.str (keyS (lower W))),(Vf.set (A.d b) (.dict (entD (A.adr b) (del W (L b))))).set (A.d b) (.dict (entD (A.adr b) (del (lower W) (del W (L b)))))):=by
   rw[zbj,zaO]
   simp -implicitDefEqProofs only[if_true,zgO,yp,s1,jB]
   rw[zbj,zaO]
   simp -implicitDefEqProofs only[if_true,zgO,yp,s2,jB,ziH,zaO]
  wp_walk using q1,q2,q3,ek,lp
 ·intro j hj ne
  rw[zb _ (Ne.symm ne),zb _ (Ne.symm ne)]
  exact U3.2 j hj (.inr (Nat.zero_le _))
end zu
noncomputable def addA (A:TA) (b:Bool) (key:List Nat) (a:Nat):TA:={ A with adr:=fun b' k=>if b'=b/\k=key then a else A.adr b' k }
theorem xT (W:List Nat)(L:List Ent):∀ e∈del W L,e.key≠W:=by
 intro e he
 have:=(List.mem_filter.mp he).2
 intro c
 rw[c] at this
 simp at this
theorem zbx {L:List Ent}(h:∀ e∈L,e.key≠W):fnd L W=.none:=by
 unfold fnd
 rw[List.find?_eq_none]
 intro e he
 simpa using h e he
noncomputable def ownK (W:List Nat) (ex:Bool):List Nat:=if ex then W else lower W
noncomputable def newL (L:Bool->List Ent) (b:Bool) (W t:List Nat) (ex:Bool):Bool->List Ent:=updL L b (del (lower W) (del W (L b)) ++ [⟨ownK W ex,t,ex,0⟩])
theorem zcr (W:List Nat)(ex:Bool)(L:List Ent):∀ e∈del (lower W) (del W L),e.key≠ownK W ex:=by
 intro e he
 unfold ownK
 cases ex with
 | true=>exact xT W L e (List.mem_filter.mp he).1
 | false=>exact xT (lower W) _ e he
theorem zep{b:Bool}{K k:List Nat}(h:¬ (b'=b/\k=K)):(addA A b K x).adr b' k=A.adr b' k:=if_neg h
theorem zjD{b:Bool}{K:List Nat}:(addA A b K x).adr b K=x:=if_pos ⟨rfl,rfl⟩
theorem wj {L:Bool->List Ent}{b:Bool}{l:List Ent}:updL L b l b=l:=if_pos rfl
theorem zbM {L:Bool->List Ent}{b:Bool}{l:List Ent}(h:¬ b'=b):updL L b l b'=L b':=if_neg h
theorem w6{L:Bool->List Ent}{b:Bool}{E:Ent}(new:∀ e∈L b,e.key≠E.key)(he:e∈updL L b (L b ++ [E]) b')(k1:e∈L b'->P b' e (A.adr b' e.key))(k2:P b E x):P b' e ((addA A b E.key x).adr b' e.key):=by
 by_cases hb:b'=b
 ·rw[hb,wj] at he
  rcases List.mem_append.mp he with h | h
  ·rw[zep fun z=>new e h z.2];exact k1 (hb ▸ h)
  ·rw[List.mem_singleton.mp h,hb,zjD];exact k2
 ·rw[zbM hb] at he
  rw[zep fun z=>hb z.1];exact k1 he
theorem zu.add{lo hi2:Nat}{L:Bool->List Ent}{E:Ent}(h:zu V lo hi A L)(hd:A.d false≠A.d true)(b:Bool)(new:∀ e∈L b,e.key≠E.key)(hx:hi<=x)(hh:hi<=hi2)(en:ziU V lo hi2 x E)(hk:E.key∈typed/\E.text∈texts)(few:(L b).length<=3):
  zu (V.set (A.d b) (.dict (entD ((addA A b E.key x).adr b) (L b ++ [E])))) lo hi2 (addA A b E.key x) (updL L b (L b ++ [E])):=by
 have dn:∀ {j:Nat} {o o':za},V[j]?=some o->(∀ l,o≠.dict l)->(V.set (A.d b) o')[j]?=some o:=fun hj hn=>(zb _ fun c=>by have:=h.dic b;rw[c,hj] at this;cases this;exact hn _ rfl).trans hj
 have ek:∀ {a hi':Nat} {e:Ent} {o':za},hi'<=hi2->ziU V lo hi' a e->ziU (V.set (A.d b) o') lo hi2 a e:=fun w ⟨⟨wl,cl,e1,e2,e3,e4⟩,e5,e6⟩=>⟨⟨wl,cl,dn e1 nofun,dn e2 nofun,e3,Nat.lt_of_lt_of_le e4 w⟩,e5,Nat.lt_of_lt_of_le e6 w⟩
 refine⟨fun b'=>dn (h.obj b') nofun,fun b'=>dn (h.par b') nofun,fun b'=>?_,fun b' e he=>w6 (P:=fun _ e a=>ziU _ lo hi2 a e) new he (fun m=>ek hh (h.ent b' e m)) (ek (Nat.le_refl _) en),fun ba bb eg eh hO hS=>?_,
  fun b' e he=>w6 (A:=A) (x:=0) (P:=fun _ e _=>e.key∈typed/\e.text∈texts) new he (h.keys b' e) hk,fun b'=>?_,fun b'=>?_,fun b'=>?_⟩
 ·by_cases cb:b'=b
  ·rw[cb,wj];exact get_set _ (h.dic b)
  ·rw[zbM cb,show entD ((addA A b E.key x).adr b') (L b')=entD (A.adr b') (L b') from List.map_congr_left fun e _=>by rw[zep fun z=>cb z.1]]
   exact (zb _ (by cases b <;> cases b' <;> first | exact absurd rfl cb | exact hd | exact hd.symm)).trans (h.dic b')
 ·have no:∀ {b e},e∈L b->¬ A.adr b e.key=x:=fun m c=>Nat.not_lt_of_le hx (c ▸ (h.ent _ _ m).hi)
  exact w6 (P:=fun ba eg aa=>aa=_->ba=bb/\eg.key=eh.key) new hO
   (fun ma=>w6 (P:=fun bb eh ae=>A.adr ba eg.key=ae->ba=bb/\eg.key=eh.key) new hS (fun mc ha=>h.inj _ _ _ _ ma mc ha) fun ha=>absurd ha (no ma))
   (w6 (P:=fun bb eh ae=>x=ae->b=bb/\E.key=eh.key) new hS (fun mc ha=>absurd ha.symm (no mc)) fun _=>⟨rfl,rfl⟩)
 ·by_cases cb:b'=b
  ·rw[cb,wj];exact List.pairwise_append.mpr ⟨h.nod b,List.pairwise_singleton _ _,fun e he e' he'=>by rw[List.mem_singleton.mp he'];exact new e he⟩
  ·rw[zbM cb];exact h.nod b'
 ·by_cases cb:b'=b
  ·rw[cb,wj,List.length_append];exact Nat.succ_le_succ few
  ·rw[zbM cb];exact h.few b'
 ·have w:=h.rng b'
  exact⟨w.1,Nat.lt_of_lt_of_le w.2.1 hh,w.2.2.1,Nat.lt_of_lt_of_le w.2.2.2.1 hh,w.2.2.2.2.1,Nat.lt_of_lt_of_le w.2.2.2.2.2 hh⟩
theorem zeo {L:Bool->List Ent}{b:Bool}{l l':List Ent}:updL (updL L b l) b l'=updL L b l':=funext fun b'=>by
 unfold updL;split <;> rfl
namespace zu
variable {V:Hp}{lo:Nat}{A:TA}{L:Bool->List Ent}
theorem define (h:zu V lo V.length A L)(hd:A.d false≠A.d true)(k:Nat)(b:Bool){w:Nat}{t:List Nat}(hW:W∈typed)(ht:t∈texts)(hw:V[w]?=some (.list (iz W)))(hc:V[c]?=some (.list (iz t)))(hcl:lo<=c)(few:(L b).length<=3)(ex:Bool)(zz:∀ V' a,(callN prog (k+4) 10 [.ref (A.t b),.ref w,.ref c,.bool ex] V=some (.none,V'))->(zu V' lo V'.length (addA A b (ownK W ex) a) (newL L b W t ex))->(V.length<=V'.length)->(∀ j,j < V.length->j≠A.d b->V'[j]?=V[j]?)->GG):GG:=by
 have hl:=zO W hW
 have hn:=(zq W hW).1
 have hW2:=yJ W hW
 have hK:ownK W ex∈typed:=by unfold ownK;cases ex <;> assumption
 have hobj:=h.obj b
 unfold tabO at hobj
 obtain⟨Vd,ow,q1,ho,U1⟩:∃ Vd ow,evalE prog (callN prog (k+3)) (.ite (.v 8) (.v 7) (.f 5 [.v 7])) (upd (upd (upd (upd e0 8 (.bool ex)) 1 (.ref c)) 7 (.ref w)) 2 (.ref (A.t b))) V=some (.ref ow,Vd)/\Vd[ow]?=some (.list (iz (ownK W ex)))/\Upd 0 0 V Vd:=by
  cases ex with
  | true=>
   refine⟨V,w,?_,hw,Upd.refl 0 0 V⟩
   wp_walk using fst_mk
  | false=>
   have q2:=qR (V:=V) (k+1) hw hl (by lia)
   refine⟨_,V.length,?_,zm V (.list (iz (W.map loC))),Upd.app 0 0 _ _⟩
   wp_walk using q2,Bool.false_eq_true
 have h1:=h.keep U1
 refine h1.forget hd k b hW (U1.keep hw) fun Ve q2 h2 l2 f2=>?_
 have hdr:=h.rng b
 have ho1:=zg ho
 have ho2:Ve[ow]?=some (.list (iz (ownK W ex))):=by
  rw[f2 ow ho1 fun z=>by have:=h1.dic b;rw[<- z,ho] at this;cases this];exact ho
 have hc1:=U1.keep hc
 have hc2:Ve[c]?=some (.list (iz t)):=by
  rw[f2 c (zg hc1) fun z=>by have:=h1.dic b;rw[<- z,hc1] at this;cases this];exact hc1
 have l1:=U1.1
 have hobj2:=h2.obj b
 unfold tabO at hobj2
 have lo2:=zg hobj2
 have q3:callN prog (k+3) 7 [.ref Ve.length,.ref ow,.ref c,.bool ex] (Ve ++ [za.inst 0 []])=some (.none,Ve ++ [za.inst 0 [(7,.ref ow),(1,.ref c),(8,.bool ex),(9,.int 0)]]):=by
  wp_walk using xM
 have U3:Upd 0 0 Ve (Ve ++ [za.inst 0 [(7,.ref ow),(1,.ref c),(8,.bool ex),(9,.int 0)]]):=Upd.app 0 0 _ _
 have n3:=zm Ve (za.inst 0 [(7,.ref ow),(1,.ref c),(8,.bool ex),(9,.int 0)])
 have l3:(Ve ++ [za.inst 0 [(7,.ref ow),(1,.ref c),(8,.bool ex),(9,.int 0)]]).length=Ve.length+1:=by simp
 generalize Ve ++ [za.inst 0 [(7,.ref ow),(1,.ref c),(8,.bool ex),(9,.int 0)]]=Vf at q3 U3 n3 l3
 have q4:=keyOf (V:=Vf) (k+2) (U3.keep ho2) (zO _ hK) (by have:=(zq _ hK).1;lia)
 have U4:=U3.trans (Upd.app 0 0 Vf [za.list (((ownK W ex).map (digits 4)).map MV.str)])
 have l4:(Vf ++ [za.list (((ownK W ex).map (digits 4)).map MV.str)]).length=Ve.length+2:=by simp[l3]
 have n4:=zf [za.list (((ownK W ex).map (digits 4)).map MV.str)] n3
 generalize Vf ++ [za.list (((ownK W ex).map (digits 4)).map MV.str)]=ν4 at q4 U4 l4 n4
 have h4:=h2.keep U4
 have d4:=h4.dic b
 have hobj3:=U3.keep hobj2
 have eb:updL L b (del (lower W) (del W (L b))) b=del (lower W) (del W (L b)):=by unfold updL;rw[if_pos rfl]
 rw[eb] at d4
 have sub:del (lower W) (del W (L b)) ⊆ L b:=fun e he=>(List.mem_filter.mp (List.mem_filter.mp he).1).1
 have fn:=zbx (zcr W ex (L b))
 have dk:=za5 (A.adr b) hK (del (lower W) (del W (L b))) fun e he=>(h.keys b e (sub he)).1
 rw[fn,Option.map_none] at dk
 have ed:dst (.str (keyS (ownK W ex))) (.ref Ve.length) (entD (A.adr b) (del (lower W) (del W (L b))))=entD ((addA A b (ownK W ex) Ve.length).adr b) (del (lower W) (del W (L b)) ++ [⟨ownK W ex,t,ex,0⟩]):=by
  unfold dst
  rw[dk]
  simp only[Option.isSome_none,Bool.false_eq_true,if_false]
  unfold entD
  rw[List.map_append]
  congr 1
  ·apply List.map_congr_left
   intro e he
   have:=zcr W ex (L b) e he
   simp only[addA,this,and_false,if_false]
  ·simp[addA]
 have kf:=zcn (A.adr b) (del (lower W) (del W (L b))) (keyS (ownK W ex))
 have len:(entD (A.adr b) (del (lower W) (del W (L b)))).length<=1000000:=by
  unfold entD
  rw[List.length_map]
  have a1:(del (lower W) (del W (L b))).length<=(del W (L b)).length:=List.length_filter_le _ _
  have a2:(del W (L b)).length<=(L b).length:=List.length_filter_le _ _
  lia
 have dn:=zeO len
 refine zz (ν4.set (A.d b) (.dict (entD ((addA A b (ownK W ex) Ve.length).adr b) (del (lower W) (del W (L b)) ++ [⟨ownK W ex,t,ex,0⟩])))) Ve.length ?_ ?_ (by simp;lia) ?_
 ·wp_walk using q1,q2,q3,hobj3,q4,d4,kf,dn,ed
 ·have T:=h4.add (hi2:=ν4.length) (x:=Ve.length) (E:=⟨ownK W ex,t,ex,0⟩) hd b (by rw[wj];exact zcr W ex (L b)) (by lia) (by lia) ⟨⟨ow,c,n4,U4.keep hc2,hcl,zg (U4.keep hc2)⟩,by lia,by lia⟩ ⟨hK,ht⟩ (by rw[wj];exact Nat.le_trans (Nat.le_trans (List.length_filter_le _ _) (List.length_filter_le _ _)) few)
  rw[wj,zeo] at T
  rw[List.length_set]
  exact T
 ·intro j hj ne
  rw[zb _ (Ne.symm ne),U4.2 j (by lia) (.inr (Nat.zero_le _)),f2 j (by lia) ne,U1.2 j hj (.inr (Nat.zero_le _))]
end zu
structure Row where
 b:Bool
 w:List Nat
 t:List Nat
 ex:Bool
variable{rows:List Row}
noncomputable def rowV (r:Row):MV:=.tup [.int (if r.b then 1 else 0),.str r.w,.str r.t,.bool r.ex]
noncomputable def rowOK (r:Row):Prop:=r.w∈typed/\r.t∈texts
noncomputable def tabL (L:Bool->List Ent):List Row->Bool->List Ent
 | []=>L
 | r :: q=>tabL (newL L r.b r.w r.t r.ex) q
noncomputable def knD (L:List Ent):List (MV×MV):=L.map fun e=>(.str e.key,.tup [.str e.text,.bool e.ex])
structure yW (V:Hp)(kl:Nat)(K:Bool->Nat)(L:Bool->List Ent):Prop where
 l:V[kl]?=some (.list [.ref (K false),.ref (K true)])
 d:∀ b,V[K b]?=some (.dict (knD (L b)))
theorem zhK (L:List Ent)(s:List Nat):keyFits (.str s) (knD L)=true:=by
 show ((L.map fun e=>_).all fun p:MV×MV=>isS p.1)=true
 rw[List.all_map]
 exact List.all_eq_true.mpr fun _ _=>rfl
theorem zaS (W:List Nat):∀ L:List Ent,dlk (.str W) (knD L)=(fnd L W).map fun e=>.tup [.str e.text,.bool e.ex]
 | []=>rfl
 | e :: r=>by
  have ih:=zaS W r
  unfold knD fnd at *
  simp only[List.map_cons,dlk,qN,List.find?_cons]
  by_cases c:(e.key == W)=true
  ·simp only[c,if_true,Option.map_some]
  ·have c':(e.key == W)=false:=by simpa using c
   simp only[c',Bool.false_eq_true,if_false]
   exact ih
theorem zhe (W:List Nat):∀ L:List Ent,ddel (.str W) (knD L)=knD (del W L)
 | []=>rfl
 | e :: r=>by
  have ih:=zhe W r
  unfold ddel knD del at *
  simp only[List.map_cons,List.filter_cons,qN]
  by_cases c:(e.key == W)=true
  ·simp only[c,Bool.not_true,Bool.false_eq_true,if_false]
   exact ih
  ·have c':(e.key == W)=false:=by simpa using c
   simp only[c',Bool.not_false,if_true,List.map_cons]
   rw[ih]
theorem zgv (L:List Ent):(knD L).length=L.length:=by simp[knD]
theorem zdn{i:Nat}{L:List Ent}(h:V[i]?=some (.dict (knD L)))(hl:L.length<=100)(W:List Nat):∃ v,popD (some (.dict (knD L))) i (.str W) V=some (v,V.set i (.dict (knD (del W L)))):=by
 have kf:=zhK L W
 have dk:=zaS W L
 have len:(knD L).length<=1000000:=by rw[zgv];lia
 cases e:fnd L W with
 | none=>
  rw[e,Option.map_none] at dk
  refine⟨.none,?_⟩
  rw[zbV e,zbH h]
  rw[zg9 kf len,dk];rfl
 | some x=>
  rw[e,Option.map_some] at dk
  refine⟨.tup [.str x.text,.bool x.ex],?_⟩
  rw[<- zhe]
  rw[zg9 kf len,dk];rfl
theorem wD(hl:low W)(hn:W.length<=1000000)(J:Hp):Mine.methB .lower (.str W) [] J=some (.str (lower W),J):=by
 have a:ascii W=true:=by
  unfold ascii
  rw[List.all_eq_true]
  intro c hc
  have:=hl c hc
  simpa[Nat.blt_eq] using this
 exact if_pos ⟨a,hn⟩
theorem zgG (a b:MV)(J:Hp):subGet (.tup [a,b]) (.int 1) J=some b:=rfl
theorem zd9 (a:MV)(r:List MV):subO (some (.list (a :: r))) (.int 0)=some a:=rfl
theorem zu.zfO{lo:Nat}{L:Bool->List Ent}(h:zu V lo hi A L){i:Nat}{D:List (MV×MV)}(hi':V[i]?=some (.dict D))(hn:∀ b,i≠A.d b)(o:za):zu (V.set i o) lo hi A L:=by
 have ne:∀ {j:Nat} {q:za},V[j]?=some q->(∀ l,q≠.dict l)->i≠j:=fun hj hq c=>by rw[<- c,hi'] at hj;exact hq _ (by injection hj with e;exact e.symm)
 refine⟨fun b=>(zb _ (ne (h.obj b) (by intro l z;cases z))).trans (h.obj b),fun b=>(zb _ (ne (h.par b) (by intro l z;cases z))).trans (h.par b),fun b=>(zb _ (hn b)).trans (h.dic b),fun b e he=>?_,h.inj,h.keys,h.nod,h.few,h.rng⟩
 obtain⟨⟨wl,cl,e1,e2,e3,e4⟩,e5,e6⟩:=h.ent b e he
 exact⟨⟨wl,cl,(zb _ (ne e1 (by intro l z;cases z))).trans e1,(zb _ (ne e2 (by intro l z;cases z))).trans e2,e3,e4⟩,e5,e6⟩
noncomputable def rowB:List MS:=[.expr (.f 10 [.sub (.tup [.v 2,.v 69]) (.v 22),.f 90 [.v 7],.f 90 [.v 43],.v 8]),
   .expr (.n (.sub (.v 117) (.v 22)) .pop [.v 7,.l (.none)]),
   .expr (.n (.sub (.v 117) (.v 22)) .pop [.n (.v 7) .lower [],.l (.none)]),
   .assign (.sub (.sub (.v 117) (.v 22)) (.ite (.v 8) (.v 7) (.n (.v 7) .lower []))) (.tup [.v 43,.v 8])]
theorem rowWalk {Ve Vf:Hp}{kl w:Nat}{b ex:Bool}{t:List Nat}{T K:Bool->Nat}{X0 X1 X2 X3:List (MV×MV)}{v1 v2:MV}(m2:m 2=some (.ref (T false)))(m69:m 69=some (.ref (T true)))(m117:m 117=some (.ref kl))(m22:m 22=some (.int (if b then 1 else 0)))(m7:m 7=some (.str W))(m43:m 43=some (.str t))(m8:m 8=some (.bool ex))(lw:∀ V,Mine.methB .lower (.str W) [] V=some (.str (lower W),V))
  (q1:callN prog (k+4) 90 [.str W] V=some (.ref w,Vd)) (q2:callN prog (k+4) 90 [.str t] Vd=some (.ref c,Ve)) (q3:callN prog (k+4) 10 [.ref (T b),.ref w,.ref c,.bool ex] Ve=some (.none,Vf)) (kl3:Vf[kl]?=some (.list [.ref (K false),.ref (K true)])) (nk:kl≠K b) (kd:Vf[K b]?=some (.dict X0))
  (p1:popD (some (.dict X0)) (K b) (.str W) Vf=some (v1,Vf.set (K b) (.dict X1))) (p2:popD (some (.dict X1)) (K b) (.str (lower W)) (Vf.set (K b) (.dict X1))=some (v2,(Vf.set (K b) (.dict X1)).set (K b) (.dict X2))) (kf:keyFits (.str (ownK W ex)) X2=true) (dn:X2.length<=1000000) (ed:dst (.str (ownK W ex)) (.tup [.str t,.bool ex]) X2=X3):
  execs prog (callN prog (k+4)) rowB m V=some (.none,m,Vf.set (K b) (.dict X3)):=by
 rw[set_set] at p2
 have k4:(Vf.set (K b) (.dict X1))[K b]?=some (.dict X1):=get_set _ kd
 have kl4:(Vf.set (K b) (.dict X1))[kl]?=_:=(zb _ (Ne.symm nk)).trans kl3
 have k5:(Vf.set (K b) (.dict X2))[K b]?=some (.dict X2):=get_set _ kd
 have kl5:(Vf.set (K b) (.dict X2))[kl]?=_:=(zb _ (Ne.symm nk)).trans kl3
 have dn:=zeO dn
 have ek1:evalE prog (callN prog (k+4)) (.ite (.v 8) (.v 7) (.n (.v 7) .lower [])) m (Vf.set (K b) (.dict X2))=some (.str (ownK W ex),Vf.set (K b) (.dict X2)):=by
  have lw:=lw (Vf.set (K b) (.dict X2))
  unfold ownK
  cases ex with
  | true=>wp_walk using m8,m7
  | false=>wp_walk using m8,m7,lw,Bool.false_eq_true
 have lw:=lw (Vf.set (K b) (.dict X1))
 have lk3:=zg kd
 unfold rowB
 cases b with
 | false=>
  have m22:m 22=some (.int 0):=m22
  wp_walk using m2,m69,m22,m7,m43,m8,m117,q1,q2,q3,kl3,kd,zcc,p1,k4,kl4,lw,p2,k5,kl5,kf,dn,ed
 | true=>
  have m22:m 22=some (.int 1):=m22
  wp_walk using m2,m69,m22,m7,m43,m8,m117,q1,q2,q3,kl3,kd,zcc,p1,k4,kl4,lw,p2,k5,kl5,kf,dn,ed
theorem zjI (L:Bool->List Ent)(b:Bool)(W t:List Nat)(ex:Bool):dst (.str (ownK W ex)) (.tup [.str t,.bool ex]) (knD (del (lower W) (del W (L b))))=knD (newL L b W t ex b):=by
 have dk:=zaS (ownK W ex) (del (lower W) (del W (L b)))
 rw[zbx (zcr W ex (L b)),Option.map_none] at dk
 rw[show newL L b W t ex b=del (lower W) (del W (L b)) ++ [⟨ownK W ex,t,ex,0⟩] from if_pos rfl]
 unfold dst
 rw[dk]
 rw[show ∀ A e,knD (A ++ [e])=knD A ++ [(.str e.key,.tup [.str e.text,.bool e.ex])] from fun A e=>List.map_append]
 exact if_neg Bool.false_ne_true
theorem zhl{i:Nat}{a:List MV}{b:List (MV×MV)}{P:Prop}(h:V[i]?=some (.list a))(h':V[i]?=some (.dict b)):P:=by cases h.symm.trans h'
theorem yW.put{kl:Nat}{K:Bool->Nat}{L:Bool->List Ent}(hl:V[kl]?=some (.list [.ref (K false),.ref (K true)]))(hd:∀ b,V[K b]?=some (.dict (knD (L b))))(hkk:K false≠K true)(b:Bool)(W t:List Nat)(ex:Bool)(nk:kl≠K b):yW (V.set (K b) (.dict (knD (newL L b W t ex b)))) kl K (newL L b W t ex):=by
 refine⟨(zb _ (Ne.symm nk)).trans hl,fun b'=>?_⟩
 by_cases cb:b'=b
 ·rw[cb];exact get_set _ (hd b)
 ·rw[show newL L b W t ex b'=L b' from if_neg cb]
  refine (zb _ ?_).trans (hd b')
  cases b <;> cases b' <;> first | exact absurd rfl cb | exact hkk | exact hkk.symm
theorem zkw{lo kl:Nat}{K:Bool->Nat}{L:Bool->List Ent}(h:zu V lo V.length A L)(hK:yW V kl K L)(hd:A.d false≠A.d true)(hkk:K false≠K true)(hkd:∀ b b',K b≠A.d b')(hkl:lo<=kl)(hkb:∀ b,lo<=K b)
  (k:Nat) (r:Row) (hr:rowOK r) (few:(L r.b).length<=3) (m:Loc) (m2:m 2=some (.ref (A.t false))) (m69:m 69=some (.ref (A.t true))) (m117:m 117=some (.ref kl)) (m22:m 22=some (.int (if r.b then 1 else 0))) (m7:m 7=some (.str r.w)) (m43:m 43=some (.str r.t)) (m8:m 8=some (.bool r.ex)) {GG:Prop} (zz:∀ V' a,(execs prog (callN prog (k+4)) rowB m V=some (.none,m,V'))->(zu V' lo V'.length (addA A r.b (ownK r.w r.ex) a) (newL L r.b r.w r.t r.ex))->(yW V' kl K (newL L r.b r.w r.t r.ex))->(UpL lo V V')->GG):GG:=by
 have hn:=(zq r.w hr.1).1
 have tl:=zX r.t hr.2
 have lok:lo<=V.length:=Nat.le_trans (h.rng true).1 (Nat.le_of_lt (h.rng true).2.1)
 have q1:=qw (V:=V) (k+3) r.w (by lia)
 have q2:=qw (V:=V ++ [za.list (iz r.w)]) (k+3) r.t (by lia)
 have U1:=Upd.app 0 0 V [za.list (iz r.w)]
 have U2:=Upd.app 0 0 (V ++ [za.list (iz r.w)]) [za.list (iz r.t)]
 have U:=U1.trans U2
 refine ((h.keep U).mono (hi':=_) U.1).define hd k r.b hr.1 hr.2 (U2.keep (zm V _)) (zm _ _) (Nat.le_trans lok U1.1) few r.ex fun Vf a q3 h3 l3 f3=>?_
 have kd:∀ b',Vf[K b']?=some (.dict (knD (L b'))):=fun b'=>(f3 (K b') (zg (U.keep (hK.d b'))) (hkd b' r.b)).trans (U.keep (hK.d b'))
 have kl3:Vf[kl]?=some (.list [.ref (K false),.ref (K true)]):=(f3 kl (zg (U.keep hK.l)) fun z=>zhl (U.keep hK.l) (z.symm ▸ (h.keep U).dic r.b)).trans (U.keep hK.l)
 have nk:∀ b',kl≠K b':=fun b' z=>zhl kl3 (z.symm ▸ kd b')
 have a2:(del r.w (L r.b)).length<=3:=Nat.le_trans (List.length_filter_le _ _) few
 have a3:(del (lower r.w) (del r.w (L r.b))).length<=3:=Nat.le_trans (List.length_filter_le _ _) a2
 obtain⟨v1,p1⟩:=zdn (kd r.b) (Nat.le_trans few (by decide)) r.w
 obtain⟨v2,p2⟩:=zdn (get_set _ (kd r.b)) (Nat.le_trans a2 (by decide)) (lower r.w)
 refine zz (Vf.set (K r.b) (.dict (knD (newL L r.b r.w r.t r.ex r.b)))) a (rowWalk m2 m69 m117 m22 m7 m43 m8 (wD (zO r.w hr.1) (Nat.le_trans hn (by decide))) q1 q2 q3 kl3 (nk r.b) (kd r.b) p1 p2 (zhK _ _) (by rw[zgv];exact Nat.le_trans a3 (by decide)) (zjI L r.b r.w r.t r.ex)) ?_ (yW.put kl3 kd hkk r.b r.w r.t r.ex (nk r.b)) ⟨?_,fun j hj=>?_⟩
 ·rw[List.length_set]
  exact h3.zfO (kd r.b) (fun b'=>hkd r.b b') _
 ·rw[List.length_set];exact Nat.le_trans U.1 l3
 ·have jl:=Nat.lt_of_lt_of_le hj lok
  rw[zb _ (Nat.ne_of_gt (Nat.lt_of_lt_of_le hj (hkb r.b))),f3 j (Nat.lt_of_lt_of_le jl U.1) (Nat.ne_of_lt (Nat.lt_of_lt_of_le hj (h.rng r.b).2.2.2.2.1)),U.2 j jl (.inr (Nat.zero_le _))]
theorem zfY (L:Bool->List Ent)(b:Bool)(W t:List Nat)(ex:Bool)(b':Bool):(newL L b W t ex b').length<=(L b').length+1:=by
 unfold newL updL
 split
 ·rename_i h
  subst h
  have a1:(del (lower W) (del W (L b'))).length<=(del W (L b')).length:=List.length_filter_le _ _
  have a2:(del W (L b')).length<=(L b').length:=List.length_filter_le _ _
  simp;lia
 ·lia
theorem zbO {rw0 kl lo:Nat}{K:Bool->Nat}(k:Nat)(hkk:K false≠K true)(hkl:lo<=kl)(hkb:∀ b,lo<=K b)(hrl:rw0 < lo)(t0 t1:Nat)(d0:Bool->Nat)(hd:d0 false≠d0 true)(hkd:∀ b b',K b≠d0 b'):
  ∀ (rows:List Row) (V:Hp) (A:TA) (L:Bool->List Ent) (m:Loc),A.t false=t0->A.t true=t1->A.d=d0->zu V lo V.length A L->yW V kl K L->V[rw0]?=some (.list all)->(∀ r∈rows,rowOK r)->(∀ b,(L b).length+rows.length<=4)->
  m 2=some (.ref t0)->m 69=some (.ref t1)->m 117=some (.ref kl) ->∀ GG:Prop,(∀ V' A' m',(forL [(rw0,some all)] true [22,7,43,8] (execs prog (callN prog (k+4)) rowB) (rows.map rowV) m V=some (.none,m',V'))->(A'.t=A.t)->(zu V' lo V'.length A' (tabL L rows))->(yW V' kl K (tabL L rows))->(UpL lo V V')->(m' 2=some (.ref t0))->(m' 69=some (.ref t1))->(m' 117=some (.ref kl))->GG)->GG 
 | []=>fun V A L m ht0 ht1 hdd h hK hr hok few m2 m69 m117 GG zz=>by
  refine zz V A m ?_ rfl h hK (UpL.refl lo V) m2 m69 m117
  exact wF0 (zG hr)
 | r :: q=>fun V A L m ht0 ht1 hdd h hK hr hok few m2 m69 m117 GG zz=>by
  have f1:=few r.b
  rw[List.length_cons] at f1
  refine zkw h hK (by rw[hdd];exact hd) hkk (by rw[hdd];exact hkd) hkl hkb k r (hok r (by simp)) (by lia) (upd (upd (upd (upd m 22 (.int (if r.b then 1 else 0))) 7 (.str r.w)) 43 (.str r.t)) 8 (.bool r.ex))
   (by simp[zA,m2,ht0]) (by simp[zA,m69,ht1]) m117 rfl rfl rfl rfl fun Vd a q1 h1 hK1 U1=>?_
  refine zbO k hkk hkl hkb hrl t0 t1 d0 hd hkd q Vd (addA A r.b (ownK r.w r.ex) a) (newL L r.b r.w r.t r.ex) (upd (upd (upd (upd m 22 (.int (if r.b then 1 else 0))) 7 (.str r.w)) 43 (.str r.t)) 8 (.bool r.ex)) ht0 ht1 hdd h1 hK1 ((U1.2 rw0 hrl).trans hr) (fun x hx=>hok x (List.mem_cons_of_mem _ hx))
   (fun b=>by have:=zfY L r.b r.w r.t r.ex b;have:=few b;rw[List.length_cons] at this;lia) m2 m69 m117 _ fun V' A' m' q2 e2 h2 hK2 U2 g2 g69 g117=>?_
  refine zz V' A' m' ?_ e2 h2 hK2 (U1.trans U2) g2 g69 g117
  have er:rowV r=.tup [.int (if r.b then 1 else 0),.str r.w,.str r.t,.bool r.ex]:=rfl
  rw[List.map_cons,er]
  exact wFc (zG hr) rfl q1 (wFn q2)
theorem zat(k:Nat){rw0:Nat}(hr:V[rw0]?=some (.list (rows.map rowV)))(hok:∀ r∈rows,rowOK r)(hn:rows.length<=4)(zz:∀ V' x A K kl,(callN prog (k+5) 92 [.ref rw0] V=some (.ref x,V'))->(V'[x]?=some (.list [.ref (A.t false),.ref (A.t true),.ref (K false),.ref (K true)]))->(zu V' V.length V'.length A (tabL (fun _=>[]) rows))->(yW V' kl K (tabL (fun _=>[]) rows))->(Upd 0 0 V V')->(V.length<=x)->GG):GG:=by
 have rl:=zg hr
 let A0:TA:=⟨fun b=>if b then V.length+1 else V.length+4,fun b=>if b then V.length else V.length+3,fun b=>if b then V.length+2 else V.length+5,fun _ _=>0⟩
 let K0:Bool->Nat:=fun b=>if b then V.length+7 else V.length+6
 let H:Hp:=[.list [],.inst 1 [(10,.str (nmT true)),(11,.ref V.length),(12,.ref (V.length+2)),(13,.bool false)],.dict [],.list [.ref (V.length+1)],.inst 1 [(10,.str (nmT false)),(11,.ref (V.length+3)),(12,.ref (V.length+5)),(13,.bool false)],.dict [],.dict [],.dict [],.list [.ref (V.length+6),.ref (V.length+7)]]
 have hH:∀ i o,H[i]?=some o->(V ++ H)[V.length+i]?=some o:=by
  intro i o h
  rw[List.getElem?_append_right (by lia),Nat.add_sub_cancel_left];exact h
 have lH:(V ++ H).length=V.length+9:=by simp[H]
 have T0:zu (V ++ H) V.length (V ++ H).length A0 (fun _=>[]):=by
  refine⟨fun b=>?_,fun b=>?_,fun b=>?_,fun b e he=>(nomatch he),fun _ _ _ _ h=>(nomatch h),fun b e he=>(nomatch he),fun b=>List.Pairwise.nil,fun b=>by simp,fun b=>?_⟩
  ·cases b
   ·exact hH 4 _ rfl
   ·exact hH 1 _ rfl
  ·cases b
   ·exact hH 3 _ rfl
   ·exact hH 0 _ rfl
  ·cases b
   ·exact hH 5 _ rfl
   ·exact hH 2 _ rfl
  ·rw[lH];cases b <;> simp[A0]
 have K0R:yW (V ++ H) (V.length+8) K0 (fun _=>[]):=by
  refine⟨hH 8 _ rfl,fun b=>?_⟩
  cases b
  ·exact hH 6 _ rfl
  ·exact hH 7 _ rfl
 refine zbO (rw0:=rw0) (kl:=V.length+8) (lo:=V.length) (K:=K0) (all:=rows.map rowV) k (by simp[K0]) (by lia) (by intro b;cases b <;> simp[K0]) rl (V.length+4) (V.length+1) A0.d (by simp[A0]) (by intro b b';cases b <;> cases b' <;> simp[K0,A0])
  rows (V ++ H) A0 (fun _=>[]) (upd (upd (upd (upd e0 57 (.ref rw0)) 69 (.ref (V.length+1))) 2 (.ref (V.length+4))) 117 (.ref (V.length+8))) rfl rfl rfl T0 K0R (zf H hr) hok (by simpa using hn) rfl rfl rfl _ fun Vd A1 ma q1 e1 h1 hK1 U1 g2 g69 g117=>?_
 have l1:=U1.1
 have tt0:A1.t false=V.length+4:=by rw[e1];rfl
 have tt1:A1.t true=V.length+1:=by rw[e1];rfl
 have Uv:Upd 0 0 V Vd:=⟨by lia,fun j hj _=>by rw[U1.2 j hj,List.getElem?_append_left hj]⟩
 refine zz (Vd ++ [za.list [.ref (A1.t false),.ref (A1.t true)]] ++ [za.list [.ref (A1.t false),.ref (A1.t true),.ref (K0 false),.ref (K0 true)]]) (Vd.length+1) A1 K0 (V.length+8) ?_ (yd (by simp)) ?_ ?_ ((Uv.trans (Upd.app 0 0 _ _)).trans (Upd.app 0 0 _ _)) (by lia)
 ·have i1:callN prog (k+4) 8 [.ref (V.length+1),.str [112,97,114,101,110,116],.ref V.length] (V ++ [za.list []] ++ [za.inst 1 []])=some (.none,V ++ [za.list []] ++ [za.inst 1 [(10,.str (nmT true)),(11,.ref V.length),(12,.ref (V.length+2)),(13,.bool false)]] ++ [za.dict []]):=by
   wp_walk using xM,yq,nmT
  have i2:∀ Ve:Hp,Ve.length=V.length+3->callN prog (k+4) 8 [.ref (V.length+4),.str [111,119,110],.ref (V.length+3)] (Ve ++ [za.list [.ref (V.length+1)]] ++ [za.inst 1 []])=some (.none,Ve ++ [za.list [.ref (V.length+1)]] ++ [za.inst 1 [(10,.str (nmT false)),(11,.ref (V.length+3)),(12,.ref (V.length+5)),(13,.bool false)]] ++ [za.dict []]):=by
   intro Ve l
   wp_walk using xM,yq,nmT,l,Bool.false_eq_true
  have l2:(V ++ [za.list []] ++ [za.inst 1 [(10,.str (nmT true)),(11,.ref V.length),(12,.ref (V.length+2)),(13,.bool false)]] ++ [za.dict []]).length=V.length+3:=by simp
  have i2':=i2 _ l2
  have eH:V ++ H=V ++ [za.list []] ++ [za.inst 1 [(10,.str (nmT true)),(11,.ref V.length),(12,.ref (V.length+2)),(13,.bool false)]] ++ [za.dict []] ++ [za.list [.ref (V.length+1)]] ++ [za.inst 1 [(10,.str (nmT false)),(11,.ref (V.length+3)),(12,.ref (V.length+5)),(13,.bool false)]] ++ [za.dict []] ++ [za.dict []] ++ [za.dict []] ++ [za.list [.ref (V.length+6),.ref (V.length+7)]]:=by simp[H]
  rw[eH] at q1
  have hr9:(V ++ [za.list []] ++ [za.inst 1 [(10,.str (nmT true)),(11,.ref V.length),(12,.ref (V.length+2)),(13,.bool false)]] ++ [za.dict []] ++ [za.list [.ref (V.length+1)]] ++ [za.inst 1 [(10,.str (nmT false)),(11,.ref (V.length+3)),(12,.ref (V.length+5)),(13,.bool false)]] ++ [za.dict []] ++ [za.dict []] ++ [za.dict []] ++ [za.list [.ref (V.length+6),.ref (V.length+7)]])[rw0]?=some (.list (rows.map rowV)):=by rw[<- eH];exact zf H hr
  have kk:Vd[V.length+8]?=some (.list [.ref (K0 false),.ref (K0 true)]):=hK1.l
  unfold rowB at q1
  rw[tt0,tt1]
  wp_walk using i1,i2',hr9,q1,g2,g69,g117,kk,List.cons_append,List.nil_append
 ·exact (((h1.keep (Upd.app 0 0 _ _)).keep (Upd.app 0 0 _ _)).mono (by simp))
 ·exact⟨zf _ (zf _ hK1.l),fun b=>zf _ (zf _ (hK1.d b))⟩
noncomputable def entV (o:Option Ent):Option MV:=o.map fun e=>.tup [.str e.text,.bool e.ex]
noncomputable def leB:List MS:=[.ifs (.cmp (.v 7) [.isIn] [.v 14]) [.ret (.sub (.v 14) (.v 7))] [],
   .ifs (.and [.cmp (.n (.v 7) .lower []) [.isIn] [.v 14],.not (.sub (.sub (.v 14) (.n (.v 7) .lower [])) (.l (.int 1)))]) [.ret (.sub (.v 14) (.n (.v 7) .lower []))] []]
theorem zkP{i:Nat}{L:List Ent}(h:V[i]?=some (.dict (knD L)))(call:CallT)(hW:W∈typed)(m:Loc)(m7:m 7=some (.str W))(m14:m 14=some (.ref i)):
  execs prog call leB m V=some (entV (ownE L W),m,V):=by
 have hl:=zO W hW
 have hn:=(zq W hW).1
 have lw:=wD hl (by lia)
 have kf:=zhK L
 have d1:=zaS W L
 have d2:=zaS (lower W) L
 unfold leB
 cases e1:fnd L W with
 | some e=>
  have e3:ownE L W=some e:=by unfold ownE;rw[e1]
  rw[e1,Option.map_some] at d1
  rw[e3]
  wp_walk using m7,m14,qK,Option.bind_some,h,ji,kf,d1,Option.isSome_some,entV,Option.map_some
 | none=>
  rw[e1,Option.map_none] at d1
  cases e2:fnd L (lower W) with
  | none=>
   have e3:ownE L W=.none:=by unfold ownE;rw[e1,e2]
   rw[e2,Option.map_none] at d2
   rw[e3]
   wp_walk using m7,m14,qK,Option.bind_some,h,ji,kf,d1,Option.isSome_none,lw,d2,entV,Option.map_none,Bool.false_eq_true
  | some e=>
   have e3:ownE L W=if e.ex then .none else some e:=by unfold ownE;rw[e1,e2]
   rw[e2,Option.map_some] at d2
   rw[e3]
   cases ex:e.ex with
   | true=>
    rw[ex] at d2
    wp_walk using m7,m14,qK,Option.bind_some,h,ji,kf,d1,Option.isSome_none,Option.isSome_some,lw,d2,zgG,entV,Option.map_none,Bool.false_eq_true
   | false=>
    rw[ex] at d2
    wp_walk using m7,m14,qK,Option.bind_some,h,ji,kf,d1,Option.isSome_none,Option.isSome_some,lw,d2,zgG,entV,Option.map_some,ex,Bool.false_eq_true
noncomputable def entW (o:Option (Bool×Ent)):MV:=match o with
 | some (_,e)=>.tup [.str e.text,.bool e.ex]
 | .none=>.none
theorem zfz{K:Bool->Nat}{L:Bool->List Ent}(hkn:V[kn]?=some (.list [.ref (K false),.ref (K true)]))(hd:∀ b,V[K b]?=some (.dict (knD (L b))))(k:Nat)(hW:W∈typed):
  callN prog (k+1) 93 [.ref kn,.str W] V=some (entW (entE L W),V):=by
 have q1:=zkP (hd false) (callN prog k) hW (upd (upd (upd e0 7 (.str W)) 117 (.ref kn)) 14 (.ref (K false))) rfl rfl
 have q2:=zkP (hd true) (callN prog k) hW (upd (upd (upd (upd e0 7 (.str W)) 117 (.ref kn)) 14 (.ref (K false))) 14 (.ref (K true))) rfl rfl
 unfold leB at q1 q2
 cases e1:ownE (L false) W with
 | some e=>
  have e3:entE L W=some (false,e):=by unfold entE;rw[e1]
  rw[e1] at q1
  rw[e3]
  simp only[entV,Option.map_some] at q1
  wp_walk using hkn,entW
 | none=>
  rw[e1] at q1
  cases e2:ownE (L true) W with
  | some e=>
   have e3:entE L W=some (true,e):=by unfold entE;rw[e1,e2];rfl
   rw[e2] at q2
   rw[e3]
   simp only[entV,Option.map_some,Option.map_none] at q1 q2
   wp_walk using hkn,entW
  | none=>
   have e3:entE L W=.none:=by unfold entE;rw[e1,e2];rfl
   rw[e2] at q2
   rw[e3]
   simp only[entV,Option.map_none] at q1 q2
   wp_walk using hkn,entW
theorem zdg(hl:low W):ascii W=true:=by
 unfold ascii
 rw[List.all_eq_true]
 intro c hc
 have:=hl c hc
 simpa[Nat.blt_eq] using this
theorem zae(hl:low W)(hn:W.length<=1000000)(J:Hp):Mine.methB .upper (.str W) [] J=some (.str (W.map upC),J):=by
 exact if_pos ⟨zdg hl,hn⟩
theorem zav(h:c < 128)(J:Hp):Mine.methB .isalnum (.str [c]) [] J=some (.bool (isAlnumC c),J):=by
 have a:ascii [c]=true:=by simp[ascii,Nat.blt_eq,h]
 show (if ascii [c] then some (MV.bool (!([c]:List Nat).isEmpty && [c].all isAlnumC),J) else none)=_
 rw[if_pos a]
 simp
noncomputable def enumS (t:List Nat):List MV:=t.zipIdx.map fun p=>.tup [.int (p.2:Int),.str [p.1]]
noncomputable def stG (t:List Nat) (p:Nat×Nat):List MV:=if isAlnumC p.1 && (decide (p.2=0) || !isAlnumC (t.getD (p.2 - 1) 0)) then [.int (p.2:Int)] else []
noncomputable def stL (t:List Nat):List MV:=t.zipIdx.flatMap (stG t)
noncomputable def nst (t:List Nat):Nat:=(stL t).length
noncomputable def madeP (t W:List Nat) (ex:Bool):List Nat:=
 if ex || W == lower W then t else if !(W == W.map upC) then fuP t else if decide (1 < nst t) then iuP t false else t.map upC
theorem zad:∀ t∈texts,∀ W∈typed,∀ ex:Bool,madeP t W ex=writtenP t W ex:=by
 have h:(texts.all fun t=>typed.all fun W=>[true,false].all fun ex=>madeP t W ex == writtenP t W ex)=true:=by decide +kernel
 intro t ht W hW ex
 have:=List.all_eq_true.mp (List.all_eq_true.mp (List.all_eq_true.mp h t ht) W hW) ex (by cases ex <;> simp)
 exact eq_of_beq this
theorem zj1:∀ t∈texts,nst t<=10:=by
 intro W h
 simp only[texts,List.mem_cons,List.not_mem_nil,or_false] at h
 rcases h with rfl | rfl | rfl | rfl | rfl | rfl | rfl <;> decide
theorem zmA (s:List Nat)(J:Hp):iterOf .enum [.str s] J=some (enumS s,[],J):=by
 show some (((s.map fun c=>MV.str [c]).zipIdx.map fun p=>MV.tup [.int (p.2:Int),p.1]),_,J)=_
 rw[List.zipIdx_map,List.map_map];rfl
noncomputable def stIf:List ME:=[.and [.n (.v 71) .isalnum [],.or [.cmp (.v 18) [.eq] [.l (.int 0)],.not (.n (.sub (.v 43) (.o .sub (.v 18) (.l (.int 1)))) .isalnum [])]]]
theorem starts {t:List Nat}(ht:t∈texts)(call:CallT)(m:Loc)(m43:m 43=some (.str t))(V:Hp):
  compLoop [] (compF call (.v 18) true [18,71] stIf m) (enumS t) V=some (stL t,V):=by
 refine wL rfl _ fun p hp=>?_
 obtain⟨c,i⟩:=p
 have e:t[i]?=some c:=List.mem_zipIdx_iff_getElem?.mp hp
 have lo:∀ {i c:Nat},t[i]?=some c->c < 128:=fun e=>yc (qH t ht _ (List.mem_of_getElem? e))
 have al:=zav (lo e) V
 clear hp
 unfold stIf
 cases ha:isAlnumC c with
 | false=>
  rw[ha] at al
  rw[show stG t (c,i)=[] from if_neg (by rw[show isAlnumC (c,i).1=false from ha];exact Bool.false_ne_true)]
  wp_walk using m43,al,Bool.false_eq_true
 | true=>
  rw[ha] at al
  cases i with
  | zero=>
   rw[show stG t (c,0)=[.int 0] from if_pos (by rw[show isAlnumC (c,0).1=true from ha];rfl)]
   wp_walk using m43,al,Int.natCast_zero
  | succ j=>
   obtain⟨d,hd⟩:∃ d,t[j]?=some d:=⟨_,List.getElem?_eq_getElem (Nat.lt_of_succ_lt (List.getElem?_eq_some_iff.mp e).1)⟩
   have al2:=zav (lo hd) V
   have sg:subGet (.str t) (.int (((j+1:Nat):Int) - 1)) V=some (.str [d]):=by
    show (if 0<=((j+1:Nat):Int) - 1/\((j+1:Nat):Int) - 1 < 1000000000 then (t[(((j+1:Nat):Int) - 1).toNat]?).bind (fun c=>some (MV.str [c])) else none)=_
    rw[show ((j+1:Nat):Int) - 1=(j:Int) by lia,if_pos ⟨Int.natCast_nonneg _,by have:=zX t ht;have:=(List.getElem?_eq_some_iff.mp hd).1;lia⟩,Int.toNat_natCast,hd];rfl
   have iz:decide (((j+1:Nat):Int)=0)=false:=decide_eq_false (by lia)
   have g:stG t (c,j+1)=if (!isAlnumC d)=true then [.int ((j+1:Nat):Int)] else []:=by
    show (if (isAlnumC c && (decide (j+1=0) || !isAlnumC (t.getD j 0)))=true then _ else _)=_
    rw[ha,List.getD_eq_getElem?_getD,hd];rfl
   rw[g]
   cases hb:isAlnumC d with
   | true=>
    rw[hb] at al2
    wp_walk using m43,al,iz,sg,al2,Bool.false_eq_true
   | false=>
    rw[hb] at al2
    wp_walk using m43,al,iz,sg,al2,Bool.false_eq_true
noncomputable def madeV (o:Option (Bool×Ent)) (W:List Nat):MV:=match o with
 | some (_,e)=>.str (writtenP e.text W e.ex)
 | .none=>.none
section
variable {V:Hp}{kn k:Nat}{W t:List Nat}{GG:Prop}
theorem zlu (q1:callN prog (k+1) 93 [.ref kn,.str W] V=some (.tup [.str t,.bool true],V)):callN prog (k+2) 95 [.ref kn,.str W] V=some (.str t,V):=by
 wp_walk using Bool.true_or
theorem zlr (q1:callN prog (k+1) 93 [.ref kn,.str W] V=some (.tup [.str t,.bool false],V))(lw:Mine.methB .lower (.str W) [] V=some (.str (lower W),V))(c:(W == lower W)=true):callN prog (k+2) 95 [.ref kn,.str W] V=some (.str t,V):=by
 wp_walk using lw,c,Bool.or_true,Bool.false_eq_true
theorem zk7 (q1:callN prog (k+1) 93 [.ref kn,.str W] V=some (.tup [.str t,.bool false],V))(lw:Mine.methB .lower (.str W) [] V=some (.str (lower W),V))(c:(W == lower W)=false)(uw:Mine.methB .upper (.str W) [] V=some (.str (W.map upC),V))(c2:(W == W.map upC)=false)(q2:callN prog (k+1) 94 [.str t,.bool false] V=some (.str (fuP t),V)):callN prog (k+2) 95 [.ref kn,.str W] V=some (.str (fuP t),V):=by
 wp_walk using lw,c,uw,c2,q2,Bool.or_false,Bool.false_eq_true
theorem zlC(m43:m 43=some (.str t))(ht:t∈texts)(z:∀ m' V',execs prog (callN prog (k+1)) (f95.body.drop 5) m V=some (some (.str (if decide (1 < nst t) then iuP t false else t.map upC)),m',V')->Upd 0 0 V V'->GG):GG:=by
 have q2:=starts ht (callN prog (k+1)) m m43 V
 have ite:=zmA t V
 have nl:=zj1 t ht
 have nl2:(stL t).length=nst t:=rfl
 unfold stIf at q2
 refine z (upd m 121 (.ref V.length)) (V ++ [za.list (stL t)]) ?_ (Upd.app 0 0 _ _)
 show execs prog _ [_,_] m V=_
 refine zdc (decide (1 < nst t)) (fun c=>?_) fun c=>?_
 ·have c':decide ((1:Int) < (nst t:Nat))=true:=decide_eq_true (Int.ofNat_lt.mpr (of_decide_eq_true c))
  have q3:=zkH k ht true (V ++ [za.list (stL t)])
  rw[if_pos rfl] at q3
  rw[if_pos c]
  wp_walk using m43,q2,nl2,c',q3,Bool.false_eq_true
 ·have c':decide ((1:Int) < (nst t:Nat))=false:=decide_eq_false fun z=>of_decide_eq_false c (Int.ofNat_lt.mp z)
  have ut:=zae (W:=t) (fun c hc=>yc (qH _ ht c hc)) (by have:=zX _ ht;lia) (V ++ [za.list (stL t)])
  rw[if_neg (fun z=>ff (c.symm.trans z))]
  wp_walk using m43,q2,nl2,c',ut,Bool.false_eq_true
theorem zlH (q1:callN prog (k+1) 93 [.ref kn,.str W] V=some (.tup [.str t,.bool false],V))(lw:Mine.methB .lower (.str W) [] V=some (.str (lower W),V))(c:(W == lower W)=false)(uw:Mine.methB .upper (.str W) [] V=some (.str (W.map upC),V))(c2:(W == W.map upC)=true)
  (q:execs prog (callN prog (k+1)) (f95.body.drop 5) (upd (upd (upd (upd (upd e0 7 (.str W)) 117 (.ref kn)) 23 (.tup [.str t,.bool false])) 43 (.str t)) 8 (.bool false)) V=some (some v,m',V')):callN prog (k+2) 95 [.ref kn,.str W] V=some (v,V'):=by
 have q:execs prog (callN prog (k+1)) [_,_] _ V=_:=q
 wp_walk using lw,c,uw,c2,Bool.or_false,Bool.false_eq_true
end
theorem zif{K:Bool->Nat}{L:Bool->List Ent}(hkn:V[kn]?=some (.list [.ref (K false),.ref (K true)]))(hd:∀ b,V[K b]?=some (.dict (knD (L b))))(hL:∀ b,∀ e∈L b,e.text∈texts)(k:Nat)(hW:W∈typed)(zz:∀ V',(callN prog (k+2) 95 [.ref kn,.str W] V=some (madeV (entE L W) W,V'))->(Upd 0 0 V V')->GG):GG:=by
 have q1:=zfz hkn hd k hW
 have hl:=zO W hW
 have hn:W.length<=1000000:=Nat.le_trans (zq W hW).1 (by decide)
 have lw:=wD hl hn V
 have uw:=zae hl hn V
 revert zz q1
 cases eE:entE L W with
 | none=>
  intro zz q1
  have q1:callN prog (k+1) 93 [.ref kn,.str W] V=some (.none,V):=q1
  refine zz V ?_ (Upd.refl 0 0 V)
  wp_walk using madeV
 | some p=>
  obtain⟨b,e⟩:=p
  intro zz q1
  have ht:=hL b e (yw eE)
  have q1:callN prog (k+1) 93 [.ref kn,.str W] V=some (.tup [.str e.text,.bool e.ex],V):=q1
  have mw:madeV (some (b,e)) W=.str (madeP e.text W e.ex):=congrArg MV.str (zad e.text ht W hW e.ex).symm
  rw[mw] at zz
  clear mw eE hkn hd hL
  generalize e.text=t at *
  generalize e.ex=ex at *
  cases ex with
  | true=>exact zz V (zlu q1) (Upd.refl 0 0 V)
  | false=>
   have e1:madeP t W false=if W == lower W then t else if !(W == W.map upC) then fuP t else if decide (1 < nst t) then iuP t false else t.map upC:=rfl
   rw[e1] at zz
   refine zdc (W == lower W) (fun c=>zz V (by rw[if_pos c];exact zlr q1 lw c) (Upd.refl 0 0 V)) fun c=>?_
   rw[if_neg (fun z=>ff (c.symm.trans z))] at zz
   refine zdc (W == W.map upC) (fun c2=>?_) fun c2=>zz V (by rw[if_pos (by rw[c2];rfl)];exact zk7 q1 lw c uw c2 ((zkH k ht false V).trans (by rw[if_neg (by decide)]))) (Upd.refl 0 0 V)
   rw[if_neg (by rw[c2];decide)] at zz
   exact zlC rfl ht fun m' V' q u=>zz V' (zlH q1 lw c uw c2 q) u
noncomputable def okT {α:Type} (n:Nat) (chk:α->Bool):PySem.W.KasT α->Bool
 | .ret a=>chk a
 | .ask i j k=>decide (i < n) && decide (j < n) && okT n chk (k true) && okT n chk (k false)
theorem zbf(n:Nat)(chk:α->Bool)(lt:Nat->Nat->Bool):∀ t:PySem.W.KasT α,okT n chk t=true ->∀ GG:Prop,(∀ p,(runT n lt t=some p)->(chk p=true)->GG)->GG 
 | .ret a=>fun h GG zz=>zz a rfl h
 | .ask i j k=>fun h GG zz=>by
  rw[show okT n chk (.ask i j k)=(decide (i < n) && decide (j < n) && okT n chk (k true) && okT n chk (k false)) from rfl] at h
  simp only[Bool.and_eq_true,decide_eq_true_eq] at h
  have e:runT n lt (.ask i j k)=runT n lt (k (lt i j)):=if_pos ⟨h.1.1.1,h.1.1.2⟩
  rw[e] at zz
  revert zz
  cases lt i j with
  | true=>exact fun zz=>zbf n chk lt (k true) h.1.2 GG zz
  | false=>exact fun zz=>zbf n chk lt (k false) h.2 GG zz
noncomputable def chkP (n:Nat) (p:Array Nat):Bool:=p.toList.all fun i=>decide (i < n)
theorem zbt:okT 2 (chkP 2) (PySem.W.kas_sort 2)=true/\okT 3 (chkP 3) (PySem.W.kas_sort 3)=true/\okT 4 (chkP 4) (PySem.W.kas_sort 4)=true:=by
 refine⟨by decide +kernel,by decide +kernel,by decide +kernel⟩
theorem zeV(h:l.length<=4):∃ r,sortRows l=some r:=by
 unfold sortRows
 by_cases c:l.length < 2
 ·exact⟨l,if_pos c⟩
 ·rw[if_neg c]
  have h4:okT l.length (chkP l.length) (PySem.W.kas_sort l.length)=true:=by
   have:l.length=2∨l.length=3∨l.length=4:=by lia
   rcases this with e | e | e <;> rw[e]
   ·exact zbt.1
   ·exact zbt.2.1
   ·exact zbt.2.2
  refine zbf l.length (chkP l.length) (fun i j=>rowLt (l.getD i .none) (l.getD j .none)) _ h4 _ fun p hp hc=>?_
  refine⟨p.toList.map fun i=>l.getD i .none,?_⟩
  rw[hp]
  simp only[Option.bind_some]
  exact if_pos hc
theorem xX {r:List MV}(h:sortRows l=some r):∀ v∈r,v∈l:=by
 unfold sortRows at h
 split at h
 ·cases h;exact fun v hv=>hv
 ·simp only[Option.bind_eq_some_iff] at h
  obtain⟨p,_,h⟩:=h
  split at h
  ·rename_i hp
   cases h
   intro v hv
   obtain⟨i,hi,rfl⟩:=List.mem_map.mp hv
   have:=List.all_eq_true.mp hp i hi
   simp only[decide_eq_true_eq] at this
   rw[List.getD_eq_getElem?_getD,List.getElem?_eq_getElem this,Option.getD_some]
   exact List.getElem_mem this
  ·cases h
theorem zcu {r:List MV}(h:sortRows l=some r)(hl:l.all isRow=true):r.all isRow=true:=by
 rw[List.all_eq_true] at hl ⊢
 exact fun v hv=>hl v (xX h v hv)
noncomputable def srt (l:List MV):List MV:=(sortRows l).getD []
theorem zeW(h:l.length<=4):sortRows l=some (srt l):=by
 obtain⟨r,e⟩:=zeV h
 unfold srt
 rw[e];rfl
theorem zhr(h:l.length<=4):∀ v∈srt l,v∈l:=xX (zeW h)
noncomputable def cnt (L:List Ent):List MV:=L.map fun e=>.tup [.str (keyS e.key),.int (e.used:Int)]
theorem kY{h g:β->MV}(hc:chkOk J chk=true):∀ bs:List β,(∀ b∈bs,f (h b) J=some ([g b],J))->compLoop chk f (bs.map h) J=some (bs.map g,J)
 | []=>fun _=>by simp only[zem,zex,hc,if_true,List.map_nil]
 | b :: r=>fun e=>by
  simp only[List.map_cons,zem,zex,hc,if_true,e b (by simp),kY hc r (fun x hx=>e x (List.mem_cons_of_mem _ hx)),Option.bind_some,List.cons_append,List.nil_append]
theorem zcs:∀ {L:List Ent} {e:Ent},(L.Pairwise fun e e'=>e.key≠e'.key)->e∈L->fnd L e.key=some e
 | x :: r,e,hp,he=>by
  unfold fnd
  rw[List.find?_cons]
  rcases List.mem_cons.mp he with rfl | hr
  ·simp
  ·have:=(List.pairwise_cons.mp hp).1 e hr
   have h:(x.key == e.key)=false:=by simpa using this
   rw[h]
   exact zcs (List.pairwise_cons.mp hp).2 hr
theorem zkI (l r:List MV)(J:Hp)(h:l.all isRow=true)(hl:l.length<=16)(e:sortRows l=some r):sortO (some (.list l)) J=some (.ref J.length,J ++ [za.list r]):=by
 show (if l.all isRow && decide (l.length<=16) then (sortRows l).bind fun r=>some (MV.ref J.length,J ++ [za.list r]) else .none)=_
 rw[h,decide_eq_true hl,e];rfl
theorem zbE (L:List Ent):(cnt L).all isRow=true:=by
 unfold cnt
 rw[List.all_eq_true]
 intro v hv
 obtain⟨e,_,rfl⟩:=List.mem_map.mp hv
 rfl
noncomputable def cntB:List MS:=[.expr (.n (.v 3) .append [.b .sorted [.comp (.tup [.v 15,.a (.sub (.a (.v 2) 12) (.v 15)) 9]) false [15] .val [.b .list [.a (.v 2) 12]] []]])]
theorem zgA{lo:Nat}{L:Bool->List Ent}(h:zu V lo hi A L)(call:CallT)(b:Bool)(m:Loc){f:Nat}(m2:m 2=some (.ref (A.t b)))(m3:m 3=some (.ref f))(hf:V[f]?=some (.list acc))(la:acc.length<=10):
  ∃ keys,execs prog call cntB m V=some (.none,m,(V ++ [za.list keys] ++ [za.list (cnt (L b))] ++ [za.list (srt (cnt (L b)))]).set f (.list (acc ++ [.ref (V.length+2)]))):=by
 have hobj:=h.obj b
 unfold tabO at hobj
 have hdic:=h.dic b
 have few:=h.few b
 have lf:=zg hf
 have ek:(entD (A.adr b) (L b)).map (·.1)=(L b).map fun e=>MV.str (keyS e.key):=by
  unfold entD
  rw[List.map_map];rfl
 have kl:((L b).map fun e=>MV.str (keyS e.key)).length<=1000000:=by rw[List.length_map];lia
 have dl:(entD (A.adr b) (L b)).length<=1000000:=by unfold entD;rw[List.length_map];lia
 have U1:=Upd.app 0 0 V [za.list ((L b).map fun e=>MV.str (keyS e.key))]
 have n1:=zm V (za.list ((L b).map fun e=>MV.str (keyS e.key)))
 have cl:(cnt (L b)).length<=4:=by unfold cnt;rw[List.length_map];exact few
 have cl6:(cnt (L b)).length<=1000000:=by lia
 have sr:=zeW cl
 have so:=zkI (cnt (L b)) (srt (cnt (L b))) (V ++ [za.list ((L b).map fun e=>MV.str (keyS e.key))] ++ [za.list (cnt (L b))]) (zbE _) (by lia) sr
 have e:compLoop [(V.length,some ((L b).map fun e=>MV.str (keyS e.key)))] (compF call (.tup [.v 15,.a (.sub (.a (.v 2) 12) (.v 15)) 9]) false [15] [] m) ((L b).map fun e=>MV.str (keyS e.key)) (V ++ [za.list ((L b).map fun e=>MV.str (keyS e.key))])=some (cnt (L b),V ++ [za.list ((L b).map fun e=>MV.str (keyS e.key))]):=by
  refine kY (zG n1) (L b) fun x hx=>?_
  have h1:=h.keep U1
  have dk:=h1.zk3 b (h.keys b x hx).1
  rw[zcs (h.nod b) hx,Option.map_some] at dk
  have kf:=zcn (A.adr b) (L b) (keyS x.key)
  have us:=h1.zeE hx
  have ho:=U1.keep hobj
  have hd:=U1.keep hdic
  generalize V ++ [za.list ((L b).map fun e=>MV.str (keyS e.key))]=Vd at *
  wp_walk using m2,ho,hd,kf,dk,us
 refine⟨(L b).map fun e=>MV.str (keyS e.key),?_⟩
 have la':acc.length<=1000000:=by lia
 unfold cntB
 wp_walk using m2,m3,hf,hobj,hdic,ek,e,so
theorem wW{lo:Nat}{L:Bool->List Ent}(h:zu V lo hi A L)(k:Nat)(htl:V[tl]?=some (.list [.ref (A.t false),.ref (A.t true)]))(zz:∀ V' x a b,(callN prog (k+1) 96 [.ref tl] V=some (.ref x,V'))->(V'[x]?=some (.list [.ref a,.ref b]))->(V'[a]?=some (.list (srt (cnt (L false)))))->(V'[b]?=some (.list (srt (cnt (L true)))))->(Upd 0 0 V V')->GG):GG:=by
 have ltl:=zg htl
 have hup:∀ (J:Hp) (q:za),Upd 0 0 V J->Upd 0 0 V (J.set V.length q):=fun J q u=>⟨by rw[List.length_set];exact u.1,fun j hj _=>by rw[zb _ (by lia)];exact u.2 j hj (.inr (Nat.zero_le _))⟩
 have U0:=Upd.app 0 0 V [za.list []]
 have n0:=zm V (za.list [])
 have l0:(V ++ [za.list []]).length=V.length+1:=by simp
 generalize hν:V ++ [za.list []]=V0 at *
 obtain⟨k1,q1⟩:=zgA (h.keep U0) (callN prog k) false (upd (upd (upd e0 122 (.ref tl)) 3 (.ref V.length)) 2 (.ref (A.t false))) (f:=V.length) (acc:=[]) rfl rfl n0 (by simp)
 have a1:((V0 ++ [za.list k1] ++ [za.list (cnt (L false))] ++ [za.list (srt (cnt (L false)))]).set V.length (.list ([] ++ [.ref (V0.length+2)])))[V0.length+2]?=some (.list (srt (cnt (L false)))):=by
  rw[zb _ (by lia)];exact yd (by simp)
 have f1:((V0 ++ [za.list k1] ++ [za.list (cnt (L false))] ++ [za.list (srt (cnt (L false)))]).set V.length (.list ([] ++ [.ref (V0.length+2)])))[V.length]?=some (.list ([] ++ [.ref (V0.length+2)])):=zaT (by simp;lia)
 have U1:=hup (V0 ++ [za.list k1] ++ [za.list (cnt (L false))] ++ [za.list (srt (cnt (L false)))]) (.list ([] ++ [.ref (V0.length+2)])) (((U0.trans (Upd.app 0 0 _ _)).trans (Upd.app 0 0 _ _)).trans (Upd.app 0 0 _ _))
 have l1:V0.length+3<=((V0 ++ [za.list k1] ++ [za.list (cnt (L false))] ++ [za.list (srt (cnt (L false)))]).set V.length (.list ([] ++ [.ref (V0.length+2)]))).length:=by simp
 generalize (V0 ++ [za.list k1] ++ [za.list (cnt (L false))] ++ [za.list (srt (cnt (L false)))]).set V.length (.list ([] ++ [.ref (V0.length+2)]))=Vd at *
 obtain⟨k2,q2⟩:=zgA (h.keep U1) (callN prog k) true (upd (upd (upd (upd e0 122 (.ref tl)) 3 (.ref V.length)) 2 (.ref (A.t false))) 2 (.ref (A.t true))) (f:=V.length) rfl rfl f1 (by simp)
 have a2:((Vd ++ [za.list k2] ++ [za.list (cnt (L true))] ++ [za.list (srt (cnt (L true)))]).set V.length (.list ([] ++ [.ref (V0.length+2)] ++ [.ref (Vd.length+2)])))[V0.length+2]?=some (.list (srt (cnt (L false)))):=by
  rw[zb _ (by lia)];exact zf _ (zf _ (zf _ a1))
 have b2:((Vd ++ [za.list k2] ++ [za.list (cnt (L true))] ++ [za.list (srt (cnt (L true)))]).set V.length (.list ([] ++ [.ref (V0.length+2)] ++ [.ref (Vd.length+2)])))[Vd.length+2]?=some (.list (srt (cnt (L true)))):=by
  rw[zb _ (by lia)];exact yd (by simp)
 have f2:((Vd ++ [za.list k2] ++ [za.list (cnt (L true))] ++ [za.list (srt (cnt (L true)))]).set V.length (.list ([] ++ [.ref (V0.length+2)] ++ [.ref (Vd.length+2)])))[V.length]?=some (.list ([] ++ [.ref (V0.length+2)] ++ [.ref (Vd.length+2)])):=zaT (by simp;lia)
 have U2:=hup (Vd ++ [za.list k2] ++ [za.list (cnt (L true))] ++ [za.list (srt (cnt (L true)))]) (.list ([] ++ [.ref (V0.length+2)] ++ [.ref (Vd.length+2)])) (((U1.trans (Upd.app 0 0 _ _)).trans (Upd.app 0 0 _ _)).trans (Upd.app 0 0 _ _))
 generalize (Vd ++ [za.list k2] ++ [za.list (cnt (L true))] ++ [za.list (srt (cnt (L true)))]).set V.length (.list ([] ++ [.ref (V0.length+2)] ++ [.ref (Vd.length+2)]))=Ve at *
 refine zz Ve V.length (V0.length+2) (Vd.length+2) ?_ f2 a2 b2 U2
 have t0:=U0.keep htl;have t1:=U1.keep htl;have t2:=U2.keep htl
 have lp:forL [(tl,some [.ref (A.t false),.ref (A.t true)])] false [2] (execs prog (callN prog k) cntB) [.ref (A.t false),.ref (A.t true)] (upd (upd e0 122 (.ref tl)) 3 (.ref V.length)) V0=some (.none,upd (upd (upd (upd e0 122 (.ref tl)) 3 (.ref V.length)) 2 (.ref (A.t false))) 2 (.ref (A.t true)),Ve):=by
  rw[zbj,zaW,t0,zbo]
  simp -dsimp -implicitDefEqProofs only[if_true,zgO,yp,q1,jB]
  rw[zbj,zaW,t1,zbo]
  simp -dsimp -implicitDefEqProofs only[if_true,zgO,yp,q2,jB,ziH,zaW,t2,zbo]
 unfold cntB at lp
 wp_walk using hν,t0,lp
noncomputable def deepS:List Nat:=[100,101,101,112]
noncomputable def stateS:List Nat:=[115,116,97,116,101]
noncomputable def deckD (dl:Nat) (sv:Int):List (MV×MV):=[(.str deepS,.ref dl),(.str stateS,.int sv)]
structure jW (V:Hp)(dk dl:Nat)(sv:Int)(D:List Int):Prop where
 d:V[dk]?=some (.dict (deckD dl sv))
 l:V[dl]?=some (.list (D.map .int))
 few:D.length<=1000
theorem jJ (dl:Nat)(sv:Int):dlk (.str [100,101,101,112]) (deckD dl sv)=some (.ref dl):=rfl
theorem jR (dl:Nat)(sv:Int):dlk (.str [115,116,97,116,101]) (deckD dl sv)=some (.int sv):=rfl
theorem zbI (dl:Nat)(sv:Int):keyFits (.str [100,101,101,112]) (deckD dl sv)=true:=rfl
theorem zd1 (dl:Nat)(sv:Int):keyFits (.str [115,116,97,116,101]) (deckD dl sv)=true:=rfl
theorem zhR (dl dl':Nat)(sv:Int):dst (.str [100,101,101,112]) (.ref dl') (deckD dl sv)=deckD dl' sv:=rfl
theorem zbq (dl:Nat)(sv sv':Int):dst (.str [115,116,97,116,101]) (.int sv') (deckD dl sv)=deckD dl sv':=rfl
theorem zgy (dl:Nat)(sv:Int):(deckD dl sv).length=2:=rfl
theorem zbD (x y:Int)(J:Hp)(h:small y=true):binop .mul (.int x) (.int y) J=some (.int (x * y),J):=by
 show (if small x || small y then some (MV.int (x * y),J) else .none)=_
 rw[h,Bool.or_true];rfl
theorem j4 (x y:Int)(J:Hp)(h:small x=true):binop .mul (.int x) (.int y) J=some (.int (x * y),J):=by
 show (if small x || small y then some (MV.int (x * y),J) else .none)=_
 rw[h,Bool.true_or];rfl
theorem zfj {x:Int}(h:0<=x)(h':x < 2305843009213693951):small x=true:=by
 unfold small
 simp only[Bool.and_eq_true,decide_eq_true_eq]
 have:(2:Int) ^ 62=4611686018427387904:=by decide
 rw[this]
 lia
theorem zci (a b:Int)(h:0 < b):0<=a.fmod b/\a.fmod b < b:=by
 rw[Int.fmod_eq_emod_of_nonneg _ (Int.le_of_lt h)]
 exact⟨Int.emod_nonneg _ (Int.ne_of_gt h),Int.emod_lt_of_pos _ h⟩
theorem zcg (a:Int)(b:Nat)(h:0 < b):∃ n:Nat,n < b/\a.fmod (b:Int)=(n:Int):=by
 have r:=zci a b (Int.ofNat_lt.mpr h)
 exact⟨(a.fmod b).toNat,(Int.toNat_lt r.1).mpr r.2,(Int.toNat_of_nonneg r.1).symm⟩
theorem ne_nil{i:Nat}(hi:J[i]?=some (.list X))(hj:J[j]?=some (.list [])):cmpop .ne (.ref i) (.ref j) J=some (!decide (X.length=0)):=by
 by_cases h:X.length=0
 ·rw[decide_eq_true h]
  obtain rfl:=List.length_eq_zero_iff.mp h
  exact zf5 (eqL hi hj rfl)
 ·rw[decide_eq_false h]
  exact zf5 (eqD hi hj h)
theorem draw{D:List Int}(h:jW V dk dl sv D)(k many:Nat)(h0:0 < many)(h1:many < 1000)(zz:∀ V' n sv' D',(n < many)->(callN prog (k+1) 89 [.ref dk,.int (many:Int)] V=some (.int ((n:Nat):Int),V'))->(jW V' dk dl sv' D')->(V.length<=V'.length)->(∀ j,j < V.length->j≠dk->j≠dl->V'[j]?=V[j]?)->GG):GG:=by
 obtain⟨hd,hl,few⟩:=h
 have lk':=zg hd;have ll:=zg hl
 have ne:dk≠dl:=fun z=>by rw[z,hl] at hd;cases hd
 have hd1:=zf [za.list []] hd
 have hl1:=zf [za.list []] hl
 have n1:=zm V (za.list [])
 have lm:(D.map MV.int).length=D.length:=by simp
 have dn:=zeO (show (deckD dl sv).length<=1000000 by rw[zgy];lia)
 rcases List.eq_nil_or_concat D with e | ⟨D',w,e⟩
 ·subst e
  have hne:cmpop .ne (.ref dl) (.ref V.length) (V ++ [za.list []])=some false:=ne_nil hl1 n1
  obtain⟨o1,o2⟩:=zci (sv * 1181783497276652981+88172645463325) 2305843009213693951 (by decide)
  have m1:=yj (sv * 1181783497276652981+88172645463325) 2305843009213693951 (V ++ [za.list []]) (by decide)
  generalize hone:(sv * 1181783497276652981+88172645463325).fmod 2305843009213693951=one at *
  have sm:=zfj o1 o2
  obtain⟨n,hn,en⟩:=zcg (((one * one+374761393 * one+11).fmod 2305843009213693921).fdiv 1048576) many h0
  have hmul:∀ x (J:Hp),binop .mul (.int x) (.int 1181783497276652981) J=some (.int (x * 1181783497276652981),J):=fun x J=>zbD _ _ _ (by decide)
  have hmul2:∀ x (J:Hp),binop .mul (.int 374761393) (.int x) J=some (.int (374761393 * x),J):=fun x J=>j4 _ _ _ (by decide)
  have hmul3:∀ (J:Hp),binop .mul (.int one) (.int one) J=some (.int (one * one),J):=fun J=>j4 _ _ _ sm
  have m2:∀ x (J:Hp),binop .mod (.int x) (.int 2305843009213693921) J=some (.int (x.fmod 2305843009213693921),J):=fun x J=>yj _ _ _ (by decide)
  have m3:∀ x (J:Hp),binop .fdiv (.int x) (.int 1048576) J=some (.int (x.fdiv 1048576),J):=fun x J=>zbQ _ _ _ (by decide)
  have m4:∀ x (J:Hp),binop .mod (.int x) (.int (many:Int)) J=some (.int (x.fmod (many:Int)),J):=fun x J=>yj _ _ _ (by lia)
  refine zz ((V ++ [za.list []]).set dk (.dict (deckD dl one))) n one [] hn ?_ ⟨get_set _ hd1,(zb _ ne).trans hl1,by simp⟩ (by simp) (fun j hj h1 h2=>?_)
  ·rw[<- en]
   wp_walk using hd,zbI,zd1,jJ,jR,hne,hd1,hmul,hmul2,hmul3,m1,m2,m3,m4,dn,zbq
  ·rw[zb _ (Ne.symm h1),List.getElem?_append_left hj]
 ·rw[List.concat_eq_append] at e
  have hne:cmpop .ne (.ref dl) (.ref V.length) (V ++ [za.list []])=some true:=by
   rw[ne_nil hl1 n1,e]
   simp
  have em:D.map MV.int=D'.map MV.int ++ [.int w]:=by rw[e];simp
  rw[em] at hl hl1
  obtain⟨n,hn,en⟩:=zcg w many h0
  have few':D'.length < 1000:=by rw[e] at few;simp at few;lia
  have lm':(D'.map MV.int).length < 1000000:=by simp;lia
  have lm2:(D'.map MV.int).length<=1000000:=by lia
  have m4:∀ x (J:Hp),binop .mod (.int x) (.int (many:Int)) J=some (.int (x.fmod (many:Int)),J):=fun x J=>yj _ _ _ (by lia)
  have m3:∀ x (J:Hp),binop .fdiv (.int x) (.int (many:Int)) J=some (.int (x.fdiv (many:Int)),J):=fun x J=>zbQ _ _ _ (by lia)
  by_cases c:(many:Int)<=w
  ·refine zz ((V ++ [za.list []]).set dl (.list (D'.map MV.int ++ [.int (w.fdiv many)]))) n sv (D' ++ [w.fdiv many]) hn ?_ ⟨(zb _ (Ne.symm ne)).trans hd1,by rw[get_set _ hl1];simp,by simp;lia⟩ (by simp) (fun j hj h1 h2=>?_)
   ·rw[<- en]
    wp_walk using hd,zbI,jJ,hne,hd1,hl1,zhF,m3,m4
   ·rw[zb _ (Ne.symm h2),List.getElem?_append_left hj]
  ·refine zz ((V ++ [za.list []]).set dl (.list (D'.map MV.int))) n sv D' hn ?_ ⟨(zb _ (Ne.symm ne)).trans hd1,get_set _ hl1,by lia⟩ (by simp) (fun j hj h1 h2=>?_)
   ·rw[<- en]
    wp_walk using hd,zbI,jJ,hne,hd1,hl1,zhF,m4
   ·rw[zb _ (Ne.symm h2),List.getElem?_append_left hj]
theorem zfR (l:List Int)(q:Int)(J:Hp)(hl:l.length<=1000000)(hq:0<=q):
  sliceO (some (.frz l)) .none (.int q) J=some (.ref J.length,J ++ [za.list ((l.take q.toNat).map .int)]):=by
 have:=xn (l.map .int) q J (by simpa using hl) hq
 exact this.trans (by rw[List.map_take])
noncomputable def dkB:List MS:=[.assign (.v 114) (.o .add (.o .mul (.l (.int 2)) (.b .abs [.v 113])) (.b .int [.cmp (.v 113) [.lt] [.l (.int 0)]])),
   .ifs (.cmp (.b .abs [.v 113]) [.ge] [.o .pow (.l (.int 10)) (.l (.int 18))]) [.assign (.sub (.v 112) (.l (.str [100,101,101,112]))) (.o .add (.list [.b .abs [.v 113]]) (.sub (.v 112) (.l (.str [100,101,101,112]))))] [],
   .assign (.sub (.v 112) (.l (.str [115,116,97,116,101]))) (.o .mod (.b .int [.o .add (.o .mul (.o .add (.o .add (.sub (.v 112) (.l (.str [115,116,97,116,101]))) (.v 114)) (.l (.int 1))) (.l (.int 1181783497276652981))) (.l (.int 521288629))]) (.l (.int 2305843009213693951)))]
theorem zcV (J:Hp):binop .pow (.int 10) (.int 18) J=some (.int 1000000000000000000,J):=rfl
theorem zkJ{D:List Int}(h:jW V dk dl sv D)(call:CallT)(x:Int)(m:Loc)(m112:m 112=some (.ref dk))(m113:m 113=some (.int x))(hn:D.length<=500)(zz:∀ V' m' dl' sv' D',(execs prog call dkB m V=some (.none,m',V'))->(jW V' dk dl' sv' D')->(D'.length<=D.length+1)->(m' 112=some (.ref dk))->(V.length<=V'.length)->(∀ j,j < V.length->j≠dk->V'[j]?=V[j]?)->GG):GG:=by
 obtain⟨hd,hl,few⟩:=h
 have lk':=zg hd;have ll:=zg hl
 have ne:dk≠dl:=fun z=>by rw[z,hl] at hd;cases hd
 have hmul:∀ x (J:Hp),binop .mul (.int x) (.int 1181783497276652981) J=some (.int (x * 1181783497276652981),J):=fun x J=>zbD _ _ _ (by decide)
 have hmul2:∀ x (J:Hp),binop .mul (.int 2) (.int x) J=some (.int (2 * x),J):=fun x J=>j4 _ _ _ (by decide)
 have m2:∀ x (J:Hp),binop .mod (.int x) (.int 2305843009213693951) J=some (.int (x.fmod 2305843009213693951),J):=fun x J=>yj _ _ _ (by decide)
 have lm:(D.map MV.int).length=D.length:=by simp
 have dn:=fun (dl:Nat) (sv:Int)=>zeO (show (deckD dl sv).length<=1000000 by rw[zgy];lia)
 unfold dkB at zz
 have p18:=zcV V
 generalize hu:(2 * (x.natAbs:Int)+(if decide (x < 0) then 1 else 0))=u
 by_cases c:(1000000000000000000:Int)<=(x.natAbs:Int)
 ·refine zz ((V ++ [za.list [.int (x.natAbs:Int)]] ++ [za.list (.int (x.natAbs:Int) :: D.map MV.int)]).set dk (.dict (deckD (V.length+1) (((sv+u+1) * 1181783497276652981+521288629).fmod 2305843009213693951)))) (upd m 114 (.int u)) (V.length+1) _ ((x.natAbs:Int) :: D) ?_ ⟨zaT (by simp;lia),?_,by simp;lia⟩ (by simp) m112 (by simp) (fun j hj h1=>?_)
  ·wp_walk using m112,m113,hmul2,hu,zcV,hd,zbI,jJ,hl,lm,List.cons_append,List.nil_append,dn,zhR,zd1,jR,hmul,m2,zbq
  ·rw[zb _ (by lia)];exact yd (by simp)
  ·rw[zb _ (Ne.symm h1),List.append_assoc,List.getElem?_append_left hj]
 ·refine zz (V.set dk (.dict (deckD dl (((sv+u+1) * 1181783497276652981+521288629).fmod 2305843009213693951)))) (upd m 114 (.int u)) dl _ D ?_ ⟨zaT lk',(zb _ ne).trans hl,few⟩ (by lia) m112 (by simp) (fun j hj h1=>zb _ (Ne.symm h1))
  wp_walk using m112,m113,hmul2,hu,zcV,hd,dn,zd1,jR,hmul,m2,zbq
theorem zby {it:Nat}(call:CallT)(hne:it≠dk):∀ (cells:List Int) (V:Hp) (m:Loc) (dl:Nat) (sv:Int) (D:List Int),jW V dk dl sv D->D.length+cells.length<=500->m 112=some (.ref dk)->V[it]?=some (.list all) ->∀ GG:Prop,(∀ V' m' dl' sv' D',(forL [(it,some all)] false [113] (execs prog call dkB) (cells.map .int) m V=some (.none,m',V'))->(jW V' dk dl' sv' D')->(m' 112=some (.ref dk))->(V.length<=V'.length)->(∀ j,j < V.length->j≠dk->V'[j]?=V[j]?)->GG)->GG 
 | []=>fun V m dl sv D h hn m112 hi GG zz=>by
  refine zz V m dl sv D ?_ h m112 (Nat.le_refl _) (fun _ _ _=>rfl)
  exact wF0 (zG hi)
 | x :: r=>fun V m dl sv D h hn m112 hi GG zz=>by
  rw[List.length_cons] at hn
  refine zkJ h call x (upd m 113 (.int x)) m112 rfl (by lia) fun Vd ma dl1 sv1 Da q1 h1 n1 g1 l1 f1=>?_
  refine zby call hne r Vd ma dl1 sv1 Da h1 (by lia) g1 (by rw[f1 it (zg hi) hne];exact hi) _ fun V' m' dl' sv' D' q2 h2 g2 l2 f2=>?_
  refine zz V' m' dl' sv' D' ?_ h2 g2 (by lia) (fun j hj h1=>by rw[f2 j (by lia) h1,f1 j hj h1])
  rw[List.map_cons]
  exact wFc (zG hi) rfl q1 (wFn q2)
theorem zh7{l:List Int}(hs:V[s]?=some (.frz l))(hl:l.length<=1000000)(k:Nat)(zz:∀ V' dk dl sv D,(callN prog (k+1) 88 [.ref s] V=some (.ref dk,V'))->(jW V' dk dl sv D)->(Upd 0 0 V V')->(V.length<=dk)->GG):GG:=by
 have ls:=zg hs
 have t40:(l.take 40).length<=40:=by simp;lia
 have lm:((l.take 40).map MV.int).length=(l.take 40).length:=by simp
 have D0:jW (V ++ [za.list []] ++ [za.list ((l.take 40).map MV.int)] ++ [za.dict (deckD V.length (594+((l.take 40).length:Int)))] ++ [za.list ((l.take 40).map MV.int)]) (V.length+2) V.length (594+((l.take 40).length:Int)) []:=
  ⟨by rw[qj (by simp)];exact yd (by simp),by rw[qj (by simp),qj (by simp),qj (by simp)];exact zm _ _,by simp⟩
 have hi:(V ++ [za.list []] ++ [za.list ((l.take 40).map MV.int)] ++ [za.dict (deckD V.length (594+((l.take 40).length:Int)))] ++ [za.list ((l.take 40).map MV.int)])[V.length+3]?=some (.list ((l.take 40).map MV.int)):=yd (by simp)
 refine zby (callN prog k) (by lia) (l.take 40) _ (upd (upd e0 111 (.ref s)) 112 (.ref (V.length+2))) V.length _ [] D0 (by simpa using by lia) rfl hi _ fun V' m' dl' sv' D' q h' g' l' f'=>?_
 refine zz V' (V.length+2) dl' sv' D' ?_ h' ⟨by simp at l';lia,fun j hj _=>?_⟩ (by lia)
 ·have dd:dst (.str [115,116,97,116,101]) (.int (594+((l.take 40).length:Int))) (dst (.str [100,101,101,112]) (.ref V.length) [])=deckD V.length (594+((l.take 40).length:Int)):=rfl
  have kf0:keyFits (.str [100,101,101,112]) []=true:=rfl
  have kf1:keyFits (.str [115,116,97,116,101]) (dst (.str [100,101,101,112]) (.ref V.length) [])=true:=rfl
  have i40:(40:Int).toNat=40:=rfl
  unfold dkB at q
  generalize (l.take 40).length=n40 at *
  wp_walk using hs,zfR,i40,lm,zlc,kf0,kf1,dd,hi,q,g'
 ·rw[f' j (by simp;lia) (by lia),List.append_assoc,List.append_assoc,List.append_assoc,List.getElem?_append_left hj]
noncomputable def betw:List (List Nat):=[[32],[10],[45],[44,32],[32,32]]
noncomputable def pres:List (List Nat):=[[],[32],[45,45]]
noncomputable def bumpP (n:Nat->Nat) (L:Bool->List Ent) (W:List Nat):Bool->List Ent:=match entE L W with
 | some (b,e)=>bump n b e.key L
 | .none=>L
noncomputable def outP (L:Bool->List Ent) (W:List Nat):List Nat:=match entE L W with
 | some (_,e)=>writtenP e.text W e.ex
 | .none=>W
noncomputable def outB:(Bool->List Ent)->List (List Nat)->List Nat
 | _,[]=>[]
 | L,[w]=>outP L w
 | L,w :: b :: r=>outP L w ++ b ++ outB (bumpP (·+1) L w) r
noncomputable def LN:(Bool->List Ent)->List (List Nat)->Bool->List Ent
 | L,[]=>L
 | L,[w]=>bumpP (·+1) L w
 | L,w :: _ :: r=>LN (bumpP (·+1) L w) r
noncomputable def nE:(Bool->List Ent)->List (List Nat)->Nat
 | _,[]=>0
 | L,[w]=>if (entE L w).isSome then 1 else 0
 | L,w :: _ :: r=>(if (entE L w).isSome then 1 else 0)+nE (bumpP (·+1) L w) r
theorem zi4 (L:Bool->List Ent)(w b:List Nat)(r:List (List Nat)):outB L (w :: b :: r)=outP L w ++ b ++ outB (bumpP (·+1) L w) r:=rfl
theorem zjc (L:Bool->List Ent)(w:List Nat):outB L [w]=outP L w:=rfl
theorem nE2 (L:Bool->List Ent)(w b:List Nat)(r:List (List Nat)):nE L (w :: b :: r)=(if (entE L w).isSome then 1 else 0)+nE (bumpP (·+1) L w) r:=rfl
theorem nE1 (L:Bool->List Ent)(w:List Nat):nE L [w]=if (entE L w).isSome then 1 else 0:=rfl
theorem nE0 (L:Bool->List Ent):nE L []=0:=rfl
inductive Alt:List (List Nat)->Prop where
 | nil:Alt []
 | one {w:List Nat}:w∈typed->Alt [w]
 | two {w b:List Nat} {r:List (List Nat)}:w∈typed->b∈betw->Alt r->Alt (w :: b :: r)
noncomputable def EndOK (D:List Nat):Prop:=∀ c A',D=A' ++ [c]->isAlnumC c=false
noncomputable def HeadOK (R:List Nat):Prop:=∀ c R',R=c :: R'->isAlnumC c=false
theorem qW:∀ b∈betw,b≠[]/\(∀ c∈b,isAlnumC c=false)/\allok b/\b.length<=2:=by
 intro W h
 simp only[betw,List.mem_cons,List.not_mem_nil,or_false] at h
 unfold allok
 rcases h with rfl | rfl | rfl | rfl | rfl <;> decide
theorem wu:∀ b∈pres,(∀ c∈b,isAlnumC c=false)/\allok b/\b.length<=2:=by
 intro W h
 simp only[pres,List.mem_cons,List.not_mem_nil,or_false] at h
 unfold allok
 rcases h with rfl | rfl | rfl <;> decide
theorem zaw {D b:List Nat}(h:∀ c∈b,isAlnumC c=false)(hD:EndOK D):EndOK (D ++ b):=by
 intro c A' e
 rcases List.eq_nil_or_concat b with e0 | ⟨b',d,e0⟩
 ·subst e0;rw[List.append_nil] at e;exact hD c A' e
 ·rw[List.concat_eq_append] at e0
  rw[e0,<- List.append_assoc] at e
  have:=List.append_inj_right' e rfl
  simp at this
  exact h c (by rw[e0,this];simp)
theorem zaK:EndOK []:=by intro c A' e;cases A' <;> cases e
theorem zcS {b:List Nat}(hb:b≠[])(h:∀ c∈b,isAlnumC c=false):HeadOK (b ++ R):=by
 intro c R' e
 cases b with
 | nil=>exact absurd rfl hb
 | cons d r=>simp at e;rw[<- e.1];exact h d (by simp)
theorem jk:HeadOK []:=by intro c R' e;cases e
theorem xD:∀ W∈typed,allok W:=by
 intro W h c hc
 have:=yE W h c hc
 simp[okc,this]
theorem zba (c:Nat)(h:okc c=true):okc (upC c)=true:=by
 have h2:∀ c,c < 128->okc c=true->okc (upC c)=true:=by decide +kernel
 exact h2 c (yc h) h
theorem zjv:∀ {t:List Nat},allok t->allok (fuP t)
 | []=>fun h=>h
 | c :: r=>fun h=>by
  unfold fuP
  split
  ·intro x hx
   rcases List.mem_cons.mp hx with rfl | hx
   ·exact zba c (h c (by simp))
   ·exact h x (List.mem_cons_of_mem _ hx)
  ·intro x hx
   rcases List.mem_cons.mp hx with rfl | hx
   ·exact h x (by simp)
   ·exact zjv (fun y hy=>h y (List.mem_cons_of_mem _ hy)) x hx
theorem zkx:∀ {t:List Nat} (b:Bool),allok t->allok (iuP t b)
 | []=>fun b h=>h
 | c :: r=>fun b h=>by
  intro x hx
  unfold iuP at hx
  rcases List.mem_cons.mp hx with rfl | hx
  ·split
   ·exact h c (by simp)
   ·exact zba c (h c (by simp))
  ·exact zkx _ (fun y hy=>h y (List.mem_cons_of_mem _ hy)) x hx
theorem zcN {t:List Nat}(W:List Nat)(ex:Bool)(h:allok t):allok (writtenP t W ex):=by
 unfold writtenP
 split
 ·exact h
 ·split
  ·exact zjv h
  ·split
   ·exact zkx _ h
   ·intro x hx
    obtain⟨c,hc,rfl⟩:=List.mem_map.mp hx
    exact zba c (h c hc)
theorem zR {a b:List Nat}(ha:allok a)(hb:allok b):allok (a ++ b):=by
 intro c hc
 rcases List.mem_append.mp hc with h | h
 ·exact ha c h
 ·exact hb c h
theorem wi{lo:Nat}{L:Bool->List Ent}(h:zu V lo hi A L)(hW:W∈typed):allok (outP L W)/\(outP L W).length<=7:=by
 unfold outP
 split
 ·rename_i b e hE
  have hk:=(h.keys b e (yw hE)).2
  exact⟨zcN W e.ex (qH _ hk),Nat.le_trans (yN _ _ _) (zX _ hk)⟩
 ·exact⟨xD W hW,by have:=(zq W hW).1;lia⟩
structure Rec (V:Hp)(B dn:Nat)(D W X:List Nat)(x:Nat):Prop where
 r:∃ w r,V[x]?=some (expO ((D.length:Int)+1) w r)/\V[w]?=some (.list (iz W))/\V[r]?=some (.list (iz X))/\(w < B∨B+14<=w)/\(r < B∨B+14<=r)/\w≠dn/\r≠dn
 o:x < B∨B+14<=x
 n:x≠dn
theorem zeI{S lo:Nat}{nm D:List Nat}{L:Bool->List Ent}(h:zH V B nm (D ++ W ++ R) (((D ++ W).length:Int)+1) N)(hs:zU V S)(ht:zu V lo hi A L)(k:Nat)(ho:allok (D ++ W ++ R))(hW:W∈typed)(hD:EndOK D)(hR:HeadOK R)(hf:(D ++ W ++ R).length < 80000)
  (dS:S+38<=B∨B+14<=S) (dT:hi<=B∨B+14<=lo) (lB:B+13 < V.length) (hN:N+100<=400000) {dn:Nat} (ldn:dn < V.length) (odn:dn < lo∨hi<=dn) {GG:Prop} (zz:∀ V' v,(callN prog (k+9) 56 [.ref (B+4),.ref (A.t false),.ref S] V=some (v,V'))->(zH V' B nm (D ++ outP L W ++ R) (((D ++ outP L W).length:Int)+1) (N+50))->(zu V' lo hi A (bumpP (·+1) L W))->(FR B lo hi V V')->((entE L W=.none/\v=.none)∨(∃ p,entE L W=some p/\∃ x,v=.ref x/\Rec V' B dn D W (outP L W) x))->GG):GG:=by
 cases hE:entE L W with
 | none=>
  refine zgh h hs ht k ho hW hD hR (by lia) hE fun V' q U=>?_
  have e1:outP L W=W:=by unfold outP;rw[hE]
  have e2:bumpP (·+1) L W=L:=by unfold bumpP;rw[hE]
  rw[e1,e2] at zz
  exact zz V' .none q ((h.keep U).wide (by lia)) (ht.keep U) (FR.zT U) (.inl ⟨hE,rfl⟩)
 | some p=>
  obtain⟨b,e⟩:=p
  refine zdw h hs ht k ho hW hD hR (by lia) dS dT lB hN hE fun V' x w r q hb ht' F hx hw hr lx lw lr=>?_
  have e1:outP L W=writtenP e.text W e.ex:=by unfold outP;rw[hE]
  have e2:bumpP (·+1) L W=bump (·+1) b e.key L:=by unfold bumpP;rw[hE]
  rw[e1,e2] at zz
  exact zz V' (.ref x) q hb ht' F (.inr ⟨(b,e),hE,x,rfl,⟨⟨w,r,hx,hw,hr,by first | exact rB dT lB lw | exact rB dT lB lr | lia,by first | exact rB dT lB lr | exact rB dT lB lw | lia,by lia,by lia⟩,by first | exact rB dT lB lx | lia,by lia⟩⟩)
inductive Recs (V:Hp)(B dn:Nat):(Bool->List Ent)->List Nat->List (List Nat)->List Nat->Prop where
 | nil {L:Bool->List Ent} {D:List Nat}:Recs V B dn L D [] []
 | no1 {L:Bool->List Ent} {D w:List Nat}:entE L w=.none->Recs V B dn L D [w] []
 | yes1 {L:Bool->List Ent} {D w:List Nat} {p:Bool×Ent} {x:Nat}:entE L w=some p->Rec V B dn D w (outP L w) x->Recs V B dn L D [w] [x]
 | no {L:Bool->List Ent} {D w b:List Nat} {r:List (List Nat)} {xs:List Nat}:entE L w=.none->Recs V B dn (bumpP (·+1) L w) (D ++ outP L w ++ b) r xs->Recs V B dn L D (w :: b :: r) xs
 | yes {L:Bool->List Ent} {D w b:List Nat} {r:List (List Nat)} {p:Bool×Ent} {x:Nat} {xs:List Nat}:entE L w=some p->Rec V B dn D w (outP L w) x->Recs V B dn (bumpP (·+1) L w) (D ++ outP L w ++ b) r xs->Recs V B dn L D (w :: b :: r) (x :: xs)
theorem Rec.move{D X:List Nat}(h:Rec V B dn D W X x)(f:∀ j o,V[j]?=some o->(j < B∨B+14<=j)->j≠dn->(∀ l,o≠.inst 0 l)->V'[j]?=some o):Rec V' B dn D W X x:=by
 obtain⟨⟨w,r,h1,h2,h3,h4,h5,h7,h8⟩,h6,h9⟩:=h
 exact⟨⟨w,r,f _ _ h1 h6 h9 (by intro l c;cases c),f _ _ h2 h4 h7 (by intro l c;cases c),f _ _ h3 h5 h8 (by intro l c;cases c),h4,h5,h7,h8⟩,h6,h9⟩
theorem Recs.move{L:Bool->List Ent}{D:List Nat}(h:Recs V B dn L D body xs)(f:∀ j o,V[j]?=some o->(j < B∨B+14<=j)->j≠dn->(∀ l,o≠.inst 0 l)->V'[j]?=some o):Recs V' B dn L D body xs:=by
 induction h with
 | nil=>exact .nil
 | no1 e=>exact .no1 e
 | yes1 e r=>exact .yes1 e (r.move f)
 | no e _ ih=>exact .no e ih
 | yes e r _ ih=>exact .yes e (r.move f) ih
theorem Recs.len{L:Bool->List Ent}{D:List Nat}(h:Recs V B dn L D body xs):xs.length=nE L body:=by
 induction h with
 | nil=>rfl
 | no1 e=>simp[nE1,e]
 | yes1 e r=>simp[nE1,e]
 | no e _ ih=>simp[nE2,e,ih]
 | yes e r _ ih=>simp[nE2,e,ih];lia
noncomputable def tyB:List MS:=[.ifs (.cmp (.v 126) [.ne] [.l (.str [])]) [.expr (.f 34 [.v 24,.f 90 [.v 126]])] [],
   .ifs (.cmp (.o .mod (.v 22) (.l (.int 2))) [.eq] [.l (.int 1)]) [.assign (.v 3) (.f 56 [.v 24,.v 2,.v 19]),
    .ifs (.cmp (.v 3) [.isNot] [.l (.none)]) [.expr (.n (.v 124) .append [.v 3])] []] []]
theorem fm2 (i:Nat):((i:Int)).fmod 2=((i % 2:Nat):Int):=by
 rw[Int.fmod_eq_emod_of_nonneg _ (by decide)];lia
noncomputable def FRn (n B lo hi:Nat) (J V:Hp):Prop:=J.length<=V.length/\∀ j,j < n->(j < B∨B+14<=j)->((j < lo∨hi<=j)∨∀ l,J[j]?≠some (.inst 0 l))->V[j]?=J[j]?
theorem FRn.refl (n B lo hi:Nat)(J:Hp):FRn n B lo hi J J:=⟨Nat.le_refl _,fun _ _ _ _=>rfl⟩
theorem FRn.trans {n lo:Nat}(a:FRn n B lo hi J V)(b:FRn n B lo hi V κ):FRn n B lo hi J κ:=
 ⟨Nat.le_trans a.1 b.1,fun j h o c=>by
  have e:=a.2 j h o c
  rw[b.2 j h o (by rw[e];exact c),e]⟩
theorem FR.n {n lo:Nat}(f:FR B lo hi J V)(h:n<=J.length):FRn n B lo hi J V:=⟨f.len,fun j hj=>f.eq j (by lia)⟩
structure ze1 (V:Hp)(B S N lo hi:Nat)(nm T:List Nat)(A:TA)(L:Bool->List Ent)(pc dn:Nat)(all acc:List MV)(m:Loc):Prop where
 b:zH V B nm T ((T.length:Int)+1) N
 s:zU V S
 t:zu V lo hi A L
 p:V[pc]?=some (.list all)
 d:V[dn]?=some (.list acc)
 pd:pc≠dn
 po:pc < B∨B+14<=pc
 do':dn < B∨B+14<=dn
 dl:dn < lo∨hi<=dn
 dS:S+38<=B∨B+14<=S
 dT:hi<=B∨B+14<=lo
 lB:B+13 < V.length
 sd:dn < S∨S+38<=dn
 ok:allok T
 m24:m 24=some (.ref (B+4))
 m2:m 2=some (.ref (A.t false))
 m19:m 19=some (.ref S)
 m124:m 124=some (.ref dn)
section
variable {V:Hp}{B S N lo hi pc dn n0:Nat}{nm T:List Nat}{A:TA}{L:Bool->List Ent}{all acc:List MV}{m:Loc}
theorem zjW (h:ze1 V B S N lo hi nm T A L pc dn all acc m)(k:Nat)(hW:W≠[])(ho:allok W)(hn:W.length<=10)(hN:N+100<=400000)(m':Loc)(m126:m' 126=some (.str W))(m24:m' 24=some (.ref (B+4)))(zz:∀ V',(execs prog (callN prog (k+9)) [.ifs (.cmp (.v 126) [.ne] [.l (.str [])]) [.expr (.f 34 [.v 24,.f 90 [.v 126]])] []] m' V=some (.none,m',V'))->(ze1 V' B S (N+20) lo hi nm (T ++ W) A L pc dn all acc m)->(FR B lo hi V V')->GG):GG:=by
 have q1:=qw (V:=V) (k+8) W (by lia)
 have U1:=Upd.app 0 0 V [za.list (iz W)]
 have n1:=zm V (za.list (iz W))
 have lw:V.length < B∨B+14<=V.length:=by have:=h.lB;lia
 generalize hw:V.length=w at q1 n1 lw
 generalize V ++ [za.list (iz W)]=Vd at q1 U1 n1
 refine (h.b.keep U1).insert (k+4) hW n1 lw (by lia) fun Ve q2 b2 U2=>?_
 have F:FR B lo hi V Ve:=(FR.zT U1).trans (FR.zaH U2)
 have ne:(W == ([]:List Nat))=false:=by cases W with | nil=>exact absurd rfl hW | cons _ _=>rfl
 refine zz Ve ?_ ⟨b2.wide (by lia),h.s.fr F h.dS,(h.t.keep U1).out U2 (by have:=h.dT;lia),F.get h.p h.po (by intro l c;cases c),F.get h.d h.do' (by intro l c;cases c),h.pd,h.po,h.do',h.dl,h.dS,h.dT,by have:=F.len;have:=h.lB;lia,h.sd,zR h.ok ho,h.m24,h.m2,h.m19,h.m124⟩ F
 wp_walk using m126,m24,ne,q1,q2
theorem zja (m':Loc)(i:Nat)(hi:i % 2=0)(call:CallT)(m22:m' 22=some (.int (i:Int)))(V:Hp):
  exec prog call (.ifs (.cmp (.o .mod (.v 22) (.l (.int 2))) [.eq] [.l (.int 1)]) [.assign (.v 3) (.f 56 [.v 24,.v 2,.v 19]),
    .ifs (.cmp (.v 3) [.isNot] [.l (.none)]) [.expr (.n (.v 124) .append [.v 3])] []] []) m' V=some (.none,m',V):=by
 have m1:=yj (i:Int) 2 V (by decide)
 rw[fm2,hi] at m1
 apply ex1
 wp_walk using m22,m1
theorem zgK (h:ze1 V B S N lo hi nm T A L pc dn all acc m)(k i:Nat)(hi2:i % 2=0)(hW:W≠[])(ho:allok W)(hn:W.length<=10)(hN:N+100<=400000)(zz:∀ V',(execs prog (callN prog (k+9)) tyB (upd (upd m 22 (.int (i:Int))) 126 (.str W)) V=some (.none,upd (upd m 22 (.int (i:Int))) 126 (.str W),V'))->(ze1 V' B S (N+20) lo hi nm (T ++ W) A L pc dn all acc (upd (upd m 22 (.int (i:Int))) 126 (.str W)))->(FR B lo hi V V')->GG):GG:=by
 refine zjW h k hW ho hn hN (upd (upd m 22 (.int (i:Int))) 126 (.str W)) rfl h.m24 fun V' q h' F=>?_
 have q2:=zja (upd (upd m 22 (.int (i:Int))) 126 (.str W)) i hi2 (callN prog (k+9)) rfl V'
 refine zz V' ?_ ⟨h'.b,h'.s,h'.t,h'.p,h'.d,h'.pd,h'.po,h'.do',h'.dl,h'.dS,h'.dT,h'.lB,h'.sd,h'.ok,h.m24,h.m2,h.m19,h.m124⟩ F
 unfold tyB
 exact wSt (ex1 q) (wS0 (wSt q2 (wS0 wN)))
theorem zgW (h:ze1 V B S N lo hi nm T A L pc dn all acc m)(k i:Nat)(hi2:i % 2=1)(hW:W∈typed)(hD:EndOK T)(hf:T.length < 70000)(hN:N+200<=400000)(la:acc.length<=1000)(hn0:n0<=V.length)(hdn:n0<=dn)(zz:∀ V' m' new,(execs prog (callN prog (k+9)) tyB (upd (upd m 22 (.int (i:Int))) 126 (.str W)) V=some (.none,m',V'))->(ze1 V' B S (N+100) lo hi nm (T ++ outP L W) A (bumpP (·+1) L W) pc dn all (acc ++ new.map MV.ref) m')->(FRn n0 B lo hi V V')->(∀ j o,V[j]?=some o->(j < B∨B+14<=j)->j≠dn->(∀ l,o≠.inst 0 l)->V'[j]?=some o)->((entE L W=.none/\new=[])∨(∃ p,entE L W=some p/\∃ x,new=[x]/\Rec V' B dn T W (outP L W) x))->GG):GG:=by
 have wl:=zq W hW
 refine zjW h k wl.2 (xD W hW) (by lia) (by lia) (upd (upd m 22 (.int (i:Int))) 126 (.str W)) rfl h.m24 fun Vd q1 h1 F1=>?_
 have ab:=zR h.ok (xD W hW)
 have l1:=h1.lB
 have hb1:=h1.b
 have e0:T ++ W=T ++ W ++ []:=by simp
 rw[e0] at hb1
 have hb1':zH Vd B nm (T ++ W ++ []) (((T ++ W).length:Int)+1) (N+20):=by simpa using hb1
 refine zeI hb1' h1.s h1.t k (by simpa using ab) hW hD jk (by simp;lia) h.dS h.dT l1 (by lia) (zg h1.d) h1.dl fun Ve v q2 b2 t2 F2 hv=>?_
 rw[List.append_nil] at b2
 have b2':zH Ve B nm (T ++ outP L W) (((T ++ outP L W).length:Int)+1) (N+100):=b2.wide (by lia)
 have F12:=F1.trans F2
 have ok2:=zR h.ok (wi h1.t hW).1
 have d2:=F12.get h.d h.do' (by intro l c;cases c)
 have p2:=F12.get h.p h.po (by intro l c;cases c)
 have s2:=h.s.fr F12 h.dS
 have l12:=F12.len
 have m1:=yj (i:Int) 2 Vd (by decide)
 rw[fm2,hi2] at m1
 have st1:exec prog (callN prog (k+9)) (.ifs (.cmp (.v 126) [.ne] [.l (.str [])]) [.expr (.f 34 [.v 24,.f 90 [.v 126]])] []) (upd (upd m 22 (.int (i:Int))) 126 (.str W)) V=some (.none,upd (upd m 22 (.int (i:Int))) 126 (.str W),Vd):=ex1 q1
 rcases hv with⟨eN,rfl⟩ | ⟨p,eP,x,rfl,hx⟩
 ·refine zz Ve (upd (upd (upd m 22 (.int (i:Int))) 126 (.str W)) 3 .none) [] ?_ ⟨b2',s2,t2,p2,by simpa using d2,h.pd,h.po,h.do',h.dl,h.dS,h.dT,by have:=h.lB;lia,h.sd,ok2,h.m24,h.m2,h.m19,h.m124⟩ (F12.n hn0) (fun j o hj ho _ hn=>F12.get hj ho hn) (.inl ⟨eN,rfl⟩)
  unfold tyB
  refine wSt st1 (wS0 ?_)
  have a24:=h.m24;have a2:=h.m2;have a19:=h.m19
  wp_walk using m1,a24,a2,a19,q2,Int.natCast_one
 ·have a24:=h.m24;have a2:=h.m2;have a19:=h.m19;have a124:=h.m124
  have la':acc.length<=1000000:=by lia
  have ndB:dn≠B+4:=by have:=h.do';lia
  have U3:Upd dn (dn+1) Ve (Ve.set dn (.list (acc ++ [.ref x]))):=Upd.set _ _ (by lia)
  have dodB:=h.do';have ddl:=h.dl;have sd:=h.sd
  refine zz (Ve.set dn (.list (acc ++ [.ref x]))) (upd (upd (upd m 22 (.int (i:Int))) 126 (.str W)) 3 (.ref x)) [x] ?_ ⟨b2'.out U3 (by lia),s2.out U3 (by lia),t2.out U3 (by lia),(zb _ (Ne.symm h.pd)).trans p2,get_set _ d2,h.pd,h.po,h.do',h.dl,h.dS,h.dT,by have:=h.lB;simp;lia,h.sd,ok2,h.m24,h.m2,h.m19,h.m124⟩ ?_ ?_ (.inr ⟨p,eP,x,rfl,?_⟩)
  ·unfold tyB
   refine wSt st1 (wS0 ?_)
   wp_walk using m1,a24,a2,a19,a124,q2,d2,Int.natCast_one
  ·refine⟨by simp;lia,fun j hj ho c=>?_⟩
   rw[zb _ (by lia)]
   exact (F12.n hn0).2 j hj ho c
  ·intro j o hj ho hne hn
   rw[zb _ (Ne.symm hne)];exact F12.get hj ho hn
  ·exact hx.move fun j o hj ho hne hn=>by rw[zb _ (Ne.symm hne)];exact hj
noncomputable def enumF (i:Nat) (l:List (List Nat)):List MV:=(l.zipIdx i).map fun (v,i)=>.tup [.int (i:Int),.str v]
theorem jX (i:Nat)(w:List Nat)(l:List (List Nat)):enumF i (w :: l)=.tup [.int (i:Int),.str w] :: enumF (i+1) l:=rfl
theorem zeK (i:Nat):enumF i []=[]:=rfl
end
theorem ty1 {d n:Nat}(h:d+100 * (n+1)<=60000):d < 70000:=by lia
theorem ty2 {n:Nat}(h:N+200 * (n+1)<=300000):N+200<=400000:=by lia
theorem ty3 {n:Nat}(h:a+(n+1)<=900):a<=1000:=by lia
theorem ty4 {n:Nat}(h:N+200 * (n+1)<=300000):N+100<=300000:=by lia
theorem ty5 {d d' n:Nat}(h:d+100 * (n+2)<=60000)(h':d'<=d+9):d'+100 * n<=60000:=by lia
theorem ty6 {n:Nat}(h:N+200 * (n+2)<=300000):N+100+20+200 * n<=300000:=by lia
theorem ty7 {b n:Nat}(h:a+(n+2)<=900)(h':b<=1):a+b+n<=900:=by lia
theorem ty8 {d d' n:Nat}(h:x<=d'+20 * n)(h':d'<=d+9):x<=d+20 * (n+2):=by lia
theorem ty9 {D X b:List Nat}(lx:X.length<=7)(lb:b.length<=2):(D ++ X ++ b).length<=D.length+9:=by rw[List.length_append,List.length_append];lia
theorem zdf {X b:List Nat}(h:b≠[])(hb:∀ c∈b,isAlnumC c=false):EndOK (X ++ b):=fun c A' e=>by
 rcases List.eq_nil_or_concat b with e0 | ⟨b',d,e0⟩
 ·exact absurd e0 h
 ·rw[List.concat_eq_append] at e0
  rw[e0,<- List.append_assoc] at e
  exact hb c (e0 ▸ List.mem_append_right _ (List.append_inj_right' e rfl ▸ .head _))
noncomputable def Mv (B dn:Nat) (V V':Hp):Prop:=∀ j o,V[j]?=some o->(j < B∨B+14<=j)->j≠dn->(∀ l,o≠.inst 0 l)->V'[j]?=some o
noncomputable def TypP (k B S lo hi pc dn n0:Nat) (nm:List Nat) (A:TA) (all:List MV) (body:List (List Nat)):Prop:=∀ (i:Nat) (D:List Nat) (L:Bool->List Ent) (N:Nat) (acc:List MV) (m:Loc) (V:Hp),i % 2=1->ze1 V B S N lo hi nm D A L pc dn all acc m->EndOK D->D.length+100 * body.length<=60000->N+200 * body.length<=300000->acc.length+body.length<=900->n0<=V.length->∀ GG:Prop,
 (∀ V' m' xs N',(forL [(pc,some all)] true [22,126] (execs prog (callN prog (k+9)) tyB) (enumF i body) m V=some (.none,m',V'))->(ze1 V' B S N' lo hi nm (D ++ outB L body) A (LN L body) pc dn all (acc ++ xs.map MV.ref) m')->(N'<=300000)->(Recs V' B dn L D body xs)->(FRn n0 B lo hi V V')->Mv B dn V V'->((D ++ outB L body).length<=D.length+20 * body.length)->GG)->GG
section
variable {k B S lo hi pc dn n0:Nat}{nm:List Nat}{A:TA}{all:List MV}{w b:List Nat}{r:List (List Nat)}
theorem ziB:TypP k B S lo hi pc dn n0 nm A all []:=fun i D L N acc m V _ h _ _ hN _ _ GG zz=>
 zz V m [] N (wF0 (zG h.p)) (by rw[List.map_nil,List.append_nil];exact (List.append_nil D).symm ▸ h) hN .nil (FRn.refl _ _ _ _ _) (fun _ _ hj _ _ _=>hj) (Nat.le_of_eq (congrArg List.length (List.append_nil D)))
theorem ziA (hdn:n0<=dn)(hw:w∈typed):TypP k B S lo hi pc dn n0 nm A all [w]:=fun i D L N acc m V hi2 h hD hl hN ha hn0 GG zz=>
 zgW h k i hi2 hw hD (ty1 (n:=0) hl) (ty2 (n:=0) hN) (ty3 (n:=0) ha) hn0 hdn fun Vd ma new q1 h1 F1 M1 r1=>
  zz Vd ma new (N+100) (wFc (zG h.p) rfl q1 (wFn (wF0 (zG h1.p)))) h1 (ty4 (n:=0) hN) (by
   rcases r1 with⟨e,rfl⟩ | ⟨p,e,x,rfl,hr⟩
   ·exact .no1 e
   ·exact .yes1 e hr) F1 M1 (by
   show (D ++ outP L w).length<=D.length+20
   rw[List.length_append];exact Nat.add_le_add_left (Nat.le_trans (wi h.t hw).2 (by decide)) _)
theorem zhJ (hdn:n0<=dn)(hw:w∈typed)(hb:b∈betw)(ih:TypP k B S lo hi pc dn n0 nm A all r):TypP k B S lo hi pc dn n0 nm A all (w :: b :: r):=fun i D L N acc m V hi2 h hD hl hN ha hn0 GG zz=>by
 have bo:=qW b hb
 refine zgW h k i hi2 hw hD (ty1 hl) (ty2 hN) (ty3 ha) hn0 hdn fun Vd ma new q1 h1 F1 M1 r1=>?_
 have hN2:N+100+100<=400000:=ty2 hN
 refine zgK h1 k (i+1) (by lia) bo.1 bo.2.2.1 (Nat.le_trans bo.2.2.2 (by decide)) hN2 fun Ve q2 h2 F2=>?_
 have l9:(D ++ outP L w ++ b).length<=D.length+9:=ty9 (wi h.t hw).2 bo.2.2.2
 have nw:new.length<=1:=by rcases r1 with⟨_,rfl⟩ | ⟨_,_,_,rfl,_⟩ <;> first | exact Nat.zero_le _ | exact Nat.le_refl _
 refine ih (i+2) (D ++ outP L w ++ b) (bumpP (·+1) L w) (N+100+20) (acc ++ new.map MV.ref) _ Ve (mod2 hi2) h2 (zdf bo.1 bo.2.1) (ty5 hl l9) (ty6 hN) (by rw[List.length_append,List.length_map];exact ty7 ha nw) (Nat.le_trans hn0 (Nat.le_trans F1.1 F2.len)) _ fun V' m' xs N' q3 h3 hN' r3 F3 M3 lt3=>?_
 have M:Mv B dn Vd V':=fun j o hj ho hne hn=>M3 j o (F2.get hj ho hn) ho hne hn
 have e1:D ++ outB L (w :: b :: r)=D ++ outP L w ++ b ++ outB (bumpP (·+1) L w) r:=by
  show D ++ (outP L w ++ b ++ _)=_
  rw[List.append_assoc,List.append_assoc,List.append_assoc]
 refine zz V' m' (new ++ xs) N' (wFc (zG h.p) rfl q1 (wFn (wFc (zG h1.p) rfl q2 (wFn q3)))) ?_ hN' ?_ ((F1.trans (F2.n (Nat.le_trans hn0 F1.1))).trans F3) (fun j o hj ho hne hn=>M j o (M1 j o hj ho hne hn) ho hne hn) ?_
 ·rw[e1,List.map_append,<- List.append_assoc]
  exact h3
 ·rcases r1 with⟨e,rfl⟩ | ⟨p,e,x,rfl,hr⟩
  ·exact .no e r3
  ·exact .yes e (hr.move M) r3
 ·rw[e1];exact ty8 lt3 l9
theorem zdd (hdn:n0<=dn)(hA:Alt body):TypP k B S lo hi pc dn n0 nm A all body:=
 @Alt.rec (fun body _=>TypP k B S lo hi pc dn n0 nm A all body) ziB (fun hw=>ziA hdn hw) (fun hw hb _ ih=>zhJ hdn hw hb ih) body hA
end
noncomputable def updU (n:Nat->Nat) (key:List Nat) (e:Ent):Ent:=if e.key=key then { e with used:=n e.used } else e
theorem zfG (n:Nat->Nat)(key:List Nat)(e:Ent):(updU n key e).key=e.key:=by unfold updU;split <;> rfl
theorem zdo (n:Nat->Nat)(key:List Nat)(e:Ent):(updU n key e).ex=e.ex:=by unfold updU;split <;> rfl
theorem zel (n:Nat->Nat)(key:List Nat)(e:Ent):(updU n key e).text=e.text:=by unfold updU;split <;> rfl
theorem jM (n:Nat->Nat)(b:Bool)(key:List Nat)(L:Bool->List Ent)(b':Bool):bump n b key L b'=if b'=b then (L b).map (updU n key) else L b':=rfl
theorem zde (n:Nat->Nat)(key W:List Nat)(L:List Ent):fnd (L.map (updU n key)) W=(fnd L W).map (updU n key):=by
 unfold fnd
 rw[List.find?_map]
 congr 1
 have:((fun e:Ent=>e.key == W) ∘ updU n key)=fun e=>e.key == W:=by
  funext e
  simp only[Function.comp,zfG]
 rw[this]
theorem zfv (n:Nat->Nat)(key W:List Nat)(L:List Ent):ownE (L.map (updU n key)) W=(ownE L W).map (updU n key):=by
 unfold ownE
 rw[zde,zde]
 cases fnd L W with
 | some e=>rfl
 | none=>
  cases fnd L (lower W) with
  | none=>rfl
  | some e=>
   simp only[Option.map_none,Option.map_some,zdo]
   split <;> rfl
theorem zac (n:Nat->Nat)(b:Bool)(key:List Nat)(L:Bool->List Ent)(W:List Nat):entE (bump n b key L) W=(entE L W).map fun p=>(p.1,if p.1=b then updU n key p.2 else p.2):=by
 have h:∀ b',ownE (bump n b key L b') W=(ownE (L b') W).map fun e=>if b'=b then updU n key e else e:=by
  intro b'
  rw[jM]
  by_cases c:b'=b
  ·subst c
   rw[if_pos rfl,zfv]
   simp
  ·rw[if_neg c]
   simp[c]
 unfold entE
 rw[h false,h true]
 cases ownE (L false) W with
 | some e=>simp
 | none=>
  cases ownE (L true) W with
  | none=>rfl
  | some e=>simp
theorem jd {n:Nat->Nat}{b:Bool}{L:Bool->List Ent}(h:entE L W=some (b,e)):entE (bump n b e.key L) W=some (b,{ e with used:=n e.used }):=by
 rw[zac,h]
 simp[updU]
theorem zds (b:Bool)(key:List Nat)(L:Bool->List Ent):bump (· - 1) b key (bump (·+1) b key L)=L:=by
 funext b'
 rw[jM]
 by_cases c:b'=b
 ·subst c
  rw[if_pos rfl,jM,if_pos rfl,List.map_map]
  conv=>rhs;rw[<- List.map_id (L b')]
  apply List.map_congr_left
  intro e _
  simp only[Function.comp,id]
  unfold updU
  by_cases k:e.key=key
  ·subst k;simp
  ·simp[k]
 ·rw[if_neg c,jM,if_neg c]
noncomputable def shE (o:Option (Bool×Ent)):Option (List Nat×Bool):=o.map fun p=>(p.2.text,p.2.ex)
noncomputable def kE (L L':Bool->List Ent):Prop:=∀ W,shE (entE L W)=shE (entE L' W)
theorem wU (n:Nat->Nat)(L:Bool->List Ent)(W:List Nat):kE L (bumpP n L W):=by
 intro Jja
 unfold bumpP
 split
 ·rename_i b e h
  rw[zac]
  cases entE L Jja with
  | none=>rfl
  | some p=>
   obtain⟨b',e'⟩:=p
   simp only[shE,Option.map_some]
   split
   ·rw[zel,zdo]
   ·rfl
 ·rfl
theorem kE.trans {L L'':Bool->List Ent}(a:kE L L')(b:kE L' L''):kE L L'':=fun W=>(a W).trans (b W)
theorem xm {L:Bool->List Ent}(h:kE L L')(W:List Nat):outP L W=outP L' W/\(entE L W).isSome=(entE L' W).isSome:=by
 have:=h W
 unfold outP
 cases e1:entE L W with
 | none=>
  rw[e1] at this
  cases e2:entE L' W with
  | none=>exact⟨rfl,rfl⟩
  | some p=>rw[e2] at this;cases this
 | some p=>
  rw[e1] at this
  cases e2:entE L' W with
  | none=>rw[e2] at this;cases this
  | some q=>
   rw[e2] at this
   obtain⟨b,e⟩:=p
   obtain⟨b',e'⟩:=q
   simp only[shE,Option.map_some,Option.some.injEq,Prod.mk.injEq] at this
   exact⟨by simp only;rw[this.1,this.2],rfl⟩
noncomputable def enumO (o:Option za) (i:Nat) (J:Hp):Option ItT:=qL o fun l=>some (l.zipIdx.map fun p=>.tup [.int (p.2:Int),p.1],[(i,some l)],J)
theorem zgN (i:Nat)(J:Hp):iterOf .enum [.ref i] J=enumO J[i]? i J:=rfl
theorem zhc (l:List (List Nat))(i:Nat)(J:Hp):enumO (some (.list (l.map .str))) i J=some (enumF 0 l,[(i,some (l.map .str))],J):=by
 have e:(l.map MV.str).zipIdx.map (fun p:MV×Nat=>MV.tup [.int (p.2:Int),p.1])=enumF 0 l:=by
  unfold enumF
  rw[List.zipIdx_map,List.map_map];rfl
 exact congrArg (fun x=>some (x,[(i,some (l.map MV.str))],J)) e
theorem zfh{S lo:Nat}{L:Bool->List Ent}{pre:List Nat}(k:Nat)(hs:zU V S)(ht:zu V lo hi A L)(hp:V[pc]?=some (.list ((pre :: body).map .str)))(hpre:pre∈pres)(hA:Alt body)(hb:body.length<=20)(lS:S+38<=V.length)(lT:hi<=V.length)(zz:∀ V' dn xs N',(callN prog (k+10) 97 [.ref pc,.ref (A.t false),.ref S] V=some (.tup [.ref (V.length+4),.ref dn],V'))->(zH V' V.length [97] (pre ++ outB L body) (((pre ++ outB L body).length:Int)+1) N')->(N'<=300000)->(zu V' lo hi A (LN L body))->(zU V' S)->(V'[dn]?=some (.list (xs.map MV.ref)))->(Recs V' V.length dn L pre body xs)->(FT lo hi V V')->((pre ++ outB L body).length<=1000)->(V.length+14<=dn)->(allok (pre ++ outB L body))->(xs.length<=100)->GG):GG:=by
 have po:=wu pre hpre
 refine jA (k+4) 97 (upd (upd (upd e0 19 (.ref S)) 2 (.ref (A.t false))) 123 (.ref pc)) V fun Vd q1 b1 U1 l1=>?_
 have U2:=U1.trans (Upd.app 0 0 Vd [za.list []])
 have b2:=b1.keep (Upd.app 0 0 Vd [za.list []])
 have n2:=zm Vd (za.list [])
 have l2:(Vd ++ [za.list []]).length=V.length+15:=by simp[l1]
 have lp:=zg hp
 have p2:=U2.keep hp
 have ldn:Vd.length=V.length+14:=l1
 have T2:ze1 (Vd ++ [za.list []]) V.length S 8 lo hi [97] [] A L pc Vd.length ((pre :: body).map MV.str) [] (upd (upd (upd (upd (upd e0 19 (.ref S)) 2 (.ref (A.t false))) 123 (.ref pc)) 24 (.ref (V.length+4))) 124 (.ref Vd.length)):=
  ⟨b2,hs.keep U2,ht.keep U2,p2,n2,by lia,by lia,by lia,by lia,by lia,by lia,by lia,by lia,(by intro c hc;cases hc),rfl,rfl,rfl,rfl⟩
 obtain⟨Vf,me,N3,q3,T3,F3,hN3⟩:∃ Vf me N3,execs prog (callN prog (k+9)) tyB (upd (upd (upd (upd (upd (upd (upd e0 19 (.ref S)) 2 (.ref (A.t false))) 123 (.ref pc)) 24 (.ref (V.length+4))) 124 (.ref Vd.length)) 22 (.int 0)) 126 (.str pre)) (Vd ++ [za.list []])=some (.none,me,Vf)/\ze1 Vf V.length S N3 lo hi [97] pre A L pc Vd.length ((pre :: body).map MV.str) [] me/\FR V.length lo hi (Vd ++ [za.list []]) Vf/\N3<=100:=by
  by_cases c:pre=[]
  ·subst c
   refine⟨_,upd (upd (upd (upd (upd (upd (upd e0 19 (.ref S)) 2 (.ref (A.t false))) 123 (.ref pc)) 24 (.ref (V.length+4))) 124 (.ref Vd.length)) 22 (.int 0)) 126 (.str []),8,?_,⟨T2.b,T2.s,T2.t,T2.p,T2.d,T2.pd,T2.po,T2.do',T2.dl,T2.dS,T2.dT,T2.lB,T2.sd,T2.ok,rfl,rfl,rfl,rfl⟩,FR.refl _ _ _ _,by lia⟩
   have q2:=zja (upd (upd (upd (upd (upd (upd (upd e0 19 (.ref S)) 2 (.ref (A.t false))) 123 (.ref pc)) 24 (.ref (V.length+4))) 124 (.ref Vd.length)) 22 (.int 0)) 126 (.str [])) 0 rfl (callN prog (k+9)) rfl (Vd ++ [za.list []])
   unfold tyB
   rw[yQ,zmg]
   wp_walk using q2,beq_self_eq_true,Bool.not_true,Bool.false_eq_true
  ·refine zgK T2 k 0 rfl c po.2.1 (by lia) (by lia) fun V' q h' F=>?_
   exact⟨V',_,_,q,by simpa using h',F,by lia⟩
 refine zdd (k:=k) (n0:=V.length) (by lia) hA 1 pre L N3 [] me Vf rfl T3 (zaw (D:=[]) po.1 zaK) (by lia) (by lia) (Nat.le_trans (Nat.le_of_eq (Nat.zero_add _)) (Nat.le_trans hb (by decide))) (by have:=F3.len;lia) _ fun V' m' xs N' q4 T4 hN' r4 F4 M4 lt4=>?_
 refine zz V' Vd.length xs N' ?_ T4.b hN' T4.t T4.s (by simpa using T4.d) r4 ?_ (by lia) (by lia) T4.ok ?_
 ·have q5:forL [(pc,some ((pre :: body).map MV.str))] true [22,126] (execs prog (callN prog (k+9)) tyB) (enumF 0 (pre :: body)) (upd (upd (upd (upd (upd e0 19 (.ref S)) 2 (.ref (A.t false))) 123 (.ref pc)) 24 (.ref (V.length+4))) 124 (.ref Vd.length)) (Vd ++ [za.list []])=some (.none,m',V'):=by
   rw[jX,zbj,zaW,p2,zbo]
   simp -dsimp -implicitDefEqProofs only[if_true,zlU,zlo,zly,yp]
   rw[show ((0:Nat):Int)=0 from rfl,q3]
   simp -dsimp -implicitDefEqProofs only[yp,jB]
   exact q4
  have q1':evalE prog (callN prog (k+9)) (.m (.c 10 []) 125 [.l (.str [97])]) (upd (upd (upd e0 19 (.ref S)) 2 (.ref (A.t false))) 123 (.ref pc)) V=some (.ref (V.length+4),Vd):=q1
  have g24:=T4.m24;have g124:=T4.m124
  unfold tyB at q5
  wp_walk using q1',zgN,p2,zhc,q5,g24,g124
 ·refine⟨by have:=F4.1;have:=F3.len;lia,fun j hj c=>?_⟩
  have e2:=U2.2 j hj (.inr (Nat.zero_le _))
  have e3:=F3.eq j (by lia) (.inl hj) (by rw[e2];exact c)
  rw[F4.2 j hj (.inl hj) (by rw[e3,e2];exact c),e3,e2]
 ·have:=r4.len
  have h2:∀ (body:List (List Nat)) (L:Bool->List Ent),Alt body->nE L body<=body.length:=by
   intro body L hA
   induction hA generalizing L with
   | nil=>simp[nE]
   | one _=>simp[nE];split <;> lia
   | two _ _ _ ih => 
    rename_i w b r _ _ _
    have:=ih (bumpP (·+1) L w)
    simp only[nE,List.length_cons]
    split <;> lia
  have:=h2 body L hA
  lia
theorem zce{t:Bool}{b:Loc->Hp->Res}(q:List MV)(ma:Loc)(J1:Hp):∀ (l:List MV) (m:Loc) (J:Hp),forL chk t tgt b l m J=some (.none,ma,J1)->forL chk t tgt b (l ++ q) m J=forL chk t tgt b q ma J1
 | []=>fun m J h=>iG h fun _ h=>by cases h;rfl
 | v :: r=>fun m J h=>iG h fun hc h=>bG h fun m2 e1 h=>bG h fun p e2 h=>by
  refine (if_pos hc).trans ?_
  rw[e1,Option.bind_some,e2,Option.bind_some]
  obtain⟨o,m3,J3⟩:=p
  cases o with
  | none=>exact zce q ma J1 r m3 J3 h
  | some v=>cases (show some (some v,m3,J3)=some ((.none:Option MV),ma,J1) from h)
noncomputable def bkB:List MS:=[.ifs (.cmp (.f 57 [.v 24,.v 2,.v 3]) [.isNot] [.l (.bool true)]) [.ret (.l (.bool false))] []]
theorem FR.zmP {lo:Nat}{L:Bool->List Ent}{D:List Nat}(f:FR B lo hi V V')(h:Recs V B dn L D body xs):Recs V' B dn L D body xs:=
 h.move fun _ _ hj ho _ hn=>f.get hj ho hn
theorem zey{lo:Nat}{nm D w:List Nat}{L:Bool->List Ent}{rv:Nat}(k:Nat)(hw:w∈typed)(hE:entE L w=some q)(hx:Rec V B dn D w (outP L w) x)(hb:zH V B nm (D ++ outP L w ++ R) p N)(ht:zu V lo hi A (bumpP (·+1) L w))(hrv:V[rv]?=some (.list all))(rvo:rv < B∨B+14<=rv)
  (m:Loc) (m24:m 24=some (.ref (B+4))) (m2:m 2=some (.ref (A.t false))) (hN:N+100<=400000) (lB:B+13 < V.length) (dT:hi<=B∨B+14<=lo) {GG:Prop} (zz:∀ V' p',(forL [(rv,some all)] false [3] (execs prog (callN prog (k+9)) bkB) [.ref x] m V=some (.none,upd m 3 (.ref x),V'))->(zH V' B nm (D ++ w ++ R) p' (N+50))->(zu V' lo hi A L)->(FR B lo hi V V')->GG):GG:=by
 obtain⟨b,e⟩:=q
 have e2:bumpP (·+1) L w=bump (·+1) b e.key L:=by unfold bumpP;rw[hE]
 rw[e2] at ht
 have hE2:=jd (n:=(·+1)) hE
 obtain⟨⟨wr,r,h1,h2,h3,h4,h5,_,_⟩,h6,_⟩:=hx
 have e1:outP L w=writtenP e.text w e.ex:=by unfold outP;rw[hE]
 have lX:(outP L w).length<=40:=by
  rw[e1]
  have hk:=(ht.keys b _ (yw hE2)).2
  exact Nat.le_trans (yN _ _ _) (by have:=zX _ hk;simp only at this;lia)
 refine zfT hb ht k hw lX lB dT hN hE2 (by simp) h1 h2 h3 h6 h4 fun V' p' q1 b1 t1 F1=>?_
 simp only at t1
 rw[zds] at t1
 refine zz V' p' ?_ b1 t1 F1
 have hrv1:=F1.get hrv rvo (by intro l c;cases c)
 unfold bkB
 wp_walk using hrv,m24,m2,q1,hrv1,Bool.false_eq_true
theorem zd5 {L:Bool->List Ent}{w:List Nat}(h:entE L w=.none):outP L w=w:=by unfold outP;rw[h]
theorem j7 {L:Bool->List Ent}{w:List Nat}{n:Nat->Nat}(h:entE L w=.none):bumpP n L w=L:=by unfold bumpP;rw[h]
theorem bkN {n:Nat}(h:N+100 * (n+2)<=c):N+100 * n<=c:=by lia
theorem bk1 {n:Nat}(h:N+100 * (n+2)<=350000)(h':N'<=N+50 * n):N'+100<=400000:=by lia
theorem bk2 {n:Nat}(h':N'<=N+50 * n):N'+50<=N+50 * (n+2):=by lia
theorem bk3 {n:Nat}(h':N'<=N+50 * n):N'<=N+50 * (n+2):=by lia
noncomputable def BackP (k B lo hi rv:Nat) (nm:List Nat) (A:TA) (all:List MV) (V:Hp) (L:Bool->List Ent) (D:List Nat) (body:List (List Nat)) (xs:List Nat):Prop:=
 ∀ (N:Nat) (p:Int) (m:Loc),Alt body->zH V B nm (D ++ outB L body) p N->zu V lo hi A (LN L body)->m 24=some (.ref (B+4))->m 2=some (.ref (A.t false))->N+100 * body.length<=350000->∀ GG:Prop,(∀ V' m' p' N',(forL [(rv,some all)] false [3] (execs prog (callN prog (k+9)) bkB) (xs.reverse.map MV.ref) m V=some (.none,m',V'))->(zH V' B nm (D ++ body.flatten) p' N')->(N'<=N+50 * body.length)->(zu V' lo hi A L)->(FR B lo hi V V')->(∀ y,y≠3->m' y=m y)->GG)->GG
section
variable {k B lo hi dn rv:Nat}{nm:List Nat}{A:TA}{all:List MV}{V:Hp}{L:Bool->List Ent}{D w b:List Nat}{r:List (List Nat)}{xs:List Nat}
theorem zhX (e:entE L w=.none)(ih:BackP k B lo hi rv nm A all V (bumpP (·+1) L w) (D ++ outP L w ++ b) r xs):BackP k B lo hi rv nm A all V L D (w :: b :: r) xs:=fun N p m hA hb ht m24 m2 hN GG zz=>by
 unfold BackP at ih
 rw[j7 e,zd5 e] at ih
 have hb:zH V B nm (D ++ (outP L w ++ b ++ outB (bumpP (·+1) L w) r)) p N:=hb
 have ht:zu V lo hi A (LN (bumpP (·+1) L w) r):=ht
 rw[j7 e,zd5 e,<- List.append_assoc,<- List.append_assoc] at hb
 rw[j7 e] at ht
 refine ih N p m (by cases hA;assumption) hb ht m24 m2 (bkN hN) _ fun V' m' p' N' q1 b1 n1 t1 F1 g=>zz V' m' p' N' q1 ?_ (bk3 n1) t1 F1 g
 rw[List.append_assoc,List.append_assoc] at b1
 exact b1
theorem zfd (hrv:V[rv]?=some (.list all))(dT:hi<=B∨B+14<=lo)(rvo:rv < B∨B+14<=rv)(lB:B+13 < V.length)(e:entE L w=some q)(hx:Rec V B dn D w (outP L w) x)(ih:BackP k B lo hi rv nm A all V (bumpP (·+1) L w) (D ++ outP L w ++ b) r xs):BackP k B lo hi rv nm A all V L D (w :: b :: r) (x :: xs):=fun N p m hA hb ht m24 m2 hN GG zz=>by
 have hb:zH V B nm (D ++ (outP L w ++ b ++ outB (bumpP (·+1) L w) r)) p N:=hb
 rw[<- List.append_assoc,<- List.append_assoc] at hb
 refine ih N p m (by cases hA;assumption) hb ht m24 m2 (bkN hN) _ fun Vd ma pe N1 q1 b1 n1 t1 F1 g=>?_
 rw[List.append_assoc (bs:=b)] at b1
 refine zey k (by cases hA;assumption) e (hx.move fun _ _ hj ho _ hn=>F1.get hj ho hn) b1 t1 (F1.get hrv rvo (fun _=>nofun)) rvo ma ((g 24 (by decide)).trans m24) ((g 2 (by decide)).trans m2) (bk1 hN n1) (Nat.lt_of_lt_of_le lB F1.len) dT fun V' p' q2 b2 t2 F2=>?_
 refine zz V' (upd ma 3 (.ref x)) p' (N1+50) ?_ (by rw[List.append_assoc] at b2;exact b2) (bk2 n1) t2 (F1.trans F2) fun y hy=>(if_neg hy).trans (g y hy)
 rw[List.reverse_cons,List.map_append,zce _ _ _ _ _ _ q1]
 exact q2
theorem zfN (hrv:V[rv]?=some (.list all))(dT:hi<=B∨B+14<=lo)(rvo:rv < B∨B+14<=rv)(lB:B+13 < V.length)(hr:Recs V B dn L D body xs):BackP k B lo hi rv nm A all V L D body xs:=
 @Recs.rec V B dn (fun L D body xs _=>BackP k B lo hi rv nm A all V L D body xs)
  (fun N p m hA hb ht _ _ _ GG zz=>zz V m p N (wF0 (zG hrv)) hb (Nat.le_refl _) ht (FR.refl _ _ _ _) fun _ _=>rfl)
  (fun e N p m hA hb ht _ _ _ GG zz=>zz V m p N (wF0 (zG hrv)) (by rw[List.flatten_singleton];exact zd5 e ▸ hb) (Nat.le_add_right _ _) (j7 e ▸ ht) (FR.refl _ _ _ _) fun _ _=>rfl)
  (fun e hx N p m hA hb ht m24 m2 hN GG zz=>zey (R:=[]) k (by cases hA;assumption) e hx (by rw[List.append_nil];exact hb) ht hrv rvo m m24 m2 (Nat.le_trans hN (by decide)) lB dT fun V' p' q1 b1 t1 F1=>
   zz V' _ p' _ q1 (by rw[List.append_nil] at b1;rw[List.flatten_singleton];exact b1) (Nat.le_refl _) t1 F1 fun y hy=>if_neg hy)
  (fun e _ ih=>zhX e ih) (fun e hx _ ih=>zfd hrv dT rvo lB e hx ih) L D body xs hr
end
theorem ziI{lo:Nat}{nm pre text:List Nat}{L:Bool->List Ent}(k:Nat)(hA:Alt body)(hr:Recs V B dn L pre body xs)(hb:zH V B nm (pre ++ outB L body) p N)(ht:zu V lo hi A (LN L body))(hd:V[dn]?=some (.list (xs.map MV.ref)))(dno:dn < B∨B+14<=dn)(hxs:xs.length<=100)
  (hbl:body.length<=20) (hN:N<=300000) (lB:B+13 < V.length) (dT:hi<=B∨B+14<=lo) (hok:allok (pre ++ body.flatten)) (hlen:(pre ++ body.flatten).length<=1000) (htext:text=pre ++ body.flatten) {GG:Prop} (zz:∀ V',(callN prog (k+10) 98 [.ref (B+4),.ref (A.t false),.ref dn,.str text] V=some (.bool true,V'))->(zu V' lo hi A L)->(FR B lo hi V V')->GG):GG:=by
 have U1:=Upd.app 0 0 V [za.list (xs.map MV.ref).reverse]
 have n1:=zm V (za.list (xs.map MV.ref).reverse)
 have F1:FR B lo hi V (V ++ [za.list (xs.map MV.ref).reverse]):=FR.zT U1
 refine zfN (k:=k) n1 dT (by lia) (Nat.lt_of_lt_of_le lB U1.1) (F1.zmP hr) N p (upd (upd (upd (upd e0 43 (.str text)) 124 (.ref dn)) 2 (.ref (A.t false))) 24 (.ref (B+4))) hA (hb.keep U1) (ht.keep U1) rfl rfl (by lia) _ fun Ve mc pf N2 q2 b2 l2 t2 F2 g=>?_
 refine zbs b2 (fun c hc=>yc (hok c hc)) (by lia) (k+6) fun Vf q3 U3=>?_
 refine zz Vf ?_ (t2.keep U3) ((F1.trans F2).trans (FR.zT U3))
 have lx:(xs.map MV.ref).length<=1000000:=by simp;lia
 have g43:mc 43=some (.str text):=g 43 (by decide)
 have g24:mc 24=some (.ref (B+4)):=g 24 (by decide)
 have er:xs.reverse.map MV.ref=(xs.map MV.ref).reverse:=List.map_reverse
 rw[er] at q2
 unfold bkB at q2
 have ee:(pre ++ body.flatten == text)=true:=by rw[htext];simp
 wp_walk using hd,n1,q2,g24,g43,q3,ee
noncomputable def condR:ME:=.cmp (.a (.v 24) 45) [.lt] [.o .sub (.a (.v 24) 33) (.v 80)]
noncomputable def bodyR:List MS:=[.assign (.tup [22,77]) (.f 53 [.v 24,.v 19,.a (.v 24) 45,.l (.int 1)]),
   .ifs (.or [.not (.v 77),.cmp (.v 22) [.gt] [.o .sub (.a (.v 24) 33) (.v 80)],.cmp (.v 22) [.le] [.a (.v 24) 45]]) [.ret (.v 20)] [],
   .assign (.a (.v 24) 45) (.v 22),
   .ifs (.cmp (.f 56 [.v 24,.v 2,.v 19]) [.isNot] [.l (.none)]) [.assign (.v 20) (.o .add (.v 20) (.l (.int 1)))] []]
structure zj4 (B S:Nat)(A:TA)(c:Nat)(m:Loc):Prop where
 m24:m 24=some (.ref (B+4))
 m2:m 2=some (.ref (A.t false))
 m19:m 19=some (.ref S)
 m80:m 80=some (.int 0)
 m20:m 20=some (.int (c:Int))
section
variable {V:Hp}{B S N lo hi:Nat}{nm P M w R:List Nat}{A:TA}{L:Bool->List Ent}{m:Loc}{c:Nat}
theorem zbe(h:zH V B nm T p N)(call:CallT)(hm:zj4 B S A c m):evalE prog call condR m V=some (.bool (decide (p < (T.length:Int)+1)),V):=by
 have h1:=h.pt;have h2:=h.zv
 have a24:=hm.m24;have a80:=hm.m80
 unfold condR
 wp_walk using a24,a80,h1,h2,Int.sub_zero
theorem zho (h:zH V B nm (P ++ M ++ w ++ R) ((P.length:Int)+1) N)(hs:zU V S)(ht:zu V lo hi A L)(k:Nat)(ho:allok (P ++ M ++ w ++ R))(hw:w∈typed)(hM:∀ c∈M,isAlnumC c=false)(hD:EndOK (P ++ M))(hR:HeadOK R)(hf:(P ++ M ++ w ++ R).length < 80000)
  (dS:S+38<=B∨B+14<=S) (dT:hi<=B∨B+14<=lo) (lB:B+13 < V.length) (hN:N+100<=400000) (hm:zj4 B S A c m) {GG:Prop} (zz:∀ V' m',(execs prog (callN prog (k+9)) bodyR m V=some (.none,m',V'))->(zH V' B nm (P ++ M ++ outP L w ++ R) (((P ++ M ++ outP L w).length:Int)+1) (N+50))->(zu V' lo hi A (bumpP (·+1) L w))->(FR B lo hi V V')->(zj4 B S A (c+if (entE L w).isSome then 1 else 0) m')->GG):GG:=by
 have wl:=zq w hw
 have wl0:w.length≠0:=fun z=>wl.2 (List.length_eq_zero_iff.mp z)
 have q1:=zgI h hs ho (k+2) P M w R rfl hM (yE w hw) wl.2 hR (by lia)
 have h1:=h.pt;have h2:=h.zv
 refine h.zfs (((P ++ M ++ w).length:Int)+1) fun Vd q2 b1 U1=>?_
 rw[zW] at q2
 have F1:FR B lo hi V Vd:=FR.zaH U1
 refine zeI b1 (hs.fr F1 dS) (ht.out U1 dT.symm) k ho hw hD hR hf dS dT (by have:=U1.1;lia) hN (dn:=B) (by have:=U1.1;lia) (by lia) fun Ve v q3 b2 t2 F2 hv=>?_
 have a24:=hm.m24;have a2:=hm.m2;have a19:=hm.m19;have a80:=hm.m80;have a20:=hm.m20
 have lp:(P ++ M ++ w).length<=(P ++ M ++ w ++ R).length:=by simp
 have lq:P.length < (P ++ M ++ w).length:=by simp;lia
 generalize (P ++ M ++ w).length=y at *
 generalize (P ++ M ++ w ++ R).length=z at *
 rcases hv with⟨e,rfl⟩ | ⟨p,e,x,rfl,_⟩
 ·refine zz Ve (upd (upd m 22 (.int ((y:Int)+1))) 77 (.bool true)) ?_ b2 t2 (F1.trans F2) ?_
  ·unfold bodyR
   wp_walk using a24,a19,a2,a80,h1,h2,q1,q2,q3,Int.sub_zero,Bool.false_eq_true
  ·rw[e]
   exact⟨a24,a2,a19,a80,a20⟩
 ·refine zz Ve (upd (upd (upd m 22 (.int ((y:Int)+1))) 77 (.bool true)) 20 (.int ((c:Int)+1))) ?_ b2 t2 (F1.trans F2) ?_
  ·unfold bodyR
   wp_walk using a24,a19,a2,a80,a20,h1,h2,q1,q2,q3,Int.sub_zero,Bool.false_eq_true
  ·rw[e]
   exact⟨a24,a2,a19,a80,rfl⟩
theorem zkS (h:zH V B nm (P ++ M) ((P.length:Int)+1) N)(hs:zU V S)(k:Nat)(ho:allok (P ++ M))(hM:∀ c∈M,isAlnumC c=false)(hf:(P ++ M).length < 80000)(hm:zj4 B S A c m)(fuel:Nat)(zz:∀ o m',(whileL (evalE prog (callN prog (k+9)) condR) (execs prog (callN prog (k+9)) bodyR) (fuel+1) m V=some (o,m',V))->((o=.none/\m' 20=some (.int (c:Int)))∨o=some (.int (c:Int)))->GG):GG:=by
 have cr:=zbe h (callN prog (k+9)) hm
 by_cases e:M=[]
 ·subst e
  refine zz .none m ?_ (.inl ⟨rfl,hm.m20⟩)
  have:decide ((P.length:Int)+1 < ((P ++ []).length:Int)+1)=false:=by simp
  rw[this] at cr
  exact wWc cr (csF rfl rfl)
 ·have ml:M.length≠0:=fun z=>e (List.length_eq_zero_iff.mp z)
  have q1:=zlp h hs ho (k+2) P M rfl hM (by lia)
  have h1:=h.pt;have h2:=h.zv
  have a24:=hm.m24;have a2:=hm.m2;have a19:=hm.m19;have a80:=hm.m80;have a20:=hm.m20
  have:decide ((P.length:Int)+1 < ((P ++ M).length:Int)+1)=true:=by simp;lia
  rw[this] at cr
  have bq:execs prog (callN prog (k+9)) bodyR m V=some (some (.int (c:Int)),upd (upd m 22 (.int (((P ++ M).length:Int)+1))) 77 (.bool false),V):=by
   generalize (P ++ M).length=z at *
   unfold bodyR
   wp_walk using a24,a19,a2,a80,a20,h1,h2,q1,Bool.false_eq_true
  refine zz (some (.int (c:Int))) (upd (upd m 22 (.int (((P ++ M).length:Int)+1))) 77 (.bool false)) ?_ (.inr rfl)
  exact wWc cr (csT rfl (wWs bq wW1))
end
theorem condT {P M w:List Nat}(h:w≠[]):decide ((P.length:Int)+1 < ((P ++ M ++ w ++ R).length:Int)+1)=true:=by
 have:=List.length_pos_iff.mpr h
 rw[List.length_append,List.length_append,List.length_append]
 exact decide_eq_true (by lia)
theorem zaG {a b c x:List Nat}(h:allok (a ++ b ++ c))(hx:allok x):allok (a ++ x ++ c):=
 zR (zR (fun y hy=>h y (List.mem_append_left _ (List.mem_append_left _ hy))) hx) fun y hy=>h y (List.mem_append_right _ hy)
theorem rgl {a w x b r:List Nat}{n:Nat}(h:(a ++ w ++ (b ++ r)).length+10 * (n+2)<=70000)(hx:x.length<=7):(a ++ x ++ b ++ r).length+10 * n<=70000:=by
 rw[List.length_append,List.length_append,List.length_append] at h ⊢
 lia
theorem rg1 {a w x:List Nat}{n:Nat}(h:(a ++ w ++ []).length+n<=70000)(hx:x.length<=7):(a ++ x ++ []).length < 80000:=by
 rw[List.append_nil,List.length_append] at h ⊢
 lia
theorem apg (D X b Y:List Nat):D ++ (X ++ b ++ Y)=D ++ X ++ b ++ Y:=by rw[List.append_assoc,List.append_assoc,List.append_assoc]
theorem rg6 {n:Nat}(h:N+60 * (n+1)<=300000):N+100<=400000:=by lia
theorem rg7 {n:Nat}(h:N+60 * (n+2)<=300000):N+50+60 * n<=300000:=by lia
noncomputable def RgO (o:Option MV) (m:Loc) (c:Nat):Prop:=(o=.none/\m 20=some (.int (c:Int)))∨o=some (.int (c:Int))
noncomputable def RgP (k B S lo hi:Nat) (nm:List Nat) (A:TA) (fuel:Nat) (body:List (List Nat)):Prop:=∀ (P M:List Nat) (L:Bool->List Ent) (N c:Nat) (m:Loc) (V:Hp),zH V B nm (P ++ M ++ body.flatten) ((P.length:Int)+1) N->zU V S->zu V lo hi A L->allok (P ++ M ++ body.flatten)->(∀ c∈M,isAlnumC c=false)->(body≠[]->EndOK (P ++ M))->(P ++ M ++ body.flatten).length+10 * body.length<=70000->N+60 * body.length<=300000->B+13 < V.length->zj4 B S A c m->∀ GG:Prop,
 (∀ o m' V' p' N',(whileL (evalE prog (callN prog (k+9)) condR) (execs prog (callN prog (k+9)) bodyR) fuel m V=some (o,m',V'))->RgO o m' (c+nE L body)->(zH V' B nm (P ++ M ++ outB L body) p' N')->(zu V' lo hi A (LN L body))->(FR B lo hi V V')->GG)->GG
section
variable {k B S lo hi:Nat}{nm:List Nat}{A:TA}{w b:List Nat}{r:List (List Nat)}
theorem lt8 {n:Nat}(h:a+n<=70000):a < 80000:=Nat.lt_of_le_of_lt (Nat.le_trans (Nat.le_add_right _ _) h) (by decide)
theorem zkr (f:Nat):RgP k B S lo hi nm A (f+1) []:=fun P M L N c m V hb hs ht ho hM _ hl _ _ hm GG zz=>by
 rw[List.flatten_nil,List.append_nil] at hb ho hl
 exact zkS (A:=A) hb hs k ho hM (lt8 hl) hm f fun o m' q r=>zz o m' V _ N q r ((List.append_nil (P ++ M)).symm ▸ hb) ht (FR.refl _ _ _ _)
theorem zkn (hw:w∈typed)(dS:S+38<=B∨B+14<=S)(dT:hi<=B∨B+14<=lo)(f:Nat):RgP k B S lo hi nm A (f+2) [w]:=fun P M L N c m V hb hs ht ho hM hE hl hN lB hm GG zz=>by
 have e0:P ++ M ++ [w].flatten=P ++ M ++ w ++ []:=(List.append_assoc _ _ _).symm
 rw[e0] at hb ho hl
 have cr:=zbe hb (callN prog (k+9)) hm
 rw[condT (zq w hw).2] at cr
 refine zho hb hs ht k ho hw hM (hE nofun) jk (lt8 hl) dS dT lB (rg6 (n:=0) hN) hm fun Vd ma q1 b1 t1 F1 hm1=>?_
 have lx:=wi ht hw
 refine zkS (A:=A) b1 (hs.fr F1 dS) k (zaG ho lx.1) (fun x hx=>absurd hx List.not_mem_nil) (rg1 hl lx.2) hm1 f fun o m' q r=>zz o m' Vd _ _ (wWc cr (csT rfl (wWs q1 (wWn q)))) r (by rw[List.append_nil] at b1;exact b1) t1 F1
theorem zjd (hw:w∈typed)(hb':b∈betw)(dS:S+38<=B∨B+14<=S)(dT:hi<=B∨B+14<=lo){f:Nat}(ih:RgP k B S lo hi nm A f r):RgP k B S lo hi nm A (f+1) (w :: b :: r):=fun P M L N c m V hb hs ht ho hM hE hl hN lB hm GG zz=>by
 have bo:=qW b hb'
 have e0:P ++ M ++ (w :: b :: r).flatten=P ++ M ++ w ++ (b ++ r.flatten):=(List.append_assoc _ _ _).symm
 rw[e0] at hb ho hl
 have cr:=zbe hb (callN prog (k+9)) hm
 rw[condT (zq w hw).2] at cr
 refine zho hb hs ht k ho hw hM (hE nofun) (zcS bo.1 bo.2.1) (lt8 hl) dS dT lB (rg6 hN) hm fun Vd ma q1 b1 t1 F1 hm1=>?_
 have lx:=wi ht hw
 have ho1:=zaG ho lx.1
 rw[<- List.append_assoc] at b1 ho1
 refine ih (P ++ M ++ outP L w) b (bumpP (·+1) L w) (N+50) _ ma Vd b1 (hs.fr F1 dS) t1 ho1 bo.2.1 (fun _=>zdf bo.1 bo.2.1) (rgl hl lx.2) (rg7 hN) (Nat.lt_of_lt_of_le lB F1.len) hm1 _ fun o m' V' p' N' q r' b2 t2 F2=>?_
 refine zz o m' V' p' N' (wWc cr (csT rfl (wWs q1 (wWn q)))) ((Nat.add_assoc c (if (entE L w).isSome then 1 else 0) (nE (bumpP (·+1) L w) r)) ▸ r') ?_ t2 (F1.trans F2)
 rw[show P ++ M ++ outB L (w :: b :: r)=_ from apg (P ++ M) (outP L w) b (outB (bumpP (·+1) L w) r)]
 exact b2
theorem zkK (dS:S+38<=B∨B+14<=S)(dT:hi<=B∨B+14<=lo)(hA:Alt body):∀ f,body.length < f->RgP k B S lo hi nm A (f+1) body:=
 @Alt.rec (fun body _=>∀ f,body.length < f->RgP k B S lo hi nm A (f+1) body) (fun f _=>zkr f) (fun hw f=>Nat.casesOn f (fun h=>absurd h (Nat.not_lt_zero _)) fun f _=>zkn hw dS dT f)
  (fun hw hb _ ih f=>Nat.casesOn f (fun h=>absurd h (Nat.not_lt_zero _)) fun f h=>zjd hw hb dS dT (ih f (Nat.lt_of_succ_lt (Nat.lt_of_succ_lt_succ h)))) body hA
end
theorem zkm{S lo:Nat}{nm pre:List Nat}{L:Bool->List Ent}(k:Nat)(hA:Alt body)(hpre:pre∈pres)(hb:zH V B nm (pre ++ body.flatten) p N)(hs:zU V S)(ht:zu V lo hi A L)(ho:allok (pre ++ body.flatten))(hbl:body.length<=20)(hl:(pre ++ body.flatten).length<=1000)(hN:N<=100000)(lB:B+13 < V.length)(dS:S+38<=B∨B+14<=S)(dT:hi<=B∨B+14<=lo)(zz:∀ V' p' N',(callN prog (k+10) 58 [.ref (B+4),.ref (A.t false),.ref S,.int 1,.int (((pre ++ body.flatten).length:Int)+1)] V=some (.int (nE L body:Nat),V'))->(zH V' B nm (pre ++ outB L body) p' N')->(zu V' lo hi A (LN L body))->(FR B lo hi V V')->GG):GG:=by
 have po:=wu pre hpre
 have h2:=hb.zv
 refine hb.zfs 1 fun Vd q1 b1 U1=>?_
 rw[zW] at q1
 have F1:FR B lo hi V Vd:=FR.zaH U1
 have R:RgP (k:=k) (S:=S) (lo:=lo) (hi:=hi) B nm A turns body:=by
  have:=zkK (k:=k) (S:=S) (nm:=nm) (A:=A) dS dT hA 99999 (Nat.lt_of_le_of_lt hbl (by decide))
  rw[jV];exact this
 refine R [] pre L N 0 (upd (upd (upd (upd (upd (upd (upd e0 29 (.int (((pre ++ body.flatten).length:Int)+1))) 28 (.int 1)) 19 (.ref S)) 2 (.ref (A.t false))) 24 (.ref (B+4))) 80 (.int 0)) 20 (.int 0)) Vd b1 (hs.fr F1 dS) (ht.out U1 dT.symm) ho po.1 (fun _=>zaw (D:=[]) po.1 zaK) (Nat.le_trans (Nat.add_le_add hl (Nat.mul_le_mul_left 10 hbl)) (by decide)) (Nat.le_trans (Nat.add_le_add hN (Nat.mul_le_mul_left 60 hbl)) (by decide)) (Nat.lt_of_lt_of_le lB U1.1) ⟨rfl,rfl,rfl,rfl,rfl⟩ _ fun o m' V' p' N' q r b2 t2 F2=>?_
 rw[Nat.zero_add] at r
 refine zz V' p' N' ?_ b2 t2 (F1.trans F2)
 unfold condR bodyR at q
 generalize (pre ++ body.flatten).length=z at *
 rcases r with⟨rfl,g20⟩ | rfl
 ·wp_walk using h2,q1,Int.sub_self,q,g20
 ·wp_walk using h2,q1,Int.sub_self,q
noncomputable def DF (dk dl:Nat) (J V:Hp):Prop:=J.length<=V.length/\∀ j,j < J.length->j≠dk->j≠dl->V[j]?=J[j]?
theorem DF.refl (dk dl:Nat)(J:Hp):DF dk dl J J:=⟨Nat.le_refl _,fun _ _ _ _=>rfl⟩
theorem DF.trans(a:DF dk dl J V)(b:DF dk dl V κ):DF dk dl J κ:=⟨Nat.le_trans a.1 b.1,fun j h h1 h2=>(b.2 j (Nat.lt_of_lt_of_le h a.1) h1 h2).trans (a.2 j h h1 h2)⟩
theorem DF.get(f:DF dk dl J V)(h:J[j]?=some o)(h1:j≠dk)(h2:j≠dl):V[j]?=some o:=(f.2 j (zg h) h1 h2).trans h
noncomputable def xC (V:Hp) (dk dl:Nat):Prop:=∃ sv D,jW V dk dl sv D
theorem jf(h:xC V dk dl)(k many:Nat)(h0:0 < many)(h1:many < 1000)(zz:∀ V' n,(n < many)->(callN prog (k+1) 89 [.ref dk,.int (many:Int)] V=some (.int ((n:Nat):Int),V'))->(xC V' dk dl)->(DF dk dl V V')->GG):GG:=by
 obtain⟨sv,D,h⟩:=h
 refine draw h k many h0 h1 fun V' n sv' D' hn q h' l f=>?_
 exact zz V' n hn q ⟨sv',D',h'⟩ ⟨l,f⟩
theorem xC.keep(h:xC V dk dl)(u:Upd 0 0 V V'):xC V' dk dl:=by
 obtain⟨sv,D,h⟩:=h
 exact⟨sv,D,u.keep h.d,u.keep h.l,h.few⟩
theorem DF.zT(u:Upd 0 0 J V):DF dk dl J V:=⟨u.1,fun j h _ _=>u.2 j h (.inr (Nat.zero_le _))⟩
theorem zaf:∀ W∈wordsD,W∈typed:=by
 intro W h
 simp only[wordsD,List.mem_cons,List.not_mem_nil,or_false] at h
 rcases h with rfl | rfl | rfl | rfl | rfl <;> decide
noncomputable def rowE:ME:=.tup [.f 89 [.v 112,.l (.int 2)],.sub (.v 127) (.f 89 [.v 112,.l (.int 5)]),.sub (.v 128) (.f 89 [.v 112,.l (.int 7)]),.cmp (.f 89 [.v 112,.l (.int 4)]) [.eq] [.l (.int 0)]]
theorem pick{i n:Nat}{T:List (List Nat)}(h:V[i]?=some (.list (T.map .str)))(hn:n < T.length):subGet (.ref i) (.int (n:Int)) V=some (.str (T[n]))∨1000000000<=n:=by
 by_cases c:n < 1000000000
 ·left
  rw[zjj,h,ziT _ _ (by lia),Int.toNat_natCast,List.getElem?_map,List.getElem?_eq_getElem hn]
  rfl
 ·right;lia
theorem zdJ{i n:Nat}{T:List (List Nat)}(h:V[i]?=some (.list (T.map .str)))(hn:n < T.length)(hs:T.length<=100):subGet (.ref i) (.int (n:Int)) V=some (.str (T[n])):=by
 rcases pick h hn with h | h
 ·exact h
 ·lia
theorem zhH{wl:Nat}(h:xC V dk dl)(hw:V[wl]?=some (.list (wordsD.map .str)))(ht:V[tl]?=some (.list (texts.map .str)))(w1:wl≠dk)(w2:wl≠dl)(t1:tl≠dk)(t2:tl≠dl)(k:Nat)(m:Loc)(m112:m 112=some (.ref dk))(m127:m 127=some (.ref wl))(m128:m 128=some (.ref tl))(zz:∀ V' r,(evalE prog (callN prog (k+1)) rowE m V=some (rowV r,V'))->(rowOK r)->(xC V' dk dl)->(DF dk dl V V')->GG):GG:=by
 refine jf h k 2 (by decide) (by decide) fun Vd n1 l1 q1 d1 f1=>?_
 refine jf d1 k 5 (by decide) (by decide) fun Ve n2 l2 q2 d2 f2=>?_
 have f12:=f1.trans f2
 have p2:=zdJ (f12.get hw w1 w2) l2 (by decide)
 refine jf d2 k 7 (by decide) (by decide) fun Vf n3 l3 q3 d3 f3=>?_
 have f13:=f12.trans f3
 have p3:=zdJ (f13.get ht t1 t2) l3 (by decide)
 refine jf d3 k 4 (by decide) (by decide) fun ν4 n4 l4 q4 d4 f4=>?_
 refine zz ν4 ⟨decide (n1=1),wordsD[n2],texts[n3],decide ((n4:Int)=0)⟩ ?_ ⟨zaf _ (List.getElem_mem l2),List.getElem_mem l3⟩ d4 (f13.trans f4)
 have e1:(if decide (n1=1)=true then (1:Int) else 0)=(n1:Int):=by
  by_cases c:n1=1
  ·subst c;rfl
  ·have:n1=0:=by lia
   subst this;rfl
 unfold rowV rowE
 simp only[e1]
 generalize wordsD[n2]=W2 at *
 generalize texts[n3]=T3 at *
 have q1':callN prog (k+1) 89 [.ref dk,.int 2] V=_:=q1
 have q2':callN prog (k+1) 89 [.ref dk,.int 5] Vd=_:=q2
 have q3':callN prog (k+1) 89 [.ref dk,.int 7] Ve=_:=q3
 have q4':callN prog (k+1) 89 [.ref dk,.int 4] Vf=_:=q4
 wp_walk using m112,m127,m128,q1',q2',p2,q3',p3,q4'
theorem zb2 {wl:Nat}(w1:wl≠dk)(w2:wl≠dl)(t1:tl≠dk)(t2:tl≠dl)(k:Nat)(m:Loc)(m112:m 112=some (.ref dk))(m127:m 127=some (.ref wl))(m128:m 128=some (.ref tl)):∀ (items:List MV) (V:Hp),xC V dk dl->V[wl]?=some (.list (wordsD.map .str))->V[tl]?=some (.list (texts.map .str)) ->∀ GG:Prop,(∀ (V':Hp) (rows:List Row),(compLoop [] (compF (callN prog (k+1)) rowE false [129] [] m) items V=some (rows.map rowV,V'))->(rows.length=items.length)->(∀ r∈rows,rowOK r)->(xC V' dk dl)->(DF dk dl V V')->GG)->GG 
 | []=>fun V h hw ht GG zz=>zz V [] (by simp[compLoop,zaO]) rfl (by simp) h (DF.refl _ _ _)
 | v :: q=>fun V h hw ht GG zz=>by
  refine zhH h hw ht w1 w2 t1 t2 k (upd (hide [129] m) 129 v) m112 m127 m128 fun Vd r q1 o1 d1 f1=>?_
  refine zb2 w1 w2 t1 t2 k m m112 m127 m128 q Vd d1 (f1.get hw w1 w2) (f1.get ht t1 t2) _ fun V' rows q2 l2 o2 d2 f2=>?_
  refine zz V' (r :: rows) ?_ (by simp[l2]) ?_ d2 (f1.trans f2)
  ·have e:compF (callN prog (k+1)) rowE false [129] [] m v V=some ([rowV r],Vd):=by
    rw[zhf]
    simp -dsimp -implicitDefEqProofs only[zgO,yp,zlx,fst_mk,snd_mk,if_true,q1]
   simp only[zem,zex,zaO,if_true,e,Option.bind_some,q2,List.map_cons,List.cons_append,List.nil_append]
  ·intro x hx
   rcases List.mem_cons.mp hx with rfl | hx
   ·exact o1
   ·exact o2 x hx
noncomputable def flat (ps:List (List Nat×List Nat)):List (List Nat):=ps.flatMap fun p=>[p.1,p.2]
noncomputable def psOK (ps:List (List Nat×List Nat)):Prop:=∀ p∈ps,p.1∈typed/\p.2∈betw
theorem zbN (a b:List (List Nat×List Nat)):flat (a ++ b)=flat a ++ flat b:=by simp[flat]
theorem jH:∀ (ps:List (List Nat×List Nat)) (rest:List (List Nat)),psOK ps->Alt rest->Alt (flat ps ++ rest)
 | []=>fun rest _ h=>h
 | p :: q=>fun rest hp h=>.two (hp p (by simp)).1 (hp p (by simp)).2 (jH q rest (fun x hx=>hp x (List.mem_cons_of_mem _ hx)) h)
theorem jN (ps:List (List Nat×List Nat)):(flat ps).length=2 * ps.length:=by
 induction ps with
 | nil=>rfl
 | cons p q ih=>simp only[flat,List.flatMap_cons,List.length_append,List.length_cons,List.length_nil] at ih ⊢;lia
noncomputable def pcB:List MS:=[.assign (.v 123) (.o .add (.v 123) (.list [.sub (.v 130) (.f 89 [.v 112,.l (.int 11)]),.sub (.v 131) (.f 89 [.v 112,.l (.int 5)])]))]
theorem zhk {yl bl:Nat}(y1:yl≠dk)(y2:yl≠dl)(b1:bl≠dk)(b2:bl≠dl)(k:Nat)(pre:List Nat):∀ (items:List MV) (V:Hp) (ps:List (List Nat×List Nat)) (pc:Nat) (m:Loc),xC V dk dl->V[yl]?=some (.list (typed.map .str))->V[bl]?=some (.list (betw.map .str))->V[pc]?=some (.list ((pre :: flat ps).map .str))->pc≠dk->pc≠dl->dk < V.length->dl < V.length->psOK ps->ps.length+items.length<=10->
  m 112=some (.ref dk)->m 130=some (.ref yl)->m 131=some (.ref bl)->m 123=some (.ref pc) ->∀ GG:Prop,(∀ (V':Hp) (m':Loc) (ps':List (List Nat×List Nat)) (pc':Nat),(forL [] false [129] (execs prog (callN prog (k+1)) pcB) items m V=some (.none,m',V'))->(V'[pc']?=some (.list ((pre :: flat ps').map .str)))->(pc'≠dk)->(pc'≠dl)->(psOK ps')->(ps'.length=ps.length+items.length)->(xC V' dk dl)->(DF dk dl V V')->(m' 123=some (.ref pc'))->(∀ y,y≠123->y≠129->m' y=m y)->GG)->GG 
 | []=>fun V ps pc m h hy hb hp p1 p2 lk1 lk2 ok hn m112 m130 m131 m123 GG zz=>by
  refine zz V m ps pc ?_ hp p1 p2 ok (by simp) h (DF.refl _ _ _) m123 (fun _ _ _=>rfl)
  wp_walk using fst_mk
 | v :: q=>fun V ps pc m h hy hb hp p1 p2 lk1 lk2 ok hn m112 m130 m131 m123 GG zz=>by
  rw[List.length_cons] at hn
  refine jf h k 11 (by decide) (by decide) fun Vd n1 l1 q1 d1 f1=>?_
  have s1:=zdJ (f1.get hy y1 y2) l1 (by decide)
  refine jf d1 k 5 (by decide) (by decide) fun Ve n2 l2 q2 d2 f2=>?_
  have f12:=f1.trans f2
  have s2:=zdJ (f12.get hb b1 b2) l2 (by decide)
  have ty:typed[n1]∈typed:=List.getElem_mem l1
  have be:betw[n2]∈betw:=List.getElem_mem l2
  generalize typed[n1]=w at *
  generalize betw[n2]=b at *
  have U3:=Upd.app 0 0 Ve [za.list [.str w,.str b]]
  have U4:=U3.trans (Upd.app 0 0 _ [za.list ((pre :: flat ps).map MV.str ++ [.str w,.str b])])
  have hp2:=f12.get hp p1 p2
  have e1:(pre :: flat ps).map MV.str ++ [.str w,.str b]=(pre :: flat (ps ++ [(w,b)])).map MV.str:=by
   rw[zbN];simp[flat]
  have n4:(Ve ++ [za.list [.str w,.str b]] ++ [za.list ((pre :: flat ps).map MV.str ++ [.str w,.str b])])[Ve.length+1]?=some (.list ((pre :: flat (ps ++ [(w,b)])).map MV.str)):=by
   rw[yd (by simp),e1]
  have l12:=f12.1
  have lf:=jN ps
  have len1:((pre :: flat ps).map MV.str).length=2 * ps.length+1:=by simp[lf]
  have g1:=(f12.trans (DF.zT U4)).get hy y1 y2
  have g2:=(f12.trans (DF.zT U4)).get hb b1 b2
  refine zhk y1 y2 b1 b2 k pre q _ (ps ++ [(w,b)]) (Ve.length+1) (upd (upd m 129 v) 123 (.ref (Ve.length+1))) (d2.keep U4) g1 g2 n4 (by lia) (by lia) (by simp;lia) (by simp;lia) (by
    intro x hx
    rcases List.mem_append.mp hx with hx | hx
    ·exact ok x hx
    ·rw[List.mem_singleton.mp hx];exact⟨ty,be⟩) (by simp;lia) m112 m130 m131 rfl _ fun V' m' ps' pc' q5 r1 r2 r3 r4 r5 r6 r7 r8 r9=>?_
  refine zz V' m' ps' pc' ?_ r1 r2 r3 r4 (by rw[r5];simp;lia) r6 ((f12.trans (DF.zT U4)).trans r7) r8 (fun y h1 h2=>by rw[r9 y h1 h2];simp[zA,h1,h2])
  have key:execs prog (callN prog (k+1)) pcB (upd m 129 v) V=some (.none,upd (upd m 129 v) 123 (.ref (Ve.length+1)),Ve ++ [za.list [.str w,.str b]] ++ [za.list ((pre :: flat ps).map MV.str ++ [.str w,.str b])]):=by
   have q1':callN prog (k+1) 89 [.ref dk,.int 11] V=_:=q1
   have q2':callN prog (k+1) 89 [.ref dk,.int 5] Vd=_:=q2
   have lp2:=zg hp2
   generalize (pre :: flat ps).map MV.str=PL at *
   unfold pcB
   wp_walk using m112,m130,m131,m123,q1',s1,q2',s2,hp2
  rw[zbj,zaO]
  simp -dsimp -implicitDefEqProofs only[if_true,zgO,yp,key,jB]
  exact q5
noncomputable def dueL (L:Bool->List Ent):List (List Nat)->List MV
 | []=>[]
 | [w]=>[madeV (entE L w) w]
 | w :: _ :: r=>madeV (entE L w) w :: .none :: dueL L r
noncomputable def wantL (L:Bool->List Ent):List (List Nat)->List (List Nat)
 | []=>[]
 | [w]=>[outP L w]
 | w :: b :: r=>outP L w :: b :: wantL L r
theorem zfL (L:Bool->List Ent)(w b:List Nat)(r:List (List Nat)):dueL L (w :: b :: r)=madeV (entE L w) w :: .none :: dueL L r:=rfl
theorem zf3 (L:Bool->List Ent)(w:List Nat):dueL L [w]=[madeV (entE L w) w]:=rfl
theorem zfx (L:Bool->List Ent):dueL L []=[]:=rfl
theorem j8 (L:Bool->List Ent)(w b:List Nat)(r:List (List Nat)):wantL L (w :: b :: r)=outP L w :: b :: wantL L r:=rfl
theorem jK (L:Bool->List Ent)(w:List Nat):wantL L [w]=[outP L w]:=rfl
theorem jO (L:Bool->List Ent):wantL L []=[]:=rfl
theorem xq (L:Bool->List Ent)(w:List Nat):(madeV (entE L w) w=.none/\outP L w=w/\(entE L w).isSome=false)∨(madeV (entE L w) w=.str (outP L w)/\(entE L w).isSome=true):=by
 unfold madeV outP
 cases entE L w with
 | none=>exact .inl ⟨rfl,rfl,rfl⟩
 | some p=>exact .inr ⟨rfl,rfl⟩
theorem zcm:∀ (n:Nat) (body:List (List Nat)) (L L':Bool->List Ent),body.length<=n->kE L L'->(wantL L body).flatten=outB L' body
 | _,[]=>fun _ _ _ _=>rfl
 | _,[w]=>fun L L' _ h=>by simp[j8,jK,jO,zi4,zjc,(xm h w).1]
 | n,w :: b :: r=>fun L L' hn h=>by
  simp only[List.length_cons] at hn
  have:=zcm (n - 2) r L (bumpP (·+1) L' w) (by lia) (h.trans (wU _ _ _))
  simp only[j8,jK,jO,zi4,zjc,List.flatten_cons,this,(xm h w).1,List.append_assoc]
noncomputable def ctG (v:MV):List MV:=match v with
 | .none=>[]
 | _=>[.int 1]
theorem zeA:∀ (n:Nat) (body:List (List Nat)) (L L':Bool->List Ent),body.length<=n->kE L L'->((dueL L body).flatMap ctG).length=nE L' body
 | _,[]=>fun _ _ _ _=>rfl
 | _,[w]=>fun L L' _ h=>by
  have h2:=(xm h w).2
  simp only[zfL,zf3,zfx,nE2,nE1,nE0,List.flatMap_cons,List.flatMap_nil,List.append_nil,<- h2]
  rcases xq L w with⟨e,_,e2⟩ | ⟨e,e2⟩ <;> rw[e,e2] <;> rfl
 | n,w :: b :: r=>fun L L' hn h=>by
  simp only[List.length_cons] at hn
  have:=zeA (n - 2) r L (bumpP (·+1) L' w) (by lia) (h.trans (wU _ _ _))
  have h2:=(xm h w).2
  simp only[zfL,zf3,zfx,nE2,nE1,nE0,List.flatMap_cons,List.length_append,this,<- h2]
  rcases xq L w with⟨e,_,e2⟩ | ⟨e,e2⟩ <;> rw[e,e2] <;> simp[ctG]
theorem zbC (L:Bool->List Ent):∀ (n:Nat) (body:List (List Nat)),body.length<=n->(dueL L body).length=body.length
 | _,[]=>fun _=>rfl
 | _,[w]=>fun _=>rfl
 | n,w :: b :: r=>fun hn=>by
  simp only[List.length_cons] at hn
  simp only[zfL,zf3,zfx,List.length_cons,zbC L (n - 2) r (by lia)]
noncomputable def dueE:ME:=.ite (.cmp (.o .mod (.v 22) (.l (.int 2))) [.eq] [.l (.int 1)]) (.f 95 [.slice (.v 14) (.l (.int 2)) (.l .none),.v 126]) (.l (.none))
section
variable {x t0 t1 k0 k1:Nat}{K:Bool->Nat}{L:Bool->List Ent}
theorem ziZ (call:CallT)(m:Loc)(i:Nat)(hi:i % 2=0)(W:List Nat)(V:Hp):compF call dueE true [22,126] [] m (.tup [.int (i:Int),.str W]) V=some ([.none],V):=by
 have m1:=yj (i:Int) 2 V (by decide)
 rw[fm2,hi] at m1
 unfold dueE
 wp_walk using m1,Int.natCast_zero
theorem zg1(hx:V[x]?=some (.list [.ref t0,.ref t1,.ref (K false),.ref (K true)]))(hd:∀ b,V[K b]?=some (.dict (knD (L b))))(hL:∀ b,∀ e∈L b,e.text∈texts)(k:Nat)(m:Loc)(m14:m 14=some (.ref x))(i:Nat)(hi:i % 2=1)(hW:W∈typed)(zz:∀ V',(compF (callN prog (k+2)) dueE true [22,126] [] m (.tup [.int (i:Int),.str W]) V=some ([madeV (entE L W) W],V'))->(Upd 0 0 V V')->GG):GG:=by
 have m1:=yj (i:Int) 2 V (by decide)
 rw[fm2,hi] at m1
 have U1:=Upd.app 0 0 V [za.list [.ref (K false),.ref (K true)]]
 refine zif (zm V (za.list [.ref (K false),.ref (K true)])) (fun b=>U1.keep (hd b)) hL k hW fun V' q U2=>?_
 refine zz V' ?_ (U1.trans U2)
 have sl:sliceO (some (.list [.ref t0,.ref t1,.ref (K false),.ref (K true)])) (.int 2) .none V=some (.ref V.length,V ++ [za.list [.ref (K false),.ref (K true)]]):=by
  rw[zb1 _ _ _ (by simp) (by decide)];rfl
 unfold dueE
 wp_walk using m1,Int.natCast_one,m14,hx,sl,q
theorem zhw(hL:∀ b,∀ e∈L b,e.text∈texts)(k:Nat)(m:Loc)(m14:m 14=some (.ref x)):∀ (n:Nat) (body:List (List Nat)) (i:Nat) (V:Hp),body.length<=n->Alt body->i % 2=1->V[x]?=some (.list [.ref t0,.ref t1,.ref (K false),.ref (K true)])->(∀ b,V[K b]?=some (.dict (knD (L b))))->V[pc]?=some (.list all) ->∀ GG:Prop,(∀ V',(compLoop [(pc,some all)] (compF (callN prog (k+2)) dueE true [22,126] [] m) (enumF i body) V=some (dueL L body,V'))->(Upd 0 0 V V')->GG)->GG:=by
 intro n
 induction n using Nat.strongRecOn with
 | _ n ih=>
 intro body i V hn hA hi hx hd hp GG zz
 cases hA with
 | nil=>exact zz V (by simp only[zeK,zem,zex,zG hp,if_true,zfL,zf3,zfx]) (Upd.refl 0 0 V)
 | one hw=>
  refine zg1 hx hd hL k m m14 i hi hw fun Vd q1 U1=>?_
  exact zz Vd (by simp only[jX,zeK,zem,zex,zG hp,zG (U1.keep hp),if_true,q1,Option.bind_some,zfL,zf3,zfx,List.append_nil]) U1
 | two hw hb hA'=>
  rename_i w b r
  simp only[List.length_cons] at hn
  refine zg1 hx hd hL k m m14 i hi hw fun Vd q1 U1=>?_
  have q2:=ziZ (callN prog (k+2)) m (i+1) (by lia) b Vd
  refine ih (n - 2) (zmR (by assumption)) r (i+2) Vd (ls2 (by assumption)) hA' (mod2 (by assumption)) (U1.keep hx) (fun b=>U1.keep (hd b)) (U1.keep hp) _ fun V' q3 U3=>?_
  exact zz V' (by simp only[jX,zem,zex,zG hp,zG (U1.keep hp),if_true,q1,Option.bind_some,q2,q3,zfL,zf3,zfx,List.cons_append,List.nil_append]) (U1.trans U3)
end
theorem zht{i h:Nat}{q:List MV}(hi:J[i]?=some (.list l))(hj:J[j]?=some (.list q))(hh:J[h]?=some .hid):chkOk J [(i,some l),(j,some q),(h,.none)]=true:=by
 show (isLst l J[i]? && (isLst q J[j]? && (isHid J[h]? && true)))=true
 rw[hi,hj,hh]
 show (MV.beqs l l && (MV.beqs q q && (true && true)))=true
 rw[yu,yu];rfl
noncomputable def wantE:ME:=.ite (.cmp (.v 133) [.is] [.l (.none)]) (.v 126) (.v 133)
theorem zio (call:CallT)(m:Loc)(P:List Nat)(V:Hp):compF call wantE true [126,133] [] m (.tup [.str P,.none]) V=some ([.str P],V):=by
 unfold wantE
 wp_walk using fst_mk
theorem zk8 (call:CallT)(m:Loc)(P Q:List Nat)(V:Hp):compF call wantE true [126,133] [] m (.tup [.str P,.str Q]) V=some ([.str Q],V):=by
 unfold wantE
 wp_walk using Bool.false_eq_true
theorem zjN (call:CallT)(m:Loc)(L:Bool->List Ent)(w:List Nat)(V:Hp):compF call wantE true [126,133] [] m (.tup [.str w,madeV (entE L w) w]) V=some ([.str (outP L w)],V):=by
 rcases xq L w with⟨e,e2,_⟩ | ⟨e,_⟩
 ·rw[e,e2];exact zio call m w V
 ·rw[e];exact zk8 call m w _ V
theorem zbT(hc:chkOk V chk=true)(call:CallT)(m:Loc)(L:Bool->List Ent):∀ (n:Nat) (body:List (List Nat)),body.length<=n->
  compLoop chk (compF call wantE true [126,133] [] m) (List.zipWith (fun a b=>MV.tup [a,b]) (body.map .str) (dueL L body)) V=some ((wantL L body).map .str,V)
 | _,[]=>fun _=>by simp[compLoop,hc,zfL,zf3,zfx,j8,jK,jO]
 | _,[w]=>fun _=>by
  simp only[List.map_cons,List.map_nil,zfL,zf3,zfx,List.zipWith_cons_cons,List.zipWith_nil_left,zem,zex,hc,if_true,zjN,Option.bind_some,j8,jK,jO,List.append_nil]
 | n,w :: b :: r=>fun hn=>by
  simp only[List.length_cons] at hn
  have:=zbT hc call m L (n - 2) r (by lia)
  simp only[List.map_cons,zfL,zf3,zfx,List.zipWith_cons_cons,zem,zex,hc,if_true,zjN,zio,Option.bind_some,this,j8,jK,jO,List.cons_append,List.nil_append]
theorem qO:∀ ss:List (List Nat),joinS [] ss=ss.flatten
 | []=>rfl
 | [s]=>by simp[joinS]
 | s :: t :: r=>by
  have:=qO (t :: r)
  simp only[joinS,List.append_nil,List.flatten_cons] at this ⊢
  rw[this]
theorem zah{lo:Nat}{L:Bool->List Ent}(h:zu V lo hi A L):∀ (n:Nat) (body:List (List Nat)),body.length<=n->Alt body->(∀ s∈wantL L body,s.length<=7)/\(wantL L body).length=body.length
 | _,[]=>fun _ _=>⟨by simp[j8,jK,jO],rfl⟩
 | _,[w]=>fun _ hA=>by
  have hw:w∈typed:=by cases hA;assumption
  refine⟨?_,rfl⟩
  intro s hs
  simp only[j8,jK,jO,List.mem_singleton] at hs
  rw[hs];exact (wi h hw).2
 | n,w :: b :: r=>fun hn hA=>by
  simp only[List.length_cons] at hn
  cases hA with
  | two hw hb hA'=>
   have:=zah h (n - 2) r (by lia) hA'
   refine⟨?_,by simp[j8,jK,jO,this.2]⟩
   intro s hs
   simp only[j8,jK,jO,List.mem_cons] at hs
   rcases hs with rfl | rfl | hs
   ·exact (wi h hw).2
   ·have:=(qW _ hb).2.2.2;lia
   ·exact this.1 s hs
noncomputable def sA0:MS:=.assign (.tup [112,19]) (.tup [.f 88 [.v 111],.f 51 []])
noncomputable def sA1:MS:=.assign (.tup [127,128]) (.tup [.list [.l (.str [97]),.l (.str [97,98]),.l (.str [98,49]),.l (.str [65,98]),.l (.str [98,97])],.list [.l (.str [120]),.l (.str [102,111,111,32,98,97,114]),.l (.str [98,97]),.l (.str [97,98,32,98,97]),.l (.str []),.l (.str [120,45,121,32,122]),.l (.str [98,49])]])
noncomputable def sA2:MS:=.assign (.v 57) (.comp (.tup [.f 89 [.v 112,.l (.int 2)],.sub (.v 127) (.f 89 [.v 112,.l (.int 5)]),.sub (.v 128) (.f 89 [.v 112,.l (.int 7)]),.cmp (.f 89 [.v 112,.l (.int 4)]) [.eq] [.l (.int 0)]]) false [129] .range [.o .add (.l (.int 1)) (.f 89 [.v 112,.l (.int 4)])] [])
noncomputable def sA3:MS:=.assign (.tup [130,131]) (.tup [.list [.l (.str [97]),.l (.str [65]),.l (.str [97,98]),.l (.str [65,98]),.l (.str [65,66]),.l (.str [98,49]),.l (.str [66,49]),.l (.str [98,97]),.l (.str [98,65]),.l (.str [99]),.l (.str [120])],.list [.l (.str [32]),.l (.str [10]),.l (.str [45]),.l (.str [44,32]),.l (.str [32,32])]])
noncomputable def sA4:MS:=.assign (.v 123) (.list [.sub (.list [.l (.str []),.l (.str [32]),.l (.str [45,45])]) (.f 89 [.v 112,.l (.int 3)])])
noncomputable def sA5:MS:=.fors false [129] .range [.o .add (.l (.int 1)) (.f 89 [.v 112,.l (.int 7)])] [.assign (.v 123) (.o .add (.v 123) (.list [.sub (.v 130) (.f 89 [.v 112,.l (.int 11)]),.sub (.v 131) (.f 89 [.v 112,.l (.int 5)])]))]
noncomputable def sA6:MS:=.ifs (.cmp (.f 89 [.v 112,.l (.int 2)]) [.eq] [.l (.int 0)]) [.expr (.n (.v 123) .pop [])] []
noncomputable def sA7:MS:=.assign (.tup [43,14]) (.tup [.n (.l (.str [])) .join [.v 123],.f 92 [.v 57]])
noncomputable def sA8:MS:=.assign (.v 132) (.comp (.ite (.cmp (.o .mod (.v 22) (.l (.int 2))) [.eq] [.l (.int 1)]) (.f 95 [.slice (.v 14) (.l (.int 2)) (.l .none),.v 126]) (.l (.none))) true [22,126] .enum [.v 123] [])
noncomputable def sA9:MS:=.assign (.v 87) (.n (.l (.str [])) .join [.comp (.ite (.cmp (.v 133) [.is] [.l (.none)]) (.v 126) (.v 133)) true [126,133] .zip [.v 123,.v 132] []])
noncomputable def sA10:MS:=.assign (.tup [24,124]) (.f 97 [.v 123,.sub (.v 14) (.l (.int 0)),.v 19])
noncomputable def sA11:MS:=.ifs (.or [.cmp (.f 91 [.v 24]) [.ne] [.v 87],.cmp (.b .len [.v 124]) [.ne] [.b .len [.comp (.l (.int 1)) false [133] .val [.v 132] [.cmp (.v 133) [.isNot] [.l (.none)]]]]]) [.ret (.l (.bool false))] []
noncomputable def sA12:MS:=.assign (.tup [134,114]) (.tup [.f 92 [.v 57],.m (.c 10 []) 125 [.l (.str [98])]])
noncomputable def sA13:MS:=.expr (.f 34 [.v 114,.f 90 [.v 43]])
noncomputable def sA14:MS:=.assign (.v 20) (.f 58 [.v 114,.sub (.v 134) (.l (.int 0)),.v 19,.l (.int 1),.o .add (.m (.v 114) 27 []) (.l (.int 1))])
noncomputable def sA15:MS:=.ifs (.or [.cmp (.f 91 [.v 114]) [.ne] [.v 87],.cmp (.v 20) [.ne] [.b .len [.v 124]],.cmp (.f 96 [.slice (.v 134) (.l .none) (.l (.int 2))]) [.ne] [.f 96 [.slice (.v 14) (.l .none) (.l (.int 2))]]]) [.ret (.l (.bool false))] []
noncomputable def sA16:MS:=.ifs (.not (.f 98 [.v 24,.sub (.v 14) (.l (.int 0)),.v 124,.v 43])) [.ret (.l (.bool false))] []
noncomputable def sA17:MS:=.ret (.cmp (.comp2 (.l (.int 1)) 135 (.f 96 [.slice (.v 14) (.l .none) (.l (.int 2))]) true [15,9] (.v 135) [.cmp (.v 9) [.ne] [.l (.int 0)]]) [.eq] [.list []])
theorem zN {call:CallT}{s:MS}{r:List MS}(h:exec prog call s m V=some (.none,m',V')):execs prog call (s :: r) m V=execs prog call r m' V':=by
 rw[yQ,h];rfl
theorem DF.up {S:Nat}(f:DF dk dl J V)(h1:dk < S)(h2:dl < S):Upd 0 S J V:=⟨f.1,fun j hj o=>f.2 j hj (by lia) (by lia)⟩
theorem zmp (n:Nat)(hn:n<=1000)(J:Hp):iterOf .range [.int (1+(n:Int))] J=some ((List.range (n+1)).map fun (i:Nat)=>MV.int (i:Int),[],J):=by
 have e:(1+(n:Int)).toNat=n+1:=(congrArg Int.toNat (Int.add_comm 1 n)).trans rfl
 show (if 0<=1+(n:Int)/\1+(n:Int)<=1000000 then some ((List.range (1+(n:Int)).toNat).map fun (i:Nat)=>MV.int (i:Int),[],J) else none)=_
 rw[if_pos (by lia),e]
structure LS (S dk dl:Nat)(m:Loc)(V:Hp):Prop where
 D:xC V dk dl
 s:zU V S
 k:dk < S
 l:dl < S
 n:S+38<=V.length
 a:m 112=some (.ref dk)
 b:m 19=some (.ref S)
section
variable {S dk dl:Nat}{m:Loc}{V V':Hp}{GG:Prop}
theorem LS.app (h:LS S dk dl m V)(o:List za):LS S dk dl m (V ++ o):=⟨h.D.keep (Upd.app 0 0 V o),h.s.keep (Upd.app 0 0 V o),h.k,h.l,Nat.le_trans h.n (Upd.app 0 0 V o).1,h.a,h.b⟩
theorem LS.upd (h:LS S dk dl m V)(h1:112≠x)(h2:19≠x):LS S dk dl (upd m x v) V:=⟨h.D,h.s,h.k,h.l,h.n,(if_neg h1).trans h.a,(if_neg h2).trans h.b⟩
theorem LS.df (h:LS S dk dl m V)(F:DF dk dl V V')(D:xC V' dk dl):LS S dk dl m V':=⟨D,h.s.out (F.up h.k h.l) (.inl (Nat.le_refl _)),h.k,h.l,Nat.le_trans h.n F.1,h.a,h.b⟩
theorem LS.at (h:LS S dk dl m V)(F:DF dk dl V V'){i:Nat}(e:V[i]?=some o)(hi:S<=i):V'[i]?=some o:=(F.up h.k h.l).get e (.inr hi)
theorem LS.nk (h:LS S dk dl m V){i:Nat}(hi:S<=i):i≠dk:=Nat.ne_of_gt (Nat.lt_of_lt_of_le h.k hi)
theorem LS.nl (h:LS S dk dl m V){i:Nat}(hi:S<=i):i≠dl:=Nat.ne_of_gt (Nat.lt_of_lt_of_le h.l hi)
theorem LS.le (h:LS S dk dl m V):S<=V.length:=Nat.le_trans (Nat.le_add_right _ _) h.n
theorem zlE {l:List Int}(hl:l.length<=1000000)(z:∀ S dk dl m V,exec prog (callN prog 39) sA0 (upd e0 111 (.ref 0)) [.frz l]=some (.none,m,V)->LS S dk dl m V->GG):GG:=
 zh7 (V:=[.frz l]) (s:=0) rfl hl 38 fun Vd dk dl sv D q1 d1 U1 k1=>ziP Vd fun Ve q2 s2 U2 l2=>by
 refine z Vd.length dk dl (upd (upd (upd e0 111 (.ref 0)) 112 (.ref dk)) 19 (.ref Vd.length)) Ve ?_ ⟨(show xC Vd dk dl from ⟨sv,D,d1⟩).keep U2,s2,zg d1.d,zg d1.l,Nat.le_of_eq l2.symm,rfl,rfl⟩
 have q1':callN prog 39 88 [.ref 0] [.frz l]=some (.ref dk,Vd):=q1
 unfold sA0
 wp_walk using q1',q2
theorem zlg (h:LS S dk dl m V)(z:∀ wl tl m' V',exec prog (callN prog 39) sA1 m V=some (.none,m',V')->LS S dk dl m' V'->S<=wl->S<=tl->V'[wl]?=some (.list (wordsD.map .str))->V'[tl]?=some (.list (texts.map .str))->m' 127=some (.ref wl)->m' 128=some (.ref tl)->GG):GG:=by
 refine z V.length (V.length+1) (upd (upd m 127 (.ref V.length)) 128 (.ref (V.length+1))) (V ++ [za.list (wordsD.map .str)] ++ [za.list (texts.map .str)]) ?_ (((h.app _).app _).upd (by decide) (by decide) |>.upd (by decide) (by decide)) h.le (Nat.le_succ_of_le h.le) (zf _ (zm _ _)) (yd (by rw[List.length_append];rfl)) rfl rfl
 unfold sA1
 wp_walk using wordsD,texts,List.map_cons,List.map_nil
theorem zlF (h:LS S dk dl m V){wl:Nat}(w1:S<=wl)(t1:S<=tl)(hw:V[wl]?=some (.list (wordsD.map .str)))(ht:V[tl]?=some (.list (texts.map .str)))(m127:m 127=some (.ref wl))(m128:m 128=some (.ref tl))
  (z:∀ rl rows V',exec prog (callN prog 39) sA2 m V=some (.none,upd m 57 (.ref rl),V')->LS S dk dl (upd m 57 (.ref rl)) V'->S<=rl->V'[rl]?=some (.list (rows.map rowV))->(∀ r∈rows,rowOK r)->rows.length<=4->rows≠[]->GG):GG:=by
 refine jf h.D 38 4 (by decide) (by decide) fun ν4 n4 h4 q4 D4 F4=>?_
 refine zb2 (dk:=dk) (dl:=dl) (wl:=wl) (tl:=tl) (h.nk w1) (h.nl w1) (h.nk t1) (h.nl t1) 38 m h.a m127 m128 ((List.range (n4+1)).map fun (i:Nat)=>MV.int (i:Int)) ν4 D4 (h.at F4 hw w1) (h.at F4 ht t1) _ fun Vg rows q5 r5 o5 D5 F5=>?_
 have rn:rows.length=n4+1:=r5.trans ((List.length_map _).trans List.length_range)
 have h5:=(h.df F4 D4).df F5 D5
 refine z Vg.length rows (Vg ++ [za.list (rows.map rowV)]) ?_ ((h5.app _).upd (by decide) (by decide)) h5.le (zm _ _) o5 (rn ▸ h4) (fun e=>by rw[e] at rn;cases rn)
 have q4':callN prog 39 89 [.ref dk,.int 4] V=some (.int (n4:Int),ν4):=q4
 have q5':compLoop [] (compF (callN prog 39) rowE false [129] [] m) ((List.range (n4+1)).map fun (i:Nat)=>MV.int (i:Int)) ν4=some (rows.map rowV,Vg):=q5
 have a112:=h.a
 have rl:(rows.map rowV).length<=1000000:=by rw[List.length_map];lia
 have ir:=zmp n4 (by lia) ν4
 unfold rowE at q5'
 unfold sA2
 wp_walk using a112,q4',ir,q5'
theorem zla (h:LS S dk dl m V)(z:∀ yl bl,exec prog (callN prog 39) sA3 m V=some (.none,upd (upd m 130 (.ref yl)) 131 (.ref bl),V ++ [za.list (typed.map .str)] ++ [za.list (betw.map .str)])->S<=yl->S<=bl->(V ++ [za.list (typed.map .str)] ++ [za.list (betw.map .str)])[yl]?=some (.list (typed.map .str))->(V ++ [za.list (typed.map .str)] ++ [za.list (betw.map .str)])[bl]?=some (.list (betw.map .str))->GG):GG:=by
 refine z V.length (V.length+1) ?_ h.le (Nat.le_succ_of_le h.le) (zf _ (zm _ _)) (yd (by rw[List.length_append];rfl))
 unfold sA3
 wp_walk using typed,betw,List.map_cons,List.map_nil
theorem zlG (h:LS S dk dl m V)(z:∀ pc pre V',exec prog (callN prog 39) sA4 m V=some (.none,upd m 123 (.ref pc),V')->LS S dk dl (upd m 123 (.ref pc)) V'->S<=pc->V'[pc]?=some (.list [.str pre])->pre∈pres->(∀ i o,V[i]?=some o->S<=i->V'[i]?=some o)->GG):GG:=by
 have V8:=Upd.app 0 0 V [za.list (pres.map MV.str)]
 refine jf (h.app [za.list (pres.map MV.str)]).D 38 3 (by decide) (by decide) fun V9 n9 h9 q9 D9 F9=>?_
 have pk:=zdJ ((h.app _).at F9 (zm V (za.list (pres.map MV.str))) h.le) h9 (by decide)
 have h9':=(h.app _).df F9 D9
 refine z V9.length pres[n9] (V9 ++ [za.list [.str pres[n9]]]) ?_ ((h9'.app _).upd (by decide) (by decide)) h9'.le (zm _ _) (List.getElem_mem h9) fun i o e hi=>zf _ ((h.app _).at F9 (zf _ e) hi)
 have q9':callN prog 39 89 [.ref dk,.int 3] (V ++ [za.list (pres.map MV.str)])=some (.int (n9:Int),V9):=q9
 have a112:=h.a
 unfold sA4
 have ep:([MV.str [],MV.str [32],MV.str [45,45]]:List MV)=pres.map MV.str:=rfl
 wp_walk using ep,a112,q9',pk
theorem zlt (h:LS S dk dl m V){yl bl:Nat}{pre:List Nat}(y1:S<=yl)(b1:S<=bl)(p1:S<=pc)(hy:V[yl]?=some (.list (typed.map .str)))(hb:V[bl]?=some (.list (betw.map .str)))(hp:V[pc]?=some (.list [.str pre]))(m130:m 130=some (.ref yl))(m131:m 131=some (.ref bl))(m123:m 123=some (.ref pc))
  (z:∀ ps pc' m' V',exec prog (callN prog 39) sA5 m V=some (.none,m',V')->LS S dk dl m' V'->m' 123=some (.ref pc')->m' 57=m 57->pc'≠dk->pc'≠dl->V'[pc']?=some (.list ((pre :: flat ps).map .str))->psOK ps->0 < ps.length->ps.length<=7->(∀ i o,V[i]?=some o->S<=i->V'[i]?=some o)->GG):GG:=by
 refine jf h.D 38 7 (by decide) (by decide) fun V11 n11 h11 q11 D11 F11=>?_
 have h1:=h.df F11 D11
 have ln:((List.range (n11+1)).map fun (i:Nat)=>MV.int (i:Int)).length=n11+1:=(List.length_map _).trans List.length_range
 refine zhk (dk:=dk) (dl:=dl) (yl:=yl) (bl:=bl) (h.nk y1) (h.nl y1) (h.nk b1) (h.nl b1) 38 pre ((List.range (n11+1)).map fun (i:Nat)=>MV.int (i:Int)) V11 [] pc m D11 (h.at F11 hy y1) (h.at F11 hb b1) (h.at F11 hp p1) (h.nk p1) (h.nl p1) (Nat.lt_of_lt_of_le h.k h1.le) (Nat.lt_of_lt_of_le h.l h1.le) (fun _ hp=>absurd hp List.not_mem_nil) (by rw[ln];exact Nat.le_trans (Nat.le_of_eq (Nat.zero_add _)) (Nat.le_trans h11 (by decide)))
  h.a m130 m131 m123 _ fun ν12 m' ps pc' q12 p12 pd1 pd2 ok12 pl12 D12 F12 g123 gm=>?_
 have pl:ps.length=n11+1:=pl12.trans ((Nat.zero_add _).trans ln)
 have h2:=h1.df F12 D12
 refine z ps pc' m' ν12 ?_ ⟨h2.D,h2.s,h2.k,h2.l,h2.n,(gm 112 (by decide) (by decide)).trans h.a,(gm 19 (by decide) (by decide)).trans h.b⟩ g123 (gm 57 (by decide) (by decide)) pd1 pd2 p12 ok12 (pl ▸ Nat.succ_pos _) (pl ▸ h11) fun i o e hi=>h1.at F12 (h.at F11 e hi) hi
 have q11':callN prog 39 89 [.ref dk,.int 7] V=some (.int (n11:Int),V11):=q11
 have ir:=zmp n11 (by lia) V11
 have q12':forL [] false [129] (execs prog (callN prog 39) pcB) ((List.range (n11+1)).map fun (i:Nat)=>MV.int (i:Int)) m V11=some (.none,m',ν12):=q12
 have a112:=h.a
 unfold pcB at q12'
 unfold sA5
 wp_walk using a112,q11',ir,q12'
theorem ziO {p:Nat}{l':List MV}(s:zU V S)(e:V[p]?=some (.list l)):zU (V.set p (.list l')) S:=by
 have gen:∀ {j:Nat} {o:za},V[j]?=some o->(∀ q,o≠.list q)->(V.set p (.list l'))[j]?=some o:=fun hj hq=>(zb _ fun z=>hq _ (Option.some.inj (hj.symm.trans (z ▸ e)))).trans hj
 obtain⟨ss,Dd,dd1,kf,al⟩:=s
 refine⟨gen ss (fun _=>nofun),Dd,gen dd1 (fun _=>nofun),kf,fun c hc=>?_⟩
 obtain⟨a,mt,fl',e1,e2,e3,e4⟩:=al c hc
 exact⟨a,mt,fl',e1,gen e2 (fun _=>nofun),e3,e4⟩
theorem zlW (h:LS S dk dl m V){pre:List Nat}(d1:pc≠dk)(d2:pc≠dl)(hp:V[pc]?=some (.list ((pre :: flat ps).map .str)))(ok:psOK ps)(p0:0 < ps.length)(pl:ps.length<=7)(m123:m 123=some (.ref pc))(r1:S<=rl)(hr:V[rl]?=some (.list (rows.map rowV)))(rn:rows≠[])
  (z:∀ V' body,exec prog (callN prog 39) sA6 m V=some (.none,m,V')->zU V' S->S+38<=V'.length->V'[rl]?=some (.list (rows.map rowV))->V'[pc]?=some (.list ((pre :: body).map .str))->Alt body->body.length<=14->body≠[]->GG):GG:=by
 refine jf h.D 38 2 (by decide) (by decide) fun Vd n hn q D F=>?_
 have h':=h.df F D
 have p':=F.get hp d1 d2
 have r':=h.at F hr r1
 have q':callN prog 39 89 [.ref dk,.int 2] V=some (.int (n:Int),Vd):=q
 have a112:=h.a
 have fl:=jN ps
 by_cases c:n=0
 ·obtain⟨ps',p,rfl⟩:∃ ps' p,ps=ps' ++ [p]:=⟨_,_,(List.dropLast_concat_getLast (List.ne_nil_of_length_pos p0)).symm⟩
  have ef:(pre :: flat (ps' ++ [p])).map MV.str=(pre :: (flat ps' ++ [p.1])).map MV.str ++ [.str p.2]:=by rw[zbN];simp[flat]
  rw[ef] at p'
  have bl:(flat ps' ++ [p.1]).length<=13:=by
   have:=jN ps'
   rw[List.length_append] at pl ⊢
   have:[p].length=1:=rfl
   have:[p.1].length=1:=rfl
   lia
  refine z _ (flat ps' ++ [p.1]) ?_ (ziO h'.s p') (by rw[List.length_set];exact h'.n) ((zb _ fun e=>?_).trans r') (get_set _ p') (jH ps' [p.1] (fun x hx=>ok x (List.mem_append_left _ hx)) (.one (ok p (List.mem_append_right _ (.head _))).1)) (Nat.le_succ_of_le bl) (fun e=>nomatch (List.append_eq_nil_iff.mp e).2)
  ·have lp:((pre :: (flat ps' ++ [p.1])).map MV.str).length < 1000000:=by rw[List.length_map];exact Nat.lt_of_le_of_lt (Nat.succ_le_succ bl) (by decide)
   cases c
   unfold sA6
   generalize (pre :: (flat ps' ++ [p.1])).map MV.str=PL at *
   wp_walk using a112,m123,q',p',zhF,Int.natCast_zero
  ·rw[e,r'] at p'
   cases rows with
   | nil=>exact rn rfl
   | cons a b=>
    injection Option.some.inj p' with p'
    injection p' with p'
    exact MV.noConfusion p'
 ·refine z Vd (flat ps) ?_ h'.s h'.n r' p' (by have:=jH ps [] ok .nil;rwa [List.append_nil] at this) (by lia) (fun e=>by rw[e] at fl;have:([]:List (List Nat)).length=0:=rfl;lia)
  unfold sA6
  wp_walk using a112,q',Bool.false_eq_true
end
theorem zmI (l:List Int)(hl:l.length<=1000000)(zz:∀ (V:Hp) (m:Loc) (S rl pc:Nat) (rows:List Row) (pre:List Nat) (body:List (List Nat)),(execs prog (callN prog 39) f99.body (upd e0 111 (.ref 0)) [.frz l]=execs prog (callN prog 39) [sA7,sA8,sA9,sA10,sA11,sA12,sA13,sA14,sA15,sA16,sA17] m V)->(zU V S)->(S+38<=V.length)->(V[rl]?=some (.list (rows.map rowV)))->(∀ r∈rows,rowOK r)->(rows.length<=4)->(V[pc]?=some (.list ((pre :: body).map .str)))->(pre∈pres)->(Alt body)->(body.length<=14)->(m 57=some (.ref rl))->(m 123=some (.ref pc))->(m 19=some (.ref S))->(body≠[])->GG):GG:=by
 refine zlE hl fun S dk dl m1 V1 x0 h=>zlg h fun wl tl m2 V2 x1 h w1 t1 hw ht g1 g2=>zlF h w1 t1 hw ht g1 g2 fun rl rows ν3 x2 h r1 hr ok rn r0=>zla h fun yl bl x3 y1 b1 hy hb=>zlG (((h.app _).app _).upd (x:=130) (v:=.ref yl) (by decide) (by decide) |>.upd (x:=131) (v:=.ref bl) (by decide) (by decide)) fun pc pre ν5 x4 h p1 hp hin k5=>zlt h y1 b1 p1 (k5 _ _ hy y1) (k5 _ _ hb b1) hp rfl rfl rfl fun ps pc' m6 V6 x5 h g123 g57 d1 d2 hp oks p0 pl k6=>zlW h d1 d2 hp oks p0 pl g123 r1 (k6 _ _ (k5 _ _ (zf _ (zf _ hr)) r1) r1) r0 fun V7 body x6 hs hn hr hp al bl b0=>?_
 exact zz V7 m6 S rl pc' rows pre body ((zN x0).trans ((zN x1).trans ((zN x2).trans ((zN x3).trans ((zN x4).trans ((zN x5).trans (zN x6))))))) hs hn hr ok rn hp hin al bl g57 g123 h.b b0
theorem j0:∀ (n:Nat) (body:List (List Nat)),body.length<=n->Alt body->(∀ s∈body,s.length<=2/\allok s)
 | _,[]=>fun _ _=>by simp
 | _,[w]=>fun _ hA=>by
  have hw:w∈typed:=by cases hA;assumption
  intro s hs
  rw[List.mem_singleton.mp hs]
  exact⟨(zq w hw).1,xD w hw⟩
 | n,w :: b :: r=>fun hn hA=>by
  simp only[List.length_cons] at hn
  cases hA with
  | two hw hb hA'=>
   have:=j0 (n - 2) r (ls2 (by assumption)) hA'
   intro s hs
   simp only[List.mem_cons] at hs
   rcases hs with rfl | rfl | hs
   ·exact⟨(zq _ hw).1,xD _ hw⟩
   ·exact⟨(qW _ hb).2.2.2,(qW _ hb).2.2.1⟩
   ·exact this s hs
theorem jF {l:List (List Nat)}(h:∀ s∈l,s.length<=2/\allok s):allok l.flatten/\l.flatten.length<=2 * l.length:=by
 induction l with
 | nil=>exact⟨by intro c hc;simp at hc,by simp⟩
 | cons a r ih=>
  have:=ih fun s hs=>h s (List.mem_cons_of_mem _ hs)
  have ha:=h a (by simp)
  exact⟨by rw[List.flatten_cons];exact zR ha.2 this.1,by simp only[List.flatten_cons,List.length_append,List.length_cons];lia⟩
noncomputable def zipO (a b:Option za) (i j:Nat) (J:Hp):Option ItT:=qL a fun l=>qL b fun q=>if l.length=q.length then some (List.zipWith (fun a b=>MV.tup [a,b]) l q,[(i,some l),(j,some q),(J.length,.none)],J ++ [.hid]) else .none
theorem zlz (i j:Nat)(J:Hp):iterOf .zip [.ref i,.ref j] J=zipO J[i]? J[j]? i j J:=rfl
theorem zlf (l q:List MV)(i j:Nat)(J:Hp)(h:l.length=q.length):zipO (some (.list l)) (some (.list q)) i j J=some (List.zipWith (fun a b=>MV.tup [a,b]) l q,[(i,some l),(j,some q),(J.length,.none)],J ++ [za.hid]):=by
 exact if_pos h
structure LB (V:Hp)(m:Loc)(S rl pc x du lo hi:Nat)(rows:List Row)(pre:List Nat)(body:List (List Nat))(A:TA)(K:Bool->Nat)(L:Bool->List Ent):Prop where
 s:zU V S
 lS:S+38<=V.length
 r:V[rl]?=some (.list (rows.map rowV))
 p:V[pc]?=some (.list ((pre :: body).map .str))
 ox:V[x]?=some (.list [.ref (A.t false),.ref (A.t true),.ref (K false),.ref (K true)])
 t:zu V lo hi A L
 lT:hi<=V.length
 d:V[du]?=some (.list (.none :: dueL L body))
 m19:m 19=some (.ref S)
 m57:m 57=some (.ref rl)
 m123:m 123=some (.ref pc)
 m14:m 14=some (.ref x)
 m43:m 43=some (.str (pre ++ body.flatten))
 m132:m 132=some (.ref du)
 m87:m 87=some (.str (pre ++ outB L body))
theorem zm8{S:Nat}{pre:List Nat}(rest:List MS)(hs:zU V S)(lS:S+38<=V.length)(hr:V[rl]?=some (.list (rows.map rowV)))(ho:∀ r∈rows,rowOK r)(hn:rows.length<=4)
  (hp:V[pc]?=some (.list ((pre :: body).map .str))) (hpre:pre∈pres) (hA:Alt body) (hb:body.length<=14) (m57:m 57=some (.ref rl)) (m123:m 123=some (.ref pc)) (m19:m 19=some (.ref S)) {GG:Prop} (zz:∀ (V':Hp) (m':Loc) (x du lo hi:Nat) (A:TA) (K:Bool->Nat),(execs prog (callN prog 39) (sA7 :: sA8 :: sA9 :: rest) m V=execs prog (callN prog 39) rest m' V')->(LB V' m' S rl pc x du lo hi rows pre body A K (tabL (fun _=>[]) rows))->GG):GG:=by
 have po:=wu pre hpre
 have ao:=j0 14 body hb hA
 have ss:∀ s∈pre :: body,s.length<=2:=by
  intro s hs
  rcases List.mem_cons.mp hs with rfl | hs
  ·exact po.2.2
  ·exact (ao s hs).1
 have jq:=yV (V:=V) (i:=pc) (sep:=[]) hp 2 ss (by simp;lia)
 rw[qO,List.flatten_cons] at jq
 refine zat 34 hr ho hn fun Vd x A K kl q1 x1 t1 k1 U1 lx=>?_
 have l1:=U1.1
 have hsub:∀ b,∀ e∈tabL (fun _=>[]) rows b,e.text∈texts:=fun b e he=>(t1.keys b e he).2
 have x7:exec prog (callN prog 39) sA7 m V=some (.none,upd (upd m 43 (.str (pre ++ body.flatten))) 14 (.ref x),Vd):=by
  have q1':callN prog 39 92 [.ref rl] V=some (.ref x,Vd):=q1
  unfold sA7
  wp_walk using m57,m123,hp,jq,q1'
 rw[zN x7] at zz
 generalize hLL:tabL (fun _=>[]) rows=L at *
 have p1:=U1.keep hp
 have c0:=ziZ (callN prog 39) (upd (upd m 43 (.str (pre ++ body.flatten))) 14 (.ref x)) 0 rfl pre Vd
 refine zhw (x:=x) (t0:=A.t false) (t1:=A.t true) (K:=K) (L:=L) (pc:=pc) (all:=(pre :: body).map .str) hsub 37 (upd (upd m 43 (.str (pre ++ body.flatten))) 14 (.ref x)) rfl 14 body 1 Vd hb hA rfl x1 k1.d p1 _ fun Ve q2 U2=>?_
 have q2':compLoop [(pc,some ((pre :: body).map MV.str))] (compF (callN prog 39) dueE true [22,126] [] (upd (upd m 43 (.str (pre ++ body.flatten))) 14 (.ref x))) (enumF 0 (pre :: body)) Vd=some (.none :: dueL L body,Ve):=by
  have q2':compLoop [(pc,some ((pre :: body).map MV.str))] (compF (callN prog 39) dueE true [22,126] [] (upd (upd m 43 (.str (pre ++ body.flatten))) 14 (.ref x))) (enumF 1 body) Vd=some (dueL L body,Ve):=q2
  have c0':compF (callN prog 39) dueE true [22,126] [] (upd (upd m 43 (.str (pre ++ body.flatten))) 14 (.ref x)) (.tup [.int ((0:Nat):Int),.str pre]) Vd=some ([.none],Vd):=c0
  simp only[jX,zem,zex,zG p1,if_true,c0',Option.bind_some,Nat.zero_add,q2',List.cons_append,List.nil_append]
 have dl:=zbC L 14 body hb
 have V3:=U2.trans (Upd.app 0 0 Ve [za.list (.none :: dueL L body)])
 have x8:exec prog (callN prog 39) sA8 (upd (upd m 43 (.str (pre ++ body.flatten))) 14 (.ref x)) Vd=some (.none,upd (upd (upd m 43 (.str (pre ++ body.flatten))) 14 (.ref x)) 132 (.ref Ve.length),Ve ++ [za.list (.none :: dueL L body)]):=by
  have dl2:(MV.none :: dueL L body).length<=1000000:=by simp;lia
  unfold dueE at q2'
  unfold sA8
  wp_walk using m123,zgN,p1,zhc,q2'
 rw[zN x8] at zz
 have d3:=zm Ve (za.list (.none :: dueL L body))
 have p3:=V3.keep p1
 have l2:=U2.1
 have l3:(Ve ++ [za.list (.none :: dueL L body)]).length=Ve.length+1:=by simp
 have V13:=U1.trans V3
 generalize hdu:Ve.length=du at *
 generalize Ve ++ [za.list (.none :: dueL L body)]=Vf at *
 have V4:=Upd.app 0 0 Vf [za.hid]
 have h4:=zm Vf za.hid
 have hc:=zht (V4.keep p3) (V4.keep d3) h4
 have q4:=zbT hc (callN prog 39) (upd (upd (upd m 43 (.str (pre ++ body.flatten))) 14 (.ref x)) 132 (.ref du)) L 14 body hb
 have q4':compLoop [(pc,some ((pre :: body).map MV.str)),(du,some (.none :: dueL L body)),(Vf.length,.none)] (compF (callN prog 39) wantE true [126,133] [] (upd (upd (upd m 43 (.str (pre ++ body.flatten))) 14 (.ref x)) 132 (.ref du))) (List.zipWith (fun a b=>MV.tup [a,b]) ((pre :: body).map .str) (.none :: dueL L body)) (Vf ++ [za.hid])=some ((pre :: wantL L body).map .str,Vf ++ [za.hid]):=by
  simp only[List.map_cons,List.zipWith_cons_cons,zem,zex,zio,Option.bind_some] at hc q4 ⊢
  simp only[hc,if_true,q4,Option.bind_some,List.cons_append,List.nil_append]
 have ws:=zah t1 14 body hb hA
 have wl:((pre :: wantL L body).map MV.str).length<=1000000:=by simp[ws.2];lia
 have V5:=V4.trans (Upd.app 0 0 (Vf ++ [za.hid]) [za.list ((pre :: wantL L body).map MV.str)])
 have n5:=zm (Vf ++ [za.hid]) (za.list ((pre :: wantL L body).map MV.str))
 have jw:=yV (V:=Vf ++ [za.hid] ++ [za.list ((pre :: wantL L body).map MV.str)]) (i:=(Vf ++ [za.hid]).length) (sep:=[]) n5 7 (by
  intro s hs
  rcases List.mem_cons.mp hs with rfl | hs
  ·have:=po.2.2;lia
  ·exact ws.1 s hs) (by simp[ws.2];lia)
 rw[qO,List.flatten_cons,zcm 14 body L L hb (fun _=>rfl)] at jw
 have x9:exec prog (callN prog 39) sA9 (upd (upd (upd m 43 (.str (pre ++ body.flatten))) 14 (.ref x)) 132 (.ref du)) Vf=some (.none,upd (upd (upd (upd m 43 (.str (pre ++ body.flatten))) 14 (.ref x)) 132 (.ref du)) 87 (.str (pre ++ outB L body)),Vf ++ [za.hid] ++ [za.list ((pre :: wantL L body).map MV.str)]):=by
  have ll:((pre :: body).map MV.str).length=(MV.none :: dueL L body).length:=by simp[dl]
  have oz:=zlf ((pre :: body).map MV.str) (.none :: dueL L body) pc du Vf ll
  unfold wantE at q4'
  simp only[List.length_append,List.length_singleton] at jw
  unfold sA9
  wp_walk using m123,zlz,p3,d3,oz,q4',jw
 rw[zN x9] at zz
 have W:=V13.trans V5
 refine zz _ _ x du V.length Vd.length A K rfl ⟨hs.keep W,by have:=W.1;lia,W.keep hr,W.keep hp,(V3.trans V5).keep x1,t1.keep (V3.trans V5),(V3.trans V5).1,V5.keep d3,?_,?_,?_,?_,?_,?_,?_⟩
 ·simp[zA,m19]
 ·simp[zA,m57]
 ·simp[zA,m123]
 ·simp[zA]
 ·simp[zA]
 ·simp[zA]
 ·simp[zA]
theorem zai (L:Bool->List Ent):∀ (n:Nat) (body:List (List Nat)),body.length<=n->∀ v∈dueL L body,v=.none∨∃ s,v=.str s
 | _,[]=>fun _=>by simp[dueL]
 | _,[w]=>fun _=>by
  intro v hv
  simp only[dueL,List.mem_singleton] at hv
  rw[hv]
  rcases xq L w with⟨e,_,_⟩ | ⟨e,_⟩
  ·exact .inl e
  ·exact .inr ⟨_,e⟩
 | n,w :: b :: r=>fun hn=>by
  simp only[List.length_cons] at hn
  intro v hv
  simp only[dueL,List.mem_cons] at hv
  rcases hv with rfl | rfl | hv
  ·rcases xq L w with⟨e,_,_⟩ | ⟨e,_⟩
   ·exact .inl e
   ·exact .inr ⟨_,e⟩
  ·exact .inl rfl
  ·exact zai L (n - 2) r (ls2 (by assumption)) v hv
structure LC (V:Hp)(m:Loc)(S rl x lo hi B dn N:Nat)(p:Int)(rows:List Row)(pre:List Nat)(body:List (List Nat))(A:TA)(K:Bool->Nat)(L:Bool->List Ent)(xs:List Nat):Prop where
 s:zU V S
 lS:S+38<=B
 r:V[rl]?=some (.list (rows.map rowV))
 ox:V[x]?=some (.list [.ref (A.t false),.ref (A.t true),.ref (K false),.ref (K true)])
 t:zu V lo hi A (LN L body)
 lT:hi<=B
 b:zH V B [97] (pre ++ outB L body) p N
 n:N<=300000
 d:V[dn]?=some (.list (xs.map MV.ref))
 rc:Recs V B dn L pre body xs
 ldn:B+14<=dn
 xl:xs.length<=100
 lx:x < B
 lr:rl < B
 ok:allok (pre ++ outB L body)
 len:(pre ++ outB L body).length<=1000
 lB:B+13 < V.length
 m19:m 19=some (.ref S)
 m57:m 57=some (.ref rl)
 m14:m 14=some (.ref x)
 m43:m 43=some (.str (pre ++ body.flatten))
 m87:m 87=some (.str (pre ++ outB L body))
 m24:m 24=some (.ref (B+4))
 m124:m 124=some (.ref dn)
theorem zmV{S du lo:Nat}{pre:List Nat}{K:Bool->Nat}{L:Bool->List Ent}(rest:List MS)(h:LB V m S rl pc x du lo hi rows pre body A K L)(hpre:pre∈pres)(hA:Alt body)(hb:body.length<=14)(zz:∀ (V':Hp) (m':Loc) (B dn N:Nat) (p:Int) (xs:List Nat),(execs prog (callN prog 39) (sA10 :: sA11 :: rest) m V=execs prog (callN prog 39) rest m' V')->(LC V' m' S rl x lo hi B dn N p rows pre body A K L xs)->GG):GG:=by
 refine zfh 29 h.s h.t h.p hpre hA (by lia) h.lS h.lT fun Vd dn xs N q1 b1 hN t1 s1 d1 r1 F1 len1 ldn ok1 xl=>?_
 have a19:=h.m19;have a14:=h.m14;have a123:=h.m123;have a132:=h.m132;have a87:=h.m87
 have ox:=h.ox
 have lx:=zg h.ox;have lr:=zg h.r;have ldu:=zg h.d
 have x10:exec prog (callN prog 39) sA10 m V=some (.none,upd (upd m 24 (.ref (V.length+4))) 124 (.ref dn),Vd):=by
  have q1':callN prog 39 97 [.ref pc,.ref (A.t false),.ref S] V=some (.tup [.ref (V.length+4),.ref dn],Vd):=q1
  unfold sA10
  wp_walk using a14,a123,a19,ox,zd9,q1'
 rw[zN x10] at zz
 have du1:=F1.get h.d (by intro l c;cases c)
 have lB1:V.length+13 < Vd.length:=by have:=zg d1;lia
 refine zbs b1 (fun c hc=>yc (ok1 c hc)) (by lia) 36 fun Ve q2 U2=>?_
 have xl2:=r1.len
 have e3:compLoop [(du,some (.none :: dueL L body))] (compF (callN prog 39) (.l (.int 1)) false [133] [.cmp (.v 133) [.isNot] [.l (.none)]] (upd (upd m 24 (.ref (V.length+4))) 124 (.ref dn))) (.none :: dueL L body) Ve=some ((.none :: dueL L body).flatMap ctG,Ve):=by
  refine yF (zG (U2.keep du1)) _ fun v hv=>?_
  have:v=.none∨∃ s,v=.str s:=by
   rcases List.mem_cons.mp hv with rfl | hv
   ·exact .inl rfl
   ·exact zai L 14 body hb v hv
  rcases this with rfl | ⟨s,rfl⟩
  ·wp_walk using ctG,Bool.false_eq_true
  ·wp_walk using ctG
 have c3:((MV.none :: dueL L body).flatMap ctG).length=nE L body:=by
  rw[List.flatMap_cons]
  exact zeA 14 body L L hb (fun _=>rfl)
 have nle:nE L body<=100:=by lia
 have V3:=U2.trans (Upd.app 0 0 Ve [za.list ((MV.none :: dueL L body).flatMap ctG)])
 have x11:exec prog (callN prog 39) sA11 (upd (upd m 24 (.ref (V.length+4))) 124 (.ref dn)) Vd=some (.none,upd (upd m 24 (.ref (V.length+4))) 124 (.ref dn),Ve ++ [za.list ((MV.none :: dueL L body).flatMap ctG)]):=by
  have q2':callN prog 39 91 [.ref (V.length+4)] Vd=some (.str (pre ++ outB L body),Ve):=q2
  have d2:=U2.keep d1
  have du2:=U2.keep du1
  have lm:(xs.map MV.ref).length=nE L body:=by rw[List.length_map,xl2]
  have l6:((MV.none :: dueL L body).flatMap ctG).length<=1000000:=by lia
  have ee:(pre ++ outB L body == pre ++ outB L body)=true:=beq_self_eq_true _
  have ei:decide ((nE L body:Int)=(nE L body:Int))=true:=by simp
  generalize pre ++ outB L body=TX at *
  unfold sA11
  wp_walk using a87,a132,q2',ee,d2,du2,lm,e3,c3,ei,Bool.false_eq_true
 rw[zN x11] at zz
 refine zz _ _ V.length dn N _ xs rfl ⟨s1.keep V3,h.lS,V3.keep (F1.get h.r (by intro l c;cases c)),V3.keep (F1.get ox (by intro l c;cases c)),t1.keep V3,h.lT,b1.keep V3,hN,V3.keep d1,r1.move (fun j o hj _ _ _=>V3.keep hj),ldn,xl,lx,lr,ok1,len1,?_,?_,?_,?_,?_,?_,?_,?_⟩
 ·have:=V3.1;lia
 ·simp[zA,a19]
 ·simp[zA,h.m57]
 ·simp[zA,a14]
 ·simp[zA,h.m43]
 ·simp[zA,a87]
 ·simp[zA]
 ·simp[zA]
noncomputable def Keeps (V V':Hp):Prop:=∀ (j:Nat) (o:za),V[j]?=some o->(∀ l,o≠.inst 0 l)->V'[j]?=some o
theorem zH.move{nm:List Nat}(h:zH J B nm T p N)(f:Keeps J V):zH V B nm T p N:=by
 obtain⟨t,ct,nc,X,l⟩:=h
 exact⟨t,ct,nc,⟨f _ _ X.b (by intro l e;cases e),X.g.map (fun _ _ _ z=>f _ _ z (by intro l e;cases e)) fun _ z=>f _ _ z (by intro l e;cases e),f _ _ X.m (by intro l e;cases e),f _ _ X.d (by intro l e;cases e),f _ _ X.l (by intro l e;cases e)⟩,l⟩
theorem zU.move{S:Nat}(h:zU J S)(f:Keeps J V):zU V S:=by
 obtain⟨s,D,d1,kf,all⟩:=h
 refine⟨f _ _ s (by intro l e;cases e),D,f _ _ d1 (by intro l e;cases e),kf,fun c hc=>?_⟩
 obtain⟨a,mt,fl,e,ea,l1,l2⟩:=all c hc
 exact⟨a,mt,fl,e,f _ _ ea (by intro l e;cases e),l1,l2⟩
theorem LC.move{S lo:Nat}{pre:List Nat}{K:Bool->Nat}{L:Bool->List Ent}(h:LC V m S rl x lo hi B dn N p rows pre body A K L xs)
  (f:Keeps V V') (ht:zu V' lo hi A (LN L body)) (hl:V.length<=V'.length) (hm:∀ y,y=19∨y=57∨y=14∨y=43∨y=87∨y=24∨y=124->m' y=m y):LC V' m' S rl x lo hi B dn N p rows pre body A K L xs:=
 ⟨h.s.move f,h.lS,f _ _ h.r (by intro l e;cases e),f _ _ h.ox (by intro l e;cases e),ht,h.lT,h.b.move f,h.n,f _ _ h.d (by intro l e;cases e),h.rc.move fun j o hj _ _ hn=>f j o hj hn,h.ldn,h.xl,h.lx,h.lr,h.ok,h.len,by have:=h.lB;lia,
  by rw[hm 19 (by simp)];exact h.m19,by rw[hm 57 (by simp)];exact h.m57,by rw[hm 14 (by simp)];exact h.m14,by rw[hm 43 (by simp)];exact h.m43,by rw[hm 87 (by simp)];exact h.m87,by rw[hm 24 (by simp)];exact h.m24,by rw[hm 124 (by simp)];exact h.m124⟩
theorem zhN {P:MV->Prop}(h:isRow v=true)(k:∀ s x,P (.tup [.str s,.int x])):P v:=by
 obtain⟨u,e⟩:=Option.isSome_iff_exists.mp h
 exact eTG e fun l e=>a2G e fun p q e=>eSG e fun s e=>eIG e fun i _=>k s i
theorem zaQ (J:Hp):∀ X:List MV,X.all isRow=true->pyEqL (pyEq J 2) X X=some true
 | []=>fun _=>rfl
 | v :: r=>fun h=>by
  have h:=Bool.and_eq_true_iff.mp h
  have hv:pyEq J 2 v v=some true:=zhN (P:=fun v=>pyEq J 2 v v=some true) h.1 fun s x=>by
   show ((some (s == s)).bind fun t=>((some (decide (x=x))).bind fun u=>(some true).bind fun w=>some (u && w)).bind fun u=>some (t && u))=_
   rw[beq_self_eq_true,decide_eq_true rfl];rfl
  show ((pyEq J 2 v v).bind fun t=>(pyEqL (pyEq J 2) r r).bind fun u=>some (t && u))=_
  rw[hv,zaQ J r h.2];rfl
theorem eq3{i:Nat}(hi:J[i]?=some (.list X))(hj:J[j]?=some (.list X))(hX:X.all isRow=true):pyEq J 3 (.ref i) (.ref j)=some true:=
 (eqL hi hj rfl).trans (zaQ J X hX)
theorem zjG{d b a' b':Nat}(hc:J[c]?=some (.list [.ref a,.ref b]))(hd:J[d]?=some (.list [.ref a',.ref b']))(h1:J[a]?=some (.list X))(h2:J[a']?=some (.list X))(h3:J[b]?=some (.list Y))(h4:J[b']?=some (.list Y))(hX:X.all isRow=true)(hY:Y.all isRow=true):
  cmpop .ne (.ref c) (.ref d) J=some false:=by
 refine zf5 (t:=true) ((eqL hc hd rfl).trans ?_)
 show ((pyEq J 3 _ _).bind fun t=>((pyEq J 3 _ _).bind fun u=>(some true).bind fun w=>some (u && w)).bind fun u=>some (t && u))=_
 rw[eq3 h1 h2 hX,eq3 h3 h4 hY];rfl
theorem zbG {L:List Ent}(h:L.length<=4):(srt (cnt L)).all isRow=true:=
 zcu (zeW (by unfold cnt;rw[List.length_map];exact h)) (zbE L)
section
variable {m:Loc}{V Vd Ve ν4 Vg Vh ν8 Va:Hp}{rl x x2 b t kt S dn c1 c2:Nat}{T:List Nat}
theorem d12 (a57:m 57=some (.ref rl))(q1:callN prog 39 92 [.ref rl] V=some (.ref x2,Vd))(q2:evalE prog (callN prog 39) (.m (.c 10 []) 125 [.l (.str [98])]) m Vd=some (.ref b,Ve)):exec prog (callN prog 39) sA12 m V=some (.none,upd (upd m 134 (.ref x2)) 114 (.ref b),Ve):=by
 unfold sA12
 wp_walk using a57,q1,q2
theorem d13 (a43:m 43=some (.str T))(a114:m 114=some (.ref b))(q3:callN prog 39 90 [.str T] V=some (.ref x,Vd))(q4:callN prog 39 34 [.ref b,.ref x] Vd=some (.none,ν4)):exec prog (callN prog 39) sA13 m V=some (.none,m,ν4):=by
 unfold sA13
 wp_walk using a43,a114,q3,q4
theorem d14 {z nn l0 k0 l1:Nat}{nm:List Nat}{y t c:Int}(a114:m 114=some (.ref b))(a134:m 134=some (.ref x2))(a19:m 19=some (.ref S))(hb:V[b]?=some (.inst 9 (bufL B nm p y t c)))(ox:V[x2]?=some (.list [.ref a,.ref l0,.ref k0,.ref l1]))(sz:callN prog 39 80 [.ref b] V=some (.int (z:Int),V))(q5:callN prog 39 58 [.ref b,.ref a,.ref S,.int 1,.int ((z:Int)+1)] V=some (.int nn,Vg)):exec prog (callN prog 39) sA14 m V=some (.none,upd m 20 (.int nn),Vg):=by
 unfold sA14
 wp_walk using ox,zd9,a19,a114,a134,sz,q5,hb
theorem d15 {nn:Nat}{l0 k0 k1 a' l0' k0' k1':Nat}{D:List MV}(a87:m 87=some (.str T))(a124:m 124=some (.ref dn))(a14:m 14=some (.ref x))(a134:m 134=some (.ref x2))(a114:m 114=some (.ref b))(a20:m 20=some (.int nn))(q6:callN prog 39 91 [.ref b] V=some (.str T,Vh))(d6:Vh[dn]?=some (.list D))(lm:D.length=nn)(nle:nn<=100)
  (ox:Vh[x2]?=some (.list [.ref a,.ref l0,.ref k0,.ref k1])) (q8:callN prog 39 96 [.ref Vh.length] (Vh ++ [za.list [.ref a,.ref l0]])=some (.ref c1,ν8)) (oxA:ν8[x]?=some (.list [.ref a',.ref l0',.ref k0',.ref k1'])) (q10:callN prog 39 96 [.ref ν8.length] (ν8 ++ [za.list [.ref a',.ref l0']])=some (.ref c2,Va)) (cmp:cmpop .ne (.ref c1) (.ref c2) Va=some false):exec prog (callN prog 39) sA15 m V=some (.none,m,Va):=by
 have sl1:sliceO (some (.list [.ref a,.ref l0,.ref k0,.ref k1])) .none (.int 2) Vh=some (.ref Vh.length,Vh ++ [za.list [.ref a,.ref l0]]):=xn _ _ _ (show 4<=1000000 by decide) (by decide)
 have sl2:sliceO (some (.list [.ref a',.ref l0',.ref k0',.ref k1'])) .none (.int 2) ν8=some (.ref ν8.length,ν8 ++ [za.list [.ref a',.ref l0']]):=xn _ _ _ (show 4<=1000000 by decide) (by decide)
 have ee:(T == T)=true:=beq_self_eq_true _
 have ei:decide ((nn:Int)=nn)=true:=decide_eq_true rfl
 have lD:D.length<=1000000:=Nat.le_trans (Nat.le_of_eq lm) (Nat.le_trans nle (by decide))
 unfold sA15
 wp_walk using a87,a124,a14,a134,a114,a20,q6,ee,d6,lm,ei,ox,sl1,q8,oxA,sl2,q10,cmp,Bool.false_eq_true
end
theorem zmS{S lo:Nat}{pre:List Nat}{K:Bool->Nat}(rest:List MS)(h:LC V m S rl x lo hi B dn N p rows pre body A K (tabL (fun _=>[]) rows) xs)(hpre:pre∈pres)(hA:Alt body)(hb:body.length<=14)(hb0:body≠[])(ho:∀ r∈rows,rowOK r)(hn:rows.length<=4)(zz:∀ (V':Hp) (m':Loc),(execs prog (callN prog 39) (sA12 :: sA13 :: sA14 :: sA15 :: rest) m V=execs prog (callN prog 39) rest m' V')->(LC V' m' S rl x lo hi B dn N p rows pre body A K (tabL (fun _=>[]) rows) xs)->GG):GG:=by
 have po:=wu pre hpre
 have fo:=jF (j0 14 body hb hA)
 have okT:allok (pre ++ body.flatten):=zR po.2.1 fo.1
 have lenT:(pre ++ body.flatten).length<=100:=by rw[List.length_append];lia
 have neT:pre ++ body.flatten≠[]:=by
  cases hA with
  | nil=>exact absurd rfl hb0
  | one hw=>intro z;have:=(zq _ hw).2;simp at z;exact this z.2
  | two hw _ _=>intro z;have:=(zq _ hw).2;simp at z;exact this z.2.1
 have a19:=h.m19;have a57:=h.m57;have a14:=h.m14;have a43:=h.m43;have a87:=h.m87;have a124:=h.m124
 have lB:=h.lB;have lT:=h.lT;have lSB:=h.lS
 refine zat 34 h.r ho hn fun Vd x2 A2 K2 kl2 q1 ox2 t2 _ U1 lx2=>?_
 refine jA 34 98 m Vd fun Ve q2 b2 U2 l2=>?_
 have l1:=U1.1
 have x12:exec prog (callN prog 39) sA12 m V=some (.none,upd (upd m 134 (.ref x2)) 114 (.ref (Vd.length+4)),Ve):=d12 a57 q1 q2
 have lx2':=zg ox2
 generalize hB2:Vd.length=B2 at *
 have U3:=Upd.app 0 0 Ve [za.list (iz (pre ++ body.flatten))]
 have n3:=zm Ve (za.list (iz (pre ++ body.flatten)))
 have q3:=qw (V:=Ve) 38 (pre ++ body.flatten) (by lia)
 have b2':zH Ve B2 [98] [] ((([]:List Nat).length:Int)+1) 8:=by simpa using b2
 refine (b2'.keep U3).insert 34 neT n3 (.inr (by lia)) (by lia) fun ν4 q4 b4 U4=>?_
 rw[List.nil_append] at b4
 have x13:exec prog (callN prog 39) sA13 (upd (upd m 134 (.ref x2)) 114 (.ref (B2+4))) Ve=some (.none,upd (upd m 134 (.ref x2)) 114 (.ref (B2+4)),ν4):=d13 a43 rfl q3 q4
 have V12:=U1.trans U2
 have F14:FR B2 V.length B2 Ve ν4:=(FR.zT U3).trans (FR.zaH U4)
 have K14:Keeps V ν4:=fun j o hj hn=>by
  have lj:=zg hj
  exact F14.get (V12.keep hj) (.inl (Nat.lt_of_lt_of_le lj l1)) hn
 have t2b:zu ν4 V.length B2 A2 (tabL (fun _=>[]) rows):=((t2.keep U2).keep U3).out U4 (by lia)
 have l4:=F14.len
 have l3:V.length<=ν4.length:=by have:=V12.1;lia
 refine zkm 29 hA hpre b4 (h.s.move K14) t2b okT (by lia) (by lia) (by lia) (by lia) (.inl (by lia)) (.inl (Nat.le_refl _)) fun Vg p5 N5 q5 b5 t5 F5=>?_
 have sz:=b4.size 37
 have ox4:ν4[x2]?=some (.list [.ref (A2.t false),.ref (A2.t true),.ref (K2 false),.ref (K2 true)]):=F14.get (U2.keep ox2) (by lia) (by intro l c;cases c)
 have x14:exec prog (callN prog 39) sA14 (upd (upd m 134 (.ref x2)) 114 (.ref (B2+4))) ν4=some (.none,upd (upd (upd m 134 (.ref x2)) 114 (.ref (B2+4))) 20 (.int (nE (tabL (fun _=>[]) rows) body:Nat)),Vg):=b4.b fun _ _ hb=>d14 rfl rfl a19 hb ox4 sz q5
 have K15:Keeps V Vg:=fun j o hj hn=>by
  have lj:=zg hj
  exact F5.get (K14 j o hj hn) (.inl (Nat.lt_of_lt_of_le lj l1)) hn
 have l5:V.length<=Vg.length:=by have:=F5.len;lia
 have tA5:zu Vg lo hi A (LN (tabL (fun _=>[]) rows) body):=((h.t.keep V12).fr F14 (.inl (by lia)) (.inl (by lia))).fr F5 (.inl (by lia)) (.inl (by lia))
 refine zbs b5 (fun c hc=>yc (h.ok c hc)) (by have:=h.len;lia) 36 fun Vh q6 U6=>?_
 have ox5:Vg[x2]?=some (.list [.ref (A2.t false),.ref (A2.t true),.ref (K2 false),.ref (K2 true)]):=F5.get ox4 (by lia) (by intro l c;cases c)
 have U7:=U6.trans (Upd.app 0 0 Vh [za.list [.ref (A2.t false),.ref (A2.t true)]])
 have n7:=zm Vh (za.list [.ref (A2.t false),.ref (A2.t true)])
 refine wW (t5.keep U7) 38 n7 fun ν8 c1 a1 b1 q8 c8 a8 b8 U8=>?_
 have U58:=U7.trans U8
 have U9:=Upd.app 0 0 ν8 [za.list [.ref (A.t false),.ref (A.t true)]]
 have n9:=zm ν8 (za.list [.ref (A.t false),.ref (A.t true)])
 refine wW (tA5.keep (U58.trans U9)) 38 n9 fun Va c2 a2 b2'' q10 c10 a10 b10 U10=>?_
 have U8a:=U9.trans U10
 have cmp:=zjG (U8a.keep c8) c10 (U8a.keep a8) a10 (U8a.keep b8) b10 (zbG (tA5.few false)) (zbG (tA5.few true))
 have U5a:=U58.trans U8a
 have xlen:xs.length=nE (tabL (fun _=>[]) rows) body:=h.rc.len
 have x15:exec prog (callN prog 39) sA15 (upd (upd (upd m 134 (.ref x2)) 114 (.ref (B2+4))) 20 (.int (nE (tabL (fun _=>[]) rows) body:Nat))) Vg=some (.none,upd (upd (upd m 134 (.ref x2)) 114 (.ref (B2+4))) 20 (.int (nE (tabL (fun _=>[]) rows) body:Nat)),Va):=d15 a87 a124 a14 rfl rfl rfl q6 (U6.keep (K15 _ _ h.d (fun _=>nofun))) ((List.length_map _).trans xlen) (by have:=h.xl;lia) (U6.keep ox5) q8 (U58.keep (K15 _ _ h.ox (fun _=>nofun))) q10 cmp
 refine zz _ _ ((zN x12).trans ((zN x13).trans ((zN x14).trans (zN x15)))) (h.move (fun j o hj hn=>U5a.keep (K15 j o hj hn)) (tA5.keep U5a) (by have:=U5a.1;lia) ?_)
 intro y hy
 rcases hy with rfl | rfl | rfl | rfl | rfl | rfl | rfl <;> simp[zA]
theorem zdR {L:Bool->List Ent}(h:∀ b,∀ e∈L b,e.used=0)(b:Bool)(W t:List Nat)(ex:Bool):∀ b',∀ e∈newL L b W t ex b',e.used=0:=by
 intro b' e he
 unfold newL updL at he
 split at he
 ·rcases List.mem_append.mp he with he | he
  ·exact h b e (List.mem_filter.mp (List.mem_filter.mp he).1).1
  ·rw[List.mem_singleton.mp he]
 ·exact h b' e he
theorem zak:∀ (rows:List Row) (L:Bool->List Ent),(∀ b,∀ e∈L b,e.used=0)->∀ b,∀ e∈tabL L rows b,e.used=0
 | []=>fun _ h=>h
 | r :: q=>fun L h=>zak q _ (zdR h r.b r.w r.t r.ex)
noncomputable def in2F (call:CallT) (m1:Loc) (u:MV) (J:Hp):Option (List MV×Hp):=(bindT true [15,9] u m1).bind fun m'=>(evalAll prog call [.cmp (.v 9) [.ne] [.l (.int 0)]] m' J).bind fun t=>
      if t.1 then (evalE prog call (.l (.int 1)) m' t.2).bind fun w=>some ([w.1],w.2) else some ([],t.2)
noncomputable def out2F (call:CallT) (m:Loc) (v:MV) (J:Hp):Option (List MV×Hp):=(bindT false [135] v (hide [135,15,9] m)).bind fun m1=>(some (true,J):Option (Bool×Hp)).bind fun t1=>
    if t1.1 then (evalE prog call (.v 135) m1 t1.2).bind fun p2=>(iterOf .val [p2.1] p2.2).bind fun q2=>
     compLoop q2.2.1 (in2F call m1) q2.1 q2.2.2
    else some ([],t1.2)
theorem zlb (call:CallT)(m:Loc)(J:Hp)(it:ME):evalE prog call (.comp2 (.l (.int 1)) 135 it true [15,9] (.v 135) [.cmp (.v 9) [.ne] [.l (.int 0)]]) m J=
  bd (fun p=>bd (fun q=>bd compEnd .mk (compLoop q.2.1 (out2F call m) q.1 q.2.2)) .mk (iterOf .val [p.1] p.2)) .mk (evalE prog call it m J):=rfl
theorem ze4 (call:CallT)(m1:Loc)(s:List Nat)(J:Hp):in2F call m1 (.tup [.str s,.int 0]) J=some ([],J):=by
 have e:in2F call m1 (.tup [.str s,.int 0]) J=bd (fun m'=>bd (fun t=>if t.1 then bd (fun w=>some ([w.1],w.2)) .mk (evalE prog call (.l (.int 1)) m' t.2) else some ([],t.2)) .mk (evalAll prog call [.cmp (.v 9) [.ne] [.l (.int 0)]] m' J)) .mk (bindT true [15,9] (.tup [.str s,.int 0]) m1):=rfl
 rw[e]
 wp_walk using Bool.false_eq_true
theorem kI (call:CallT)(m:Loc)(ha:J[a]?=some (.list X))(hX:∀ v∈X,∃ s,v=.tup [.str s,.int 0]):out2F call m (.ref a) J=some ([],J):=by
 have e:compLoop [(a,some X)] (in2F call (upd (hide [135,15,9] m) 135 (.ref a))) X J=some (X.flatMap (fun _=>[]),J):=yF (zG ha) X fun v hv=>by
  obtain⟨s,rfl⟩:=hX v hv
  exact ze4 call _ s J
 have e0:X.flatMap (fun _:MV=>([]:List MV))=[]:=by simp
 rw[e0] at e
 unfold out2F
 show ((iterOf .val [.ref a] J).bind fun q2=>compLoop q2.2.1 (in2F call (upd (hide [135,15,9] m) 135 (.ref a))) q2.1 q2.2.2)=_
 rw[zbW,ha]
 exact e
theorem eq_nil{i:Nat}(hi:J[i]?=some (.list []))(hj:J[j]?=some (.list [])):cmpop .eq (.ref i) (.ref j) J=some true:=by
 show pyEq J 4 (.ref i) (.ref j)=_
 exact eqL hi hj rfl
theorem zm6{S lo:Nat}{pre:List Nat}{K:Bool->Nat}(h:LC V m S rl x lo hi B dn N p rows pre body A K (tabL (fun _=>[]) rows) xs)(hpre:pre∈pres)(hA:Alt body)(hb:body.length<=14)(zz:∀ (V':Hp) (m':Loc),(execs prog (callN prog 39) [sA16,sA17] m V=some (some (.bool true),m',V'))->GG):GG:=by
 have po:=wu pre hpre
 have fo:=jF (j0 14 body hb hA)
 have okT:allok (pre ++ body.flatten):=zR po.2.1 fo.1
 have lenT:(pre ++ body.flatten).length<=100:=by rw[List.length_append];lia
 have a14:=h.m14;have a43:=h.m43;have a24:=h.m24;have a124:=h.m124
 have lx:=h.lx;have lT:=h.lT
 refine ziI (text:=pre ++ body.flatten) 29 hA h.rc h.b h.t h.d (.inr h.ldn) h.xl (by lia) h.n h.lB (.inl lT) okT (by lia) rfl fun Vd q1 t1 F1=>?_
 have ox:=h.ox
 have ox1:=F1.get ox (.inl lx) (by intro l c;cases c)
 have x16:exec prog (callN prog 39) sA16 m V=some (.none,m,Vd):=by
  have q1':callN prog 39 98 [.ref (B+4),.ref (A.t false),.ref dn,.str (pre ++ body.flatten)] V=some (.bool true,Vd):=q1
  generalize pre ++ body.flatten=T0 at *
  unfold sA16
  wp_walk using a24,a14,ox,zd9,a124,a43,q1',Bool.false_eq_true
 rw[zN x16] at zz
 have U2:=Upd.app 0 0 Vd [za.list [.ref (A.t false),.ref (A.t true)]]
 have n2:=zm Vd (za.list [.ref (A.t false),.ref (A.t true)])
 refine wW (t1.keep U2) 38 n2 fun Vf c a b q3 c3 a3 b3 U3=>?_
 have zr:=zak rows (fun _=>[]) (by intro b e he;cases he)
 have hz:∀ b',∀ v∈srt (cnt (tabL (fun _=>[]) rows b')),∃ s,v=.tup [.str s,.int 0]:=by
  intro b' v hv
  have few:=t1.few b'
  have:=zhr (by unfold cnt;rw[List.length_map];exact few) v hv
  unfold cnt at this
  obtain⟨e,he,rfl⟩:=List.mem_map.mp this
  rw[zr b' e he]
  exact⟨_,rfl⟩
 have o1:=kI (callN prog 39) m a3 (hz false)
 have o2:=kI (callN prog 39) m b3 (hz true)
 have lp:compLoop [(c,some [.ref a,.ref b])] (out2F (callN prog 39) m) [.ref a,.ref b] Vf=some ([],Vf):=by
  simp only[zem,zex,zG c3,if_true,o1,o2,Option.bind_some,List.append_nil]
 have ce:compEnd (([]:List MV),Vf)=some (.ref Vf.length,Vf ++ [za.list []]):=zcp [] Vf (by simp)
 have e4:(Vf ++ [za.list []] ++ [za.list []])[Vf.length]?=some (.list []):=zf _ (zm _ _)
 have e5:(Vf ++ [za.list []] ++ [za.list []])[Vf.length+1]?=some (.list []):=yd (by simp)
 have en:=eq_nil e4 e5
 refine zz (Vf ++ [za.list []] ++ [za.list []]) m ?_
 have q3':callN prog 39 96 [.ref Vd.length] (Vd ++ [za.list [.ref (A.t false),.ref (A.t true)]])=some (.ref c,Vf):=q3
 have sl:sliceO (some (.list [.ref (A.t false),.ref (A.t true),.ref (K false),.ref (K true)])) .none (.int 2) Vd=some (.ref Vd.length,Vd ++ [za.list [.ref (A.t false),.ref (A.t true)]]):=by
  rw[xn _ _ _ (by simp) (by decide)];rfl
 have sl':sliceGet (.ref x) .none (.int 2) Vd=some (.ref Vd.length,Vd ++ [za.list [.ref (A.t false),.ref (A.t true)]]):=by rw[jY,ox1];exact sl
 have q4:evalE prog (callN prog 39) (.f 96 [.slice (.v 14) (.l .none) (.l (.int 2))]) m Vd=some (.ref c,Vf):=by wp_walk using fst_mk
 have c2:=zlb (callN prog 39) m Vd (.f 96 [.slice (.v 14) (.l .none) (.l (.int 2))])
 rw[q4,yp,zbW,c3,zec,yp,lp,yp,ce] at c2
 unfold sA17
 wp_walk using en
theorem law_small (l:List Int)(hl:l.length<=1000000):∃ J',callN Mine.prog 40 99 [.ref 0] [.frz l]=some (.bool true,J'):=by
 refine zmI l hl fun V m S rl pc rows pre body e1 hs lS hr ho hn hp hpre hA hb m57 m123 m19 hb0=>?_
 refine zm8 [sA10,sA11,sA12,sA13,sA14,sA15,sA16,sA17] hs lS hr ho hn hp hpre hA hb m57 m123 m19 fun Vd ma x du lo hi A K e2 h2=>?_
 refine zmV [sA12,sA13,sA14,sA15,sA16,sA17] h2 hpre hA hb fun Ve mc B dn N p xs e3 h3=>?_
 refine zmS [sA16,sA17] h3 hpre hA hb hb0 ho hn fun Vf me e4 h4=>?_
 refine zm6 h4 hpre hA hb fun ν4 mf e5=>?_
 refine⟨ν4,?_⟩
 rw[zli 39,e1,e2,e3,e4,e5]
 rfl
end MineB
end
section
open PySem PySem.W PyProof.Rows
set_option maxRecDepth 100000
namespace MineH
noncomputable abbrev rr:OpenRow:=PySem.Challenge.rw_up0006_01.row
noncomputable def pg:Program:=rr.toRowW.prog
noncomputable def bB:List Stmt:=behindTheImports pg
noncomputable def dS (j:Nat):Stmt:=bB.getD j default
noncomputable def oF {α:Type} (s:Stmt) (d:α) (k:Str->Arguments->List Stmt->Scope->Pos->α):α:=@Stmt.casesOn (fun _=>α) s (fun n a b _ _ _ c _ _ p=>k n a b c p) (fun _ _ _ _ _ _ _ _ _ _=>d) (fun _ _ _ _ _ _ _ _ _ _ _=>d) (fun _ _=>d) (fun _ _=>d) (fun _ _ _=>d) (fun _ _ _ _ _ _ _=>d) (fun _ _ _ _=>d) (fun _ _ _ _ _=>d) (fun _ _ _ _ _=>d) (fun _ _ _ _ _=>d) (fun _ _ _ _=>d) (fun _ _ _ _=>d) (fun _ _ _=>d) (fun _ _ _=>d) (fun _ _ _=>d) (fun _ _ _=>d) (fun _ _ _ _ _=>d) (fun _ _ _ _ _=>d) (fun _ _ _=>d) (fun _ _=>d) (fun _ _ _ _=>d) (fun _ _=>d) (fun _ _=>d) (fun _ _=>d) (fun _=>d) (fun _=>d) (fun _=>d)
noncomputable def mS (j m:Nat):Stmt:=@Stmt.casesOn (fun _=>Stmt) (dS j) (fun _ _ _ _ _ _ _ _ _ _=>default) (fun _ _ _ _ _ _ _ _ _ _=>default) (fun _ _ _ b _ _ _ _ _ _ _=>b.getD m default) (fun _ _=>default) (fun _ _=>default) (fun _ _ _=>default) (fun _ _ _ _ _ _ _=>default) (fun _ _ _ _=>default) (fun _ _ _ _ _=>default) (fun _ _ _ _ _=>default) (fun _ _ _ _ _=>default) (fun _ _ _ _=>default) (fun _ _ _ _=>default) (fun _ _ _=>default) (fun _ _ _=>default) (fun _ _ _=>default) (fun _ _ _=>default) (fun _ _ _ _ _=>default) (fun _ _ _ _ _=>default) (fun _ _ _=>default) (fun _ _=>default) (fun _ _ _ _=>default) (fun _ _=>default) (fun _ _=>default) (fun _ _=>default) (fun _=>default) (fun _=>default) (fun _=>default)
noncomputable def vs (x:Str) (t:Nat):Value:=.str x t
noncomputable def vr (a:Nat):Value:=.ref a
noncomputable def vi (n:Nat):Value:=.int (Int.ofNat n) 0
noncomputable def ob (c:String) (d:Data) (l:List (Option Value)):Obj:=⟨.type c,none,d,l.toArray⟩
noncomputable def tp (l:List Value):Obj:=⟨.type "tuple", none,.seq l.toArray 0,#[]⟩
noncomputable def t0:Obj:=tp []
noncomputable def fl (l:List Value):Obj:=⟨.none,none,.fields l.toArray,#[]⟩
noncomputable def f0:Obj:=fl []
noncomputable def ns (l:List Str):Nat->List Value:=@List.rec Str (fun _=>Nat->List Value) (fun _=>[]) (fun x _ ih t=>vs x t :: ih t.succ) l
noncomputable def nm (t:Nat) (l:List Str):Obj:=tp (ns l t)
noncomputable def en (x:Str) (t:Nat) (v:Value):Str×Nat×Value:=(x,t,v)
noncomputable def f3 (l:List (Nat×Nat×Nat)):Obj:=fl (@List.rec (Nat×Nat×Nat) (fun _=>List Value) [] (fun x _ ih=>vi x.1 :: vi x.2.1 :: vr x.2.2 :: ih) l)
noncomputable def di (c:Value) (P:Params) (l:List (Str×Nat×Value)) (n:Nat):Obj:=⟨c,none,.dict (l.map fun x=>⟨PyData.keyHash P x.1,.str x.1 x.2.1,x.2.2⟩).toArray n,#[]⟩
noncomputable def fO (s:Stmt) (k:Str->Arguments->FuncBody->Scope->Obj):Obj:=oF s default fun n a b c _=>k n a (.stmts b) c
noncomputable def fa (s:Stmt) (q:Str):Obj:=fO s fun n a b c=>⟨.none,none,.func ⟨n,q,a,b,c,0,[],.none,.none,.none,.none,none,.none,.none,0⟩,#[]⟩
noncomputable def fb (s:Stmt) (q:Str) (d:Value) (m:Value) (cd:Nat):Obj:=fO s fun n a b c=>⟨.type "function", none,.func ⟨n,q,a,b,c,3,[],d,.none,.none,m,none,.ref cd,.none,0⟩,#[]⟩
noncomputable def cO (n q:Str) (t ln ac fg a:Nat) (f:Bool) (x y z:Value) (u:Nat):Obj:=ob "code" (.fields #[vs n t,vs q (t+1),vs "/claim/cut.py" (t+2),vi ln,vi ac,vi 0,vi 0,vi fg,vr a,.bool f,vi 181,vr (a+1),.none,x,y,z,vi u,vi ln,vs "/claim/cut.py" (u+1)]) []
noncomputable def cb (n q:Str) (t ln a:Nat):Obj:=cO n q t ln 0 0 a false .none .none .none (t+3)
noncomputable def c0 (n q:Str) (t ln ac a:Nat):Obj:=cO n q t ln ac 3 a true .none .none (vr (a+2)) (t+3)
noncomputable def cf (n q:Str) (t ln ac a k:Nat):Obj:=cO n q t ln ac 3 a true (vr (a+2)) (vr (a+3)) (vr (a+4)) (t+3+k)
noncomputable def n (o:Obj) (l r:BT):BT:=.node o l r
noncomputable def f (o:Obj):BT:=.node o .nil .nil
noncomputable def gA:Value:=vs "emacs.abbrevtable" 247
noncomputable def gB:Value:=vs "emacs.editing" 477
noncomputable def gC:Value:=vs "emacs.syntax" 675
noncomputable def gD:Value:=vs "emacs.objects" 1102
noncomputable def gE:Value:=vs "law_up0006_01" 1525
noncomputable def gF:Value:=vs "emacs.buffer" 1246
noncomputable def gG:Value:=vs "emacs.abbrevs" 897
noncomputable def gH:Value:=vs "emacs.gap" 982
noncomputable def gI:Value:=vs "emacs.markers" 1146
noncomputable def gJ:Value:=vs "emacs.buffers" 1385
noncomputable def gK:Value:=vs "emacs.words" 872
noncomputable def gL:Value:=vs "emacs.casefold" 194
noncomputable def gM:Value:=vs "__main__" 164
noncomputable def gN:Value:=vs "emacs.skips" 637
noncomputable def gO:Value:=vs "emacs.syntaxpairs" 625
noncomputable def gP:Value:=vs "emacs.errors" 444
noncomputable def fM (j m:Nat) (q:Str) (g:Value) (cd:Nat):Obj:=fb (mS j m) q .none g cd
noncomputable def fC (j:Nat) (g:Value) (cd:Nat):Obj:=fO (dS j) fun n _ _ _=>fb (dS j) n .none g cd
noncomputable def fA (j:Nat):Obj:=fO (dS j) fun n _ _ _=>fa (dS j) n
noncomputable def fN (j m:Nat) (q:Str):Obj:=fa (mS j m) q
noncomputable def kl (n:Str) (a b t u:Nat):Obj:=ob "type" (.cls ⟨n,[.type "object"],[vr a,.type "object"],b,n,true,[],[],false,none,false⟩) [none,none,some (vs n t),some (vs n u),some (.builtin "object.__new__"),some (.bool true)]
noncomputable def gw (t a:Nat):Obj:=ob "getset_descriptor" (.fields #[vs "__weakref__" t,vr a,.builtin "ExceptionGroup.__weakref__",.none]) []
noncomputable def gd (t a:Nat):Obj:=ob "getset_descriptor" (.fields #[vs "__dict__" t,vr a,.builtin "function.__dict__",.builtin "function.__dict__#set"]) []
noncomputable def cF (n:Str):Nat->Nat->Nat->Nat->Nat->Obj:=cf n n
noncomputable def cG (n:Str):Nat->Nat->Nat->Nat->Obj:=c0 n n
noncomputable def cH (n:Str):Nat->Nat->Nat->Obj:=cb n n
noncomputable def tr (P:Params) (o2 o3 o12 o8:Obj):BT:=(n (boot_o_0 P) (n (boot_o_1 P) (n o3 (n (boot_o_7 P) (n t0 (n (nm 206 ["code"]) (n t0 (n (fC 15 gA 126) (n (fC 35 gB 254) (n t0 (f (nm 1611 ["pieces","table","syntax","buffer","done","place","piece","found"])) .nil) (f t0)) (n (nm 729 ["self"]) (f (nm 1086 ["self"])) (f (nm 1432 [""])))) (n (fA 25) (n (fA 44) (f f0) (f (fN 80 9 "Buffer.tick"))) (n (fM 61 3 "SyntaxTable.modify_range" gC 446) (f t0) (f (nm 1511 ["current","last_marker","last_number","listeners","order","rows"]))))) (n t0 (n t0 (n t0 (f (fA 70)) (f t0)) (n t0 (f (fM 76 1 "Opaque.kind" gD 670)) (f t0))) (n (nm 486 ["buffer"]) (n (cF "skip_backward" 663 230 6 346 6) (f (cf "widen_gap" "GapText.widen_gap" 1039 413 2 602 3)) (f t0)) (n (gd 850 478) (f t0) (f f0))))) (n (fA 5) (n (cf "__init__" "Abbrev.__init__" 263 31 4 74 4) (n f0 (n f0 (n (kl "Expansion" 527 526 899 907) (f (fC 95 gE 1038)) .nil) (f (cf "kind" "Buffer.kind" 1278 526 1 778 1))) (n (gw 746 397) (f (f3 [(446,4,663),(449,4,670),(452,4,677)])) (f f0))) (n (ob "frame" .plain [some (vr 206),some (vr 3),some (vr 203),none,some (vs "emacs.errors" 444),none,some (vr 0)]) (n (cF "is_of" 639 223 5 330 6) (f t0) (f (fM 80 11 "Buffer.set_modified" gF 846))) (n f0 (f (cf "drop" "Markers.drop" 1183 467 2 714 2)) (f (nm 1540 ["deck","many","whole_here","one","two"]))))) (n (fA 13) (n (nm 408 ["codes","syntax","place"]) (n t0 (f (fC 72 gG 558)) (f (nm 1317 ["self","start","end"]))) (n (fN 61 1 "SyntaxTable.modify") (f (ob "builtin_function_or_method" (.fields #[(.builtin "type.__prepare__"),(.type "type")]) [])) (f (cf "kill" "BufferTable.kill" 1485 613 2 938 2)))) (n (fA 33) (n t0 (f t0) (f (cf "by_number" "BufferTable.by_number" 1406 573 2 874 2))) (n (cF "standard_table" 863 307 0 490 3) (f (kl "Markers" 751 750 1148 1156)) (f t0)))))) (n f0 (n t0 (n (f3 [(31,4,79)]) (n t0 (n t0 (n f0 (f t0) .nil) (f (fN 80 1 "Buffer.shown"))) (n t0 (f (gd 1095 646)) (f t0))) (n (cF "unexpanded" 435 112 2 194 3) (n (cF "syntax_at" 627 219 3 322 4) (f (nm 1015 ["self","at"])) (f (cf "is_modified" "Buffer.is_modified" 1338 552 1 834 1))) (n t0 (f (fN 78 2 "Markers.put")) (f f0)))) (n (di (.type "dict") P [en "__module__" 292 (vs "emacs.abbrevtable" 247),en "__firstlineno__" 296 (.int 36 295),en "__init__" 305 (vr 101),en "__static_attributes__" 310 (vr 102),en "__dict__" 312 (vr 105),en "__weakref__" 314 (vr 106),en "__doc__" 315 .none] 4) (n (fC 21 gA 166) (n t0 (f (cF "unexpand_abbrev" 957 358 3 546 4)) (f f0)) (n t0 (f t0) (f (fN 82 9 "BufferTable.other")))) (n t0 (n (ob "frame" .plain [some (vr 358),some (vr 3),some (vr 355),none,some (vs "emacs.syntax" 675),none,some (vr 0)]) (f (fM 74 6 "GapText.insert" gH 614)) (f (fN 82 0 "BufferTable.__init__"))) (n (fA 62) (f f0) (f (nm 1577 ["known","word","own"])))))) (n t0 (n (ob "builtin_function_or_method" (.fields #[(.builtin "object.__init_subclass__"),(vr 83)]) []) (n (nm 377 ["code","syntax"]) (n (nm 561 ["buffer","place","many","before_markers"]) (f t0) (f (fM 80 3 "Buffer.begin" gF 790))) (n t0 (f (cf "shown" "Opaque.shown" 1116 446 1 658 1)) (f (nm 1463 ["self","buffer"])))) (n (nm 467 ["data","symbol"]) (n (cF "skip_forward" 651 226 6 338 6) (f (fN 74 4 "GapText.move_gap")) (f (nm 1361 ["begv","codes_ticks","file","is_live","is_read_only","listeners","locals","mark","markers","name","number","overlays","point","props","saved_ticks","syntax","text","ticks","undo","zv"]))) (n (nm 843 ["self"]) (f (fM 78 4 "Markers.within" gI 726)) (f (cG "_law_codes" 1548 640 1 980))))) (n (cF "define" 324 45 4 114 5) (n t0 (n (fA 43) (f t0) (f t0)) (n (cf "modify_all" "SyntaxTable.modify_all" 792 279 3 434 5) (f (nm 1163 ["self"])) (f (fM 82 11 "BufferTable.new_marker" gJ 950)))) (n (cF "tell_ahead" 509 136 3 242 4) (n f0 (f f0) (f (fM 82 2 "BufferTable.by_name" gJ 886))) (n (fC 65 gK 502) (f t0) (f (fC 91 gE 1014)))))))) (n t0 (n (fA 0) (n (fC 3 gL 34) (n t0 (n t0 (n t0 (n (f3 [(339,4,523)]) (f (fC 93 gE 1026)) .nil) (f t0)) (n (fM 58 3 "Syntax.is_word_part" gC 386) (f (fM 74 10 "GapText.is_whole" gH 642)) (f t0))) (n f0 (n f0 (f (cf "size" "GapText.size" 1005 386 1 574 1)) (f f0)) (n t0 (f t0) (f (gw 1520 961))))) (n (fN 12 0 "AbbrevTable.__init__") (n t0 (n (tp [(.bool false)]) (f f0) (f (fN 80 5 "Buffer.size"))) (n (tp [.none]) (f t0) (f t0))) (n (fC 31 gB 226) (n (di (.type "dict") P [en "__module__" 696 (vs "emacs.syntax" 675),en "__qualname__" 698 (vs "Syntax" 697),en "__firstlineno__" 700 (.int 241 699),en "__init__" 710 (vr 366),en "has" 718 (vr 373),en "is_escape" 725 (vr 380),en "is_word_part" 732 (vr 387),en "style" 739 (vr 394),en "__static_attributes__" 743 (vr 395)] 9) (f (nm 1051 ["self","at","codes"])) (f t0)) (n t0 (f (fN 78 6 "Markers.deleted")) (f (cF "_law_tables" 1560 644 1 990 8)))))) (n f0 (n (kl "Abbrev" 83 82 251 259) (n (cF "entry_of" 364 72 2 142 4) (n (cF "hung_out" 549 158 3 270 3) (f (ob "builtin_function_or_method" (.fields #[(.builtin "object.__init_subclass__"),(vr 527)]) [])) (f (nm 1288 ["self"]))) (n f0 (f f0) (f (cf "select" "BufferTable.select" 1452 598 2 910 2)))) (n t0 (n f0 (f t0) (f t0)) (n (cf "kind_of" "SyntaxTable.kind_of" 832 300 2 462 2) (f (nm 1194 ["self","start","end","found","number"])) (f (fC 85 gE 978))))) (n f0 (n (fC 23 gA 178) (n t0 (f t0) (f (fM 80 7 "Buffer.codes" gF 818))) (n f0 (f (cH "Markers" 1150 455 689)) (f (nm 1496 ["self","advances"])))) (n f0 (n (fN 58 1 "Syntax.has") (f (fN 74 8 "GapText.put")) (f (nm 1417 ["self","name","number"]))) (n (nm 877 ["view","table","at","count","kinds","start","end"]) (f (ob "builtin_function_or_method" (.fields #[(.builtin "object.__init_subclass__"),(vr 751)]) [])) (f t0)))))) (n (cF "downcase" 196 5 1 22 1) (n t0 (n f0 (n (fA 17) (n (fA 37) (n (cf "__init__" "Expansion.__init__" 911 339 4 518 4) (f t0) .nil) (f f0)) (n (nm 740 ["flags","kind","match"]) (f t0) (f (fN 82 5 "BufferTable.rename")))) (n (di (.type "dict") P [en "__module__" 453 (vs "emacs.errors" 444),en "__qualname__" 455 (vs "LispSignal" 454),en "__firstlineno__" 457 (.int 118 456),en "__init__" 466 (vr 214),en "__static_attributes__" 469 (vr 215)] 5) (n f0 (f (fM 74 2 "GapText.code" gH 586)) (f (nm 1348 ["self","is_so"]))) (n (fN 61 5 "SyntaxTable.at") (f f0) (f (cF "_law_deck" 1527 622 1 966 4))))) (n (ob "super" (.fields #[(vr 104),(vr 104),(vr 104)]) []) (n (cG "has_lower" 399 90 1 168) (n (tp [(.bool false)]) (f (nm 970 ["buffer","table","syntax","start","end","bound","many","place","is_there"])) (f (cf "code_at" "Buffer.code_at" 1306 538 2 806 2))) (n t0 (f (gw 1141 681)) (f f0))) (n t0 (n t0 (f t0) (f f0)) (n f0 (f (cf "replaced" "Markers.replaced" 1225 491 4 742 6)) (f (fC 89 gE 1002)))))) (n (fC 7 gL 58) (n t0 (n (fC 19 gA 154) (n (fC 39 gB 282) (f t0) (f t0)) (n (fC 60 gC 410) (f (nm 1126 ["self"])) (f (fM 82 7 "BufferTable.set_current" gJ 922)))) (n (ob "super" (.fields #[(vr 217),(vr 217),(vr 217)]) []) (n f0 (f f0) (f (ob "builtin_function_or_method" (.fields #[(.builtin "object.__init_subclass__"),(vr 857)]) []))) (n (fM 61 7 "SyntaxTable.copy" gC 474) (f t0) (f (fA 87))))) (n (nm 338 ["table","word","key"]) (n t0 (n t0 (f (fN 74 0 "GapText.__init__")) (f t0)) (n (nm 806 ["self","first","last","syntax"]) (f (fM 78 0 "Markers.__init__" gI 698)) (f t0))) (n (nm 522 ["buffer","start","end","old_length","listener"]) (n (cf "is_escape" "Syntax.is_escape" 719 251 1 374 1) (f (cf "narrow_gap" "GapText.narrow_gap" 1076 438 1 630 1)) (f t0)) (n t0 (f (tp [(.int 8 1260)])) (f (cG "_law_counts" 1602 679 1 1016))))))))) (n (boot_o_5 P) (n (boot_o_9 P) (n (nm 190 ["k"]) (n (fA 3) (n (cF "initials_upcased" 236 21 2 60 5) (n f0 (n f0 (n (di (.type "dict") P [en "__module__" 906 (vs "emacs.abbrevs" 897),en "__qualname__" 908 (vs "Expansion" 907),en "__firstlineno__" 910 (.int 337 909),en "__init__" 920 (vr 524),en "__static_attributes__" 924 (vr 525)] 5) (f (fA 93)) .nil) (f (cf "__init__" "Buffer.__init__" 1261 501 4 764 4))) (n (fN 58 3 "Syntax.is_word_part") (f (fN 74 10 "GapText.is_whole")) (f f0))) (n (fC 25 gA 192) (n (fb (dS 44) "replace" (vr 314) gB 320) (f t0) (f (fM 80 9 "Buffer.tick" gF 832))) (n f0 (f (cf "numbers" "Markers.numbers" 1167 460 1 700 1)) (f (kl "BufferTable" 961 960 1387 1395))))) (n (nm 300 ["self","name","parents"]) (n (cF "many_words" 382 80 2 156 5) (n (cF "put_in" 568 168 5 284 5) (f (fC 70 gG 544)) (f (nm 1302 ["self"]))) (n (cH "SyntaxTable" 765 270 415) (f f0) (f (cf "bury" "BufferTable.bury" 1468 604 2 924 2)))) (n (fA 31) (n t0 (f t0) (f (cH "BufferTable" 1389 563 863))) (n (ob "super" (.fields #[(vr 478),(vr 478),(vr 478)]) []) (f (nm 1217 ["self","start","end","number","marker"])) (f t0))))) (n (fC 5 gL 48) (n (nm 273 ["codes","is_exact","used","word"]) (n t0 (n t0 (f (gw 927 527)) (f t0)) (n (ob "builtin_function_or_method" (.fields #[(.builtin "object.__init_subclass__"),(vr 397)]) []) (f (ob "frame" .plain [some (vr 656),some (vr 3),some (vr 653),none,some (vs "emacs.objects" 1102),none,some (vr 0)])) (f t0))) (n f0 (n (tp [(.bool false)]) (f (cf "codes" "GapText.codes" 1020 394 3 588 4)) (f f0)) (n t0 (f t0) (f (fA 85))))) (n (fC 13 gA 112) (n (fA 23) (n (cF "insert" 589 183 3 300 3) (f (ob "builtin_function_or_method" (.fields #[(.builtin "type.__prepare__"),(.type "type")]) [])) (f (fN 80 7 "Buffer.codes"))) (n (fM 61 1 "SyntaxTable.modify" gC 432) (f t0) (f t0))) (n (fC 33 gB 240) (n (nm 714 ["self","flag"]) (f (nm 1070 ["self","at","code"])) (f t0)) (n t0 (f (gw 1241 751)) (f (cF "_law_risen" 1583 660 2 1004 7))))))) (n t0 (n (cF "is_upper" 210 13 1 36 1) (n (ob "frame" .plain [some (vr 72),some (vr 3),some (vr 69),none,some (vs "emacs.abbrevtable" 247),none,some (vr 0)]) (n (nm 356 ["table","found","names","waiting","at"]) (n (nm 543 ["buffer","place","codes"]) (n t0 (f (cF "_law_are_taken_back" 1622 694 4 1028 5)) .nil) (f (fM 80 1 "Buffer.shown" gF 776))) (n (cf "style" "Syntax.style" 733 257 1 388 1) (f (ob "super" (.fields #[(vr 646),(vr 646),(vr 646)]) [])) (f (nm 1445 ["self","buffer","name","is_unique"])))) (n (tp [(.type "Exception")]) (n (tp [(.bool false)]) (f (fN 74 2 "GapText.code")) (f t0)) (n (nm 825 ["self","code","table","found"]) (f (fM 78 2 "Markers.put" gI 712)) (f t0)))) (n (gd 311 104) (n f0 (n (cF "insert_at" 579 181 4 292 4) (f t0) (f t0)) (n (cf "__init__" "SyntaxTable.__init__" 775 272 2 420 2) (f o8) (f (fM 82 9 "BufferTable.other" gJ 936)))) (n (cF "need_room" 490 128 2 228 2) (n f0 (f f0) (f (fM 82 0 "BufferTable.__init__" gJ 872))) (n (fC 62 gC 488) (f t0) (f (fA 89)))))) (n (fA 7) (n (ob "builtin_function_or_method" (.fields #[(.builtin "type.__prepare__"),(.type "type")]) []) (n (fA 19) (n (fA 39) (f (cF "word_before" 932 343 2 532 6)) (f f0)) (n (fA 60) (f t0) (f (fN 82 7 "BufferTable.set_current")))) (n (ob "type" (.cls ⟨"LispSignal",[(.type "Exception")],[(vr 217),(.type "Exception"),(.type "BaseException"),(.type "object")],216,"LispSignal",true,[],[],false,none,false⟩) [some (vr 201),none,some (vs "LispSignal" 446),some (vs "LispSignal" 454),some (.builtin "Exception.__new__"),some (.bool true)]) (n (tp [(.bool false)]) (f (fM 74 4 "GapText.move_gap" gH 600)) (f (ob "type" (.cls ⟨"Buffer",[(vr 681)],[(vr 857),(vr 681),(.type "object")],856,"Buffer",true,[],[],false,none,false⟩) [some (vr 756),none,some (vs "Buffer" 1248),some (vs "Buffer" 1256),some (.builtin "object.__new__"),some (.bool true)]))) (n (fN 61 7 "SyntaxTable.copy") (f f0) (f t0)))) (n t0 (n (cF "written" 414 97 4 180 5) (n (fC 43 gB 312) (f (nm 999 ["self","codes","room"])) (f (cf "goto" "Buffer.goto" 1323 546 2 820 2))) (n t0 (f (fN 78 0 "Markers.__init__")) (f f0))) (n t0 (n t0 (f t0) (f f0)) (n f0 (f (cH "Buffer" 1250 499 759)) (f f0))))))) (n (cH "<module>" 182 1 11) (n (fC 0 gM 20) (n f0 (n (di (.type "dict") P [en "__module__" 258 (vs "emacs.abbrevtable" 247),en "__qualname__" 260 (vs "Abbrev" 259),en "__firstlineno__" 262 (.int 29 261),en "__init__" 272 (vr 80),en "__static_attributes__" 277 (vr 81)] 5) (n (cF "own_entry" 344 53 2 128 3) (n (cF "text_out" 530 143 3 256 4) (n (ob "frame" .plain [some (vr 516),some (vr 3),some (vr 513),none,some (vs "emacs.abbrevs" 897),none,some (vr 0)]) (f f0) .nil) (f (nm 1274 ["self"]))) (n f0 (f (di (.type "dict") P [en "__module__" 991 (vs "emacs.gap" 982),en "__firstlineno__" 995 (.int 378 994),en "__init__" 1004 (vr 573),en "size" 1011 (vr 580),en "code" 1019 (vr 587),en "codes" 1029 (vr 594),en "move_gap" 1038 (vr 601),en "widen_gap" 1047 (vr 608),en "insert" 1056 (vr 615),en "delete" 1066 (vr 622),en "put" 1075 (vr 629),en "narrow_gap" 1082 (vr 636),en "is_whole" 1089 (vr 643),en "__static_attributes__" 1094 (vr 644),en "__dict__" 1096 (vr 647),en "__weakref__" 1098 (vr 648),en "__doc__" 1099 .none] 4)) (f (cf "fresh_name" "BufferTable.fresh_name" 1433 592 3 896 3)))) (n t0 (n t0 (f t0) (f t0)) (n (cf "own" "SyntaxTable.own" 813 287 2 448 3) (f (nm 1177 ["self","marker","position"])) (f (ob "builtin_function_or_method" (.fields #[(.builtin "object.__init_subclass__"),(vr 961)]) []))))) (n (fM 12 0 "AbbrevTable.__init__" gA 100) (n (fA 21) (n f0 (f t0) (f (fM 80 5 "Buffer.size" gF 804))) (n f0 (f (cf "same_as" "Opaque.same_as" 1130 452 2 672 2)) (f (nm 1479 ["self","buffer","number"])))) (n f0 (n (f3 [(243,4,365),(248,4,372),(251,4,379),(254,4,386),(257,4,393)]) (f (fN 74 6 "GapText.insert")) (f (nm 1402 ["self"]))) (n t0 (f (fM 78 6 "Markers.deleted" gI 740)) (f t0))))) (n (cG "upcased" 224 17 1 50) (n (gw 280 83) (n t0 (n t0 (f f0) (f (fN 80 3 "Buffer.begin"))) (n (cG "sorted_flags" 751 259 1 402) (f t0) (f t0))) (n (cf "__init__" "LispSignal.__init__" 458 120 3 208 3) (n t0 (f (nm 1033 ["self","at","moved"])) (f (cf "touch" "Buffer.touch" 1353 558 2 848 2))) (n t0 (f (fN 78 4 "Markers.within")) (f f0)))) (n t0 (n f0 (n (nm 601 ["buffer","start","end","low","high","gone"]) (f (cH "GapText" 986 378 563)) (f f0)) (n t0 (f t0) (f (fN 82 11 "BufferTable.new_marker")))) (n t0 (n (fM 58 1 "Syntax.has" gC 372) (f (fM 74 8 "GapText.put" gH 628)) (f (fN 82 2 "BufferTable.by_name"))) (n (fA 65) (f (ob "builtin_function_or_method" (.fields #[(.builtin "type.__prepare__"),(.type "type")]) [])) (f (fA 91))))))) (n t0 (n (nm 220 ["code"]) (n t0 (n (fC 17 gA 140) (n (fC 37 gB 268) (n (nm 921 ["codes","place","word"]) (f (fA 95)) .nil) (f t0)) (n (kl "Syntax" 397 396 689 697) (f (di (.type "dict") P [en "__module__" 1111 (vs "emacs.objects" 1102),en "__qualname__" 1113 (vs "Opaque" 1112),en "__firstlineno__" 1115 (.int 444 1114),en "shown" 1122 (vr 664),en "kind" 1129 (vr 671),en "same_as" 1137 (vr 678),en "__static_attributes__" 1138 (vr 679)] 7)) (f (fM 82 5 "BufferTable.rename" gJ 908)))) (n (f3 [(120,4,213)]) (n t0 (f f0) (f (fN 80 11 "Buffer.set_modified"))) (n (fM 61 5 "SyntaxTable.at" gC 460) (f t0) (f t0)))) (n t0 (n t0 (n f0 (f (fA 72)) (f t0)) (n (nm 786 ["self","code","syntax"]) (f (ob "builtin_function_or_method" (.fields #[(.builtin "object.__init_subclass__"),(vr 681)]) [])) (f t0))) (n (nm 501 ["buffer","start","end","low","high"]) (n (cf "__init__" "Syntax.__init__" 701 243 4 360 4) (f (cf "delete" "GapText.delete" 1057 425 3 616 4)) (f t0)) (n t0 (f (nm 1237 ["rows"])) (f f0))))) (n f0 (n (cH "AbbrevTable" 287 36 91) (n f0 (n f0 (f (nm 947 ["buffer","table","syntax","start","end","word","codes"])) (f (cf "end" "Buffer.end" 1292 532 1 792 1))) (n (ob "builtin_function_or_method" (.fields #[(.builtin "type.__prepare__"),(.type "type")]) []) (f (fN 76 1 "Opaque.kind")) (f f0))) (n t0 (n t0 (f t0) (f (ob "builtin_function_or_method" (.fields #[(.builtin "type.__prepare__"),(.type "type")]) []))) (n (di (.type "dict") P [en "__module__" 770 (vs "emacs.syntax" 675),en "__firstlineno__" 774 (.int 270 773),en "__init__" 782 (vr 426),en "modify" 791 (vr 433),en "modify_all" 802 (vr 440),en "modify_range" 812 (vr 447),en "own" 821 (vr 454),en "at" 831 (vr 461),en "kind_of" 839 (vr 468),en "copy" 846 (vr 475),en "__static_attributes__" 849 (vr 476),en "__dict__" 851 (vr 479),en "__weakref__" 853 (vr 480),en "__doc__" 854 .none] 4) (f (cf "inserted" "Markers.inserted" 1202 477 4 728 6)) (f (fC 87 gE 988))))) (n (fA 15) (n (nm 428 ["table","word","syntax","entry"]) (n (nm 613 ["buffer","start","end","codes","rows","low","high","point","gone"]) (f (fM 74 0 "GapText.__init__" gH 572)) (f (nm 1334 ["self"]))) (n (fN 61 3 "SyntaxTable.modify_range") (f f0) (f (cf "marker_at" "BufferTable.marker_at" 1501 619 4 952 4)))) (n (fA 35) (n t0 (f t0) (f (cf "create" "BufferTable.create" 1423 582 2 888 3))) (n (cF "forward_word" 887 334 4 504 4) (f f0) (f t0))))))))) (n o2 (n (boot_o_4 P) (n (boot_o_8 P) (n f0 (n t0 (n (fA 8) (n t0 (n t0 (n (ob "builtin_function_or_method" (.fields #[(.builtin "type.__prepare__"),(.type "type")]) []) (f t0) .nil) (f (fN 80 0 "Buffer.__init__"))) (n t0 (f t0) (f t0))) (n (cF "expansion_of" 425 106 3 187 4) (n (cF "replace" 610 196 5 315 9) (f (nm 1008 ["self"])) (f (cf "tick" "Buffer.tick" 1331 549 1 827 1))) (n t0 (f (fN 78 1 "Markers.numbers")) (f (di (.type "dict") P [en "__module__" 1394 (vs "emacs.buffers" 1385),en "__firstlineno__" 1398 (.int 563 1397),en "__init__" 1405 (vr 873),en "by_number" 1413 (vr 880),en "by_name" 1422 (vr 887),en "create" 1431 (vr 894),en "fresh_name" 1441 (vr 902),en "rename" 1451 (vr 909),en "select" 1459 (vr 916),en "set_current" 1467 (vr 923),en "bury" 1475 (vr 930),en "other" 1484 (vr 937),en "kill" 1492 (vr 944),en "new_marker" 1500 (vr 951),en "marker_at" 1510 (vr 958),en "__static_attributes__" 1517 (vr 959),en "__dict__" 1519 (vr 962),en "__weakref__" 1521 (vr 963),en "__doc__" 1522 .none] 4))))) (n f0 (n (fA 20) (n (fA 40) (f (cF "expand_abbrev" 944 349 3 539 7)) (f f0)) (n (f3 [(272,4,425),(276,4,432),(279,4,439),(284,4,446),(287,4,453),(291,4,460),(300,4,467),(303,4,474)]) (f t0) (f (fN 82 8 "BufferTable.bury")))) (n t0 (n (fb (dS 50) "skip_backward" (vr 345) gN 351) (f (fM 74 5 "GapText.widen_gap" gH 607)) (f (f3 [(565,4,872),(573,4,879),(576,4,886),(582,4,893),(592,4,901),(595,4,908),(598,4,915),(601,4,922),(604,4,929),(607,4,936),(613,4,943),(616,4,950),(619,4,957)]))) (n (gw 852 478) (f f0) (f (nm 1563 ["rows","parent","table","known","place","word","text","is_exact"])))))) (n (cF "is_lower" 217 15 1 43 1) (n (fM 11 0 "Abbrev.__init__" gA 79) (n (nm 367 ["table","word","own","found"]) (n (nm 552 ["buffer","start","end"]) (f (gd 925 527)) (f (fM 80 2 "Buffer.kind" gF 783))) (n (ob "super" (.fields #[(vr 397),(vr 397),(vr 397)]) []) (f (cH "Opaque" 1106 444 654)) (f (nm 1455 ["self","buffer"])))) (n t0 (n (fb (dS 48) "is_of" (vr 329) gN 335) (f (fN 74 3 "GapText.codes")) (f t0)) (n (nm 835 ["self","code"]) (f (fM 78 3 "Markers.drop" gI 719)) (f t0)))) (n (cG "key_of" 318 43 1 109) (n t0 (n (fA 42) (f t0) (f t0)) (n (cf "modify" "SyntaxTable.modify" 783 276 3 427 3) (f (di (.type "dict") P [en "__module__" 1155 (vs "emacs.markers" 1146),en "__qualname__" 1157 (vs "Markers" 1156),en "__firstlineno__" 1159 (.int 455 1158),en "__init__" 1166 (vr 699),en "numbers" 1173 (vr 706),en "put" 1182 (vr 713),en "drop" 1190 (vr 720),en "within" 1201 (vr 727),en "inserted" 1213 (vr 734),en "deleted" 1224 (vr 741),en "replaced" 1236 (vr 748),en "__static_attributes__" 1238 (vr 749)] 12)) (f (fM 82 10 "BufferTable.kill" gJ 943)))) (n (cF "reached" 498 131 3 235 5) (n f0 (f f0) (f (fM 82 1 "BufferTable.by_number" gJ 879))) (n (fC 63 gC 495) (f (gd 1239 751)) (f (fA 90))))))) (n (nm 199 ["code"]) (n (fA 4) (n (cH "Abbrev" 253 29 70) (n f0 (n f0 (n (nm 914 ["self","place","word","codes"]) (f (fA 94)) .nil) (f (cf "shown" "Buffer.shown" 1271 523 1 771 1))) (n (fN 58 4 "Syntax.style") (f (gw 1097 646)) (f f0))) (n (fC 26 gA 199) (n (fC 46 gO 327) (f t0) (f (fM 80 10 "Buffer.is_modified" gF 839))) (n f0 (f (cf "put" "Markers.put" 1174 463 3 707 3)) (f (nm 1530 ["script","deck","cell","whole_here"]))))) (n (kl "AbbrevTable" 104 103 285 293) (n t0 (n (fA 41) (f (fC 71 gG 551)) (f (nm 1309 ["self","place"]))) (n (fN 61 0 "SyntaxTable.__init__") (f (di (.type "dict") P [en "__module__" 1111 (vs "emacs.objects" 1102),en "__firstlineno__" 1115 (.int 444 1114),en "shown" 1122 (vr 664),en "kind" 1129 (vr 671),en "same_as" 1137 (vr 678),en "__static_attributes__" 1138 (vr 679),en "__dict__" 1140 (vr 682),en "__weakref__" 1142 (vr 683),en "__doc__" 1143 .none] 4)) (f (cf "other" "BufferTable.other" 1476 607 2 931 3)))) (n (fA 32) (n t0 (f t0) (f (cf "__init__" "BufferTable.__init__" 1399 565 1 867 1))) (n (cF "letters" 857 305 0 483 0) (f (nm 1228 ["self","start","end","many","number","marker"])) (f t0))))) (n f0 (n t0 (n t0 (n t0 (f (fA 69)) (f t0)) (n f0 (f (fM 76 0 "Opaque.shown" gD 663)) (f t0))) (n (di (.type "dict") P [en "__module__" 453 (vs "emacs.errors" 444),en "__firstlineno__" 457 (.int 118 456),en "__init__" 466 (vr 214),en "__static_attributes__" 469 (vr 215),en "__weakref__" 471 (vr 218),en "__doc__" 472 .none] 3) (n (fb (dS 49) "skip_forward" (vr 337) gN 343) (f (cf "move_gap" "GapText.move_gap" 1030 402 2 595 3)) (f (di (.type "dict") P [en "__module__" 1255 (vs "emacs.buffer" 1246),en "__firstlineno__" 1259 (.int 499 1258),en "__init__" 1270 (vr 770),en "shown" 1277 (vr 777),en "kind" 1284 (vr 784),en "begin" 1291 (vr 791),en "end" 1298 (vr 798),en "size" 1305 (vr 805),en "code_at" 1313 (vr 812),en "codes" 1322 (vr 819),en "goto" 1330 (vr 826),en "tick" 1337 (vr 833),en "is_modified" 1344 (vr 840),en "set_modified" 1352 (vr 847),en "touch" 1360 (vr 854),en "__static_attributes__" 1381 (vr 855),en "__doc__" 1382 .none] 2))) (n t0 (f t0) (f (fC 86 gE 983))))) (n (fC 14 gA 119) (n (fA 24) (n (cF "delete" 598 185 3 307 6) (f f0) (f (fN 80 8 "Buffer.goto"))) (n (fM 61 2 "SyntaxTable.modify_all" gC 439) (f t0) (f t0))) (n (fC 34 gB 247) (n (nm 722 ["self"]) (f (nm 1079 ["self"])) (f t0)) (n t0 (f (f3 [(501,4,769),(523,4,776),(526,4,783),(529,4,790),(532,4,797),(535,4,804),(538,4,811),(543,4,818),(546,4,825),(549,4,832),(552,4,839),(555,4,846),(558,4,853)])) (f t0))))))) (n o12 (n (cF "_wall" 187 1 1 15 1) (n t0 (n (ob "builtin_function_or_method" (.fields #[(.builtin "type.__prepare__"),(.type "type")]) []) (n (fA 16) (n (fA 36) (n (cH "Expansion" 901 337 514) (f t0) .nil) (f f0)) (n t0 (f (nm 1090 ["cells","gap_end","gap_start","room"])) (f (fN 82 4 "BufferTable.fresh_name")))) (n (nm 438 ["table","word","entry"]) (n (nm 630 ["view","table","place","code"]) (f (fM 74 1 "GapText.size" gH 579)) (f (nm 1341 ["self"]))) (n (fN 61 4 "SyntaxTable.own") (f f0) (f (ob "super" (.fields #[(vr 961),(vr 961),(vr 961)]) []))))) (n (cf "__init__" "AbbrevTable.__init__" 297 38 3 95 3) (n f0 (n t0 (f (nm 960 ["buffer","table","last","end"])) (f (cf "size" "Buffer.size" 1299 535 1 799 1))) (n t0 (f (fN 76 2 "Opaque.same_as")) (f f0))) (n t0 (n t0 (f t0) (f f0)) (n f0 (f (cf "deleted" "Markers.deleted" 1214 483 3 735 5)) (f (fC 88 gE 995)))))) (n (fA 6) (n (gd 278 83) (n (fC 18 gA 147) (n (fC 38 gB 275) (f t0) (f t0)) (n (fA 59) (f (nm 1119 ["self"])) (f (fM 82 6 "BufferTable.select" gJ 915)))) (n (fN 28 0 "LispSignal.__init__") (n (nm 654 ["view","table","at","limit","kinds","is_negated"]) (f f0) (f (fN 80 12 "Buffer.touch"))) (n (fM 61 6 "SyntaxTable.kind_of" gC 467) (f t0) (f t0)))) (n (nm 327 ["table","word","codes","is_exact","own"]) (n t0 (n f0 (f (f3 [(380,4,572),(386,4,579),(389,4,586),(394,4,593),(402,4,600),(413,4,607),(419,4,614),(425,4,621),(435,4,628),(438,4,635),(441,4,642)])) (f t0)) (n (nm 795 ["self","text","description","syntax","sign"]) (f (ob "frame" .plain [some (vr 691),some (vr 3),some (vr 688),none,some (vs "emacs.markers" 1146),none,some (vr 0)])) (f t0))) (n (nm 512 ["buffer","start","end","listener"]) (n (cf "has" "Syntax.has" 711 248 2 367 2) (f (cf "put" "GapText.put" 1067 435 3 623 3)) (f t0)) (n t0 (f (tp [(vr 681)])) (f f0)))))) (n (fC 2 gL 27) (n f0 (n (nm 266 ["self","word","codes","is_exact"]) (n (cF "tables_from" 353 61 1 135 5) (n (cF "text_in" 540 151 3 263 3) (n (fM 68 0 "Expansion.__init__" gG 523) (f f0) .nil) (f (nm 1281 ["self"]))) (n (di (.type "dict") P [en "__module__" 696 (vs "emacs.syntax" 675),en "__firstlineno__" 700 (.int 241 699),en "__init__" 710 (vr 366),en "has" 718 (vr 373),en "is_escape" 725 (vr 380),en "is_word_part" 732 (vr 387),en "style" 739 (vr 394),en "__static_attributes__" 743 (vr 395),en "__dict__" 745 (vr 398),en "__weakref__" 747 (vr 399),en "__doc__" 748 .none] 4) (f (ob "builtin_function_or_method" (.fields #[(.builtin "type.__prepare__"),(.type "type")]) [])) (f (cf "rename" "BufferTable.rename" 1442 595 4 903 4)))) (n t0 (n (nm 642 ["view","table","place","kinds","is_negated","syntax"]) (f t0) (f t0)) (n (cf "at" "SyntaxTable.at" 822 291 2 455 4) (f (nm 1186 ["self","marker"])) (f (fC 84 gE 971))))) (n (ob "builtin_function_or_method" (.fields #[(.builtin "object.__init_subclass__"),(vr 104)]) []) (n (fC 22 gA 171) (n t0 (f t0) (f (fM 80 6 "Buffer.code_at" gF 811))) (n f0 (f (ob "super" (.fields #[(vr 681),(vr 681),(vr 681)]) [])) (f (nm 1488 ["self","buffer"])))) (n f0 (n (fN 58 0 "Syntax.__init__") (f (fN 74 7 "GapText.delete")) (f (nm 1409 ["self","number"]))) (n (nm 866 ["table","opens","closes"]) (f (fM 78 7 "Markers.replaced" gI 747)) (f t0))))) (n t0 (n (f3 [(38,4,100)]) (n t0 (n t0 (f f0) (f (fN 80 4 "Buffer.end"))) (n t0 (f t0) (f t0))) (n (ob "builtin_function_or_method" (.fields #[(.builtin "object.__init_subclass__"),(vr 217)]) []) (n (nm 666 ["view","table","at","limit","kinds","is_negated"]) (f (nm 1042 ["self","wanted","lack"])) (f t0)) (n (nm 847 ["parent","rows"]) (f (fN 78 5 "Markers.inserted")) (f (cG "_law_text" 1554 642 1 985))))) (n t0 (n f0 (n f0 (f (cf "__init__" "GapText.__init__" 996 380 3 567 3)) (f f0)) (n t0 (f t0) (f (fN 82 12 "BufferTable.marker_at")))) (n t0 (n (fM 58 2 "Syntax.is_escape" gC 379) (f (fM 74 9 "GapText.narrow_gap" gH 635)) (f (fN 82 3 "BufferTable.create"))) (n (fA 66) (f t0) (f (fC 92 gE 1019))))))))) (n (boot_o_6 P) (n (boot_o_10 P) (n t0 (n (cF "upcase" 203 9 1 29 1) (n (fC 8 gL 65) (n (nm 347 ["table","word","found"]) (n (nm 533 ["buffer","start","end","gone"]) (n t0 (f (cF "_law_typed" 1608 684 3 1021 8)) .nil) (f (fb (mS 80 0) "Buffer.__init__" (vr 763) gF 769))) (n (cf "is_word_part" "Syntax.is_word_part" 726 254 1 381 1) (f (cf "is_whole" "GapText.is_whole" 1083 441 1 637 1)) (f (nm 1436 ["self","name","ignored"])))) (n t0 (n t0 (f (fN 74 1 "GapText.size")) (f t0)) (n (nm 816 ["self","code","found"]) (f (fM 78 1 "Markers.numbers" gI 705)) (f (gd 1518 961))))) (n t0 (n (fC 20 gA 161) (n (fC 40 gB 289) (f t0) (f t0)) (n (ob "frame" .plain [some (vr 417),some (vr 3),some (vr 414),none,some (vs "emacs.syntax" 675),none,some (vr 0)]) (f (nm 1133 ["self","other"])) (f (fM 82 8 "BufferTable.bury" gJ 929)))) (n (cF "need_writable" 483 125 1 221 1) (n (ob "builtin_function_or_method" (.fields #[(.builtin "type.__prepare__"),(.type "type")]) []) (f f0) (f (ob "frame" .plain [some (vr 865),some (vr 3),some (vr 862),none,some (vs "emacs.buffers" 1385),none,some (vr 0)]))) (n (ob "builtin_function_or_method" (.fields #[(.builtin "object.__init_subclass__"),(vr 478)]) []) (f t0) (f (fA 88)))))) (n t0 (n (di (.type "dict") P [en "__module__" 258 (vs "emacs.abbrevtable" 247),en "__firstlineno__" 262 (.int 29 261),en "__init__" 272 (vr 80),en "__static_attributes__" 277 (vr 81),en "__dict__" 279 (vr 84),en "__weakref__" 281 (vr 85),en "__doc__" 282 .none] 4) (n (fA 18) (n (fA 38) (f (ob "super" (.fields #[(vr 527),(vr 527),(vr 527)]) [])) (f f0)) (n t0 (f t0) (f (fN 82 6 "BufferTable.select")))) (n (nm 461 ["self","symbol","data"]) (n t0 (f (fM 74 3 "GapText.codes" gH 593)) (f (nm 1356 ["self","are_codes"]))) (n (fN 61 6 "SyntaxTable.kind_of") (f f0) (f (cF "_law_draw" 1537 630 2 973 5))))) (n t0 (n (cF "first_upcased" 405 92 2 173 3) (n (fb (dS 42) "insert" (vr 299) gB 305) (f (di (.type "dict") P [en "__module__" 991 (vs "emacs.gap" 982),en "__qualname__" 993 (vs "GapText" 992),en "__firstlineno__" 995 (.int 378 994),en "__init__" 1004 (vr 573),en "size" 1011 (vr 580),en "code" 1019 (vr 587),en "codes" 1029 (vr 594),en "move_gap" 1038 (vr 601),en "widen_gap" 1047 (vr 608),en "insert" 1056 (vr 615),en "delete" 1066 (vr 622),en "put" 1075 (vr 629),en "narrow_gap" 1082 (vr 636),en "is_whole" 1089 (vr 643),en "__static_attributes__" 1094 (vr 644)] 15)) (f (cf "codes" "Buffer.codes" 1314 543 3 813 3))) (n t0 (f (f3 [(457,4,698),(460,4,705),(463,4,712),(467,4,719),(470,4,726),(477,4,733),(483,4,740),(491,4,747)])) (f f0))) (n t0 (n t0 (f t0) (f f0)) (n f0 (f (ob "super" (.fields #[(vr 751),(vr 751),(vr 751)]) [])) (f (fC 90 gE 1009))))))) (n (fA 2) (n (fC 4 gL 41) (n t0 (n t0 (n t0 (n (fN 68 0 "Expansion.__init__") (f (fC 94 gE 1033)) .nil) (f t0)) (n (fM 58 4 "Syntax.style" gC 393) (f (ob "builtin_function_or_method" (.fields #[(.builtin "object.__init_subclass__"),(vr 646)]) [])) (f t0))) (n (ob "builtin_function_or_method" (.fields #[(.builtin "type.__prepare__"),(.type "type")]) []) (n t0 (f (cf "code" "GapText.code" 1012 389 2 581 2)) (f f0)) (n t0 (f t0) (f (fA 84))))) (n (gw 313 104) (n (fA 22) (n (fb (dS 41) "insert_at" (vr 291) gB 297) (f f0) (f (fN 80 6 "Buffer.code_at"))) (n (fb (mS 61 0) "SyntaxTable.__init__" (vr 419) gC 425) (f (gd 1139 681)) (f t0))) (n (fC 32 gB 233) (n (nm 704 ["self","kind","match","flags"]) (f (nm 1060 ["self","start","end","gone"])) (f t0)) (n t0 (f (fN 78 7 "Markers.replaced")) (f (cF "_law_entry" 1574 653 2 997 3)))))) (n (cG "downcased" 230 19 1 55) (n (di (.type "dict") P [en "__module__" 292 (vs "emacs.abbrevtable" 247),en "__qualname__" 294 (vs "AbbrevTable" 293),en "__firstlineno__" 296 (.int 36 295),en "__init__" 305 (vr 101),en "__static_attributes__" 310 (vr 102)] 5) (n (cF "is_word_sign" 374 78 2 149 2) (n (cF "hung_in" 558 163 4 277 4) (f (fC 69 gG 537)) (f (nm 1295 ["self"]))) (n (cG "read_syntax" 757 261 1 407) (f f0) (f (cf "set_current" "BufferTable.set_current" 1460 601 2 917 2)))) (n (gw 470 217) (n t0 (f t0) (f (ob "super" (.fields #[(vr 857),(vr 857),(vr 857)]) []))) (n (cf "copy" "SyntaxTable.copy" 840 303 1 469 1) (f (nm 1205 ["self","start","end","is_before","number","marker"])) (f f0)))) (n f0 (n (fC 24 gA 185) (n (tp [.none]) (f t0) (f (fM 80 8 "Buffer.goto" gF 825))) (n f0 (f (cf "__init__" "Markers.__init__" 1160 457 1 693 1)) (f (nm 1504 ["self","buffer","place","advances"])))) (n f0 (n (fN 58 2 "Syntax.is_escape") (f (fN 74 9 "GapText.narrow_gap")) (f (nm 1426 ["self","name","buffer"]))) (n (nm 890 ["view","table","at","count"]) (f (ob "frame" .plain [some (vr 761),some (vr 3),some (vr 758),none,some (vs "emacs.buffer" 1246),none,some (vr 0)])) (f (fA 92)))))))) (n (ob "frame" .plain [some (vr 13),some (vr 3),some (vr 3),none,some (vs "__main__" 164),none,some (vr 0)]) (n t0 (n (nm 213 ["code"]) (n t0 (n (fC 16 gA 133) (n (fC 36 gB 261) (n t0 (f (nm 1625 ["buffer","table","done","text","found"])) .nil) (f t0)) (n (nm 736 ["self"]) (f (kl "GapText" 646 645 984 992)) (f (fb (mS 82 4) "BufferTable.fresh_name" (vr 895) gJ 901)))) (n (fA 26) (n (fA 46) (f f0) (f (fN 80 10 "Buffer.is_modified"))) (n (fM 61 4 "SyntaxTable.own" gC 453) (f t0) (f t0)))) (n (nm 306 ["entries","is_all_great","name","parents"]) (n (cG "has_upper" 393 88 1 163) (n (nm 582 ["buffer","place","codes","before_markers"]) (f (fA 71)) (f t0)) (n (nm 778 ["self","parent"]) (f (fM 76 2 "Opaque.same_as" gD 677)) (f t0))) (n (nm 493 ["buffer","growth"]) (n (cH "Syntax" 691 241 356) (f (cf "insert" "GapText.insert" 1048 419 3 609 3)) (f t0)) (n t0 (f t0) (f f0))))) (n (fC 6 gL 53) (n (ob "super" (.fields #[(vr 83),(vr 83),(vr 83)]) []) (n f0 (n f0 (f (nm 935 ["buffer","syntax","start","is_there","end","is_so"])) (f (cf "begin" "Buffer.begin" 1285 529 1 785 1))) (n (fC 59 gC 405) (f (fN 76 0 "Opaque.shown")) (f f0))) (n (fM 28 0 "LispSignal.__init__" gP 213) (n (fA 49) (f t0) (f (fM 80 12 "Buffer.touch" gF 853))) (n f0 (f (cf "within" "Markers.within" 1191 470 3 721 5)) (f (fA 86))))) (n (fA 14) (n (nm 417 ["table","entry","word","syntax","codes"]) (n t0 (f (ob "frame" .plain [some (vr 565),some (vr 3),some (vr 562),none,some (vs "emacs.gap" 982),none,some (vr 0)])) (f (nm 1326 ["self","place"]))) (n (fN 61 2 "SyntaxTable.modify_all") (f f0) (f (cf "new_marker" "BufferTable.new_marker" 1493 616 2 945 2)))) (n (fA 34) (n t0 (f t0) (f (cf "by_name" "BufferTable.by_name" 1414 576 2 881 3))) (n (cF "forward_by" 874 320 5 497 7) (f (di (.type "dict") P [en "__module__" 1255 (vs "emacs.buffer" 1246),en "__qualname__" 1257 (vs "Buffer" 1256),en "__firstlineno__" 1259 (.int 499 1258),en "__init__" 1270 (vr 770),en "shown" 1277 (vr 777),en "kind" 1284 (vr 784),en "begin" 1291 (vr 791),en "end" 1298 (vr 798),en "size" 1305 (vr 805),en "code_at" 1313 (vr 812),en "codes" 1322 (vr 819),en "goto" 1330 (vr 826),en "tick" 1337 (vr 833),en "is_modified" 1344 (vr 840),en "set_modified" 1352 (vr 847),en "touch" 1360 (vr 854),en "__static_attributes__" 1381 (vr 855)] 17)) (f (cG "_law_made" 1596 668 2 1011))))))) (n f0 (n t0 (n (fN 11 0 "Abbrev.__init__") (n t0 (n t0 (n (di (.type "dict") P [en "__module__" 906 (vs "emacs.abbrevs" 897),en "__firstlineno__" 910 (.int 337 909),en "__init__" 920 (vr 524),en "__static_attributes__" 924 (vr 525),en "__dict__" 926 (vr 528),en "__weakref__" 928 (vr 529),en "__doc__" 929 .none] 4) (f (cG "law" 1633 699 1 1035)) .nil) (f (fN 80 2 "Buffer.kind"))) (n (gd 744 397) (f t0) (f t0))) (n (cH "LispSignal" 448 118 204) (n (fA 48) (f (nm 1023 ["self","start","end","shift"])) (f (cf "set_modified" "Buffer.set_modified" 1345 555 2 841 2))) (n t0 (f (fN 78 3 "Markers.drop")) (f f0)))) (n f0 (n f0 (n (nm 592 ["buffer","codes","before_markers"]) (f (cF "expand_region" 967 365 5 553 9)) (f f0)) (n t0 (f t0) (f (fN 82 10 "BufferTable.kill")))) (n t0 (n (fM 58 0 "Syntax.__init__" gC 365) (f (fM 74 7 "GapText.delete" gH 621)) (f (fN 82 1 "BufferTable.by_number"))) (n (fA 63) (f (di (.type "dict") P [en "__module__" 1155 (vs "emacs.markers" 1146),en "__firstlineno__" 1159 (.int 455 1158),en "__init__" 1166 (vr 699),en "numbers" 1173 (vr 706),en "put" 1182 (vr 713),en "drop" 1190 (vr 720),en "within" 1201 (vr 727),en "inserted" 1213 (vr 734),en "deleted" 1224 (vr 741),en "replaced" 1236 (vr 748),en "__static_attributes__" 1238 (vr 749),en "__dict__" 1240 (vr 752),en "__weakref__" 1242 (vr 753),en "__doc__" 1243 .none] 4)) (f (nm 1586 ["text","is_each","found","is_inside","is_over","sign","is_first"])))))) (n (nm 239 ["codes","table","found","is_inside","code"]) (n (ob "frame" .plain [some (vr 93),some (vr 3),some (vr 90),none,some (vs "emacs.abbrevtable" 247),none,some (vr 0)]) (n (nm 385 ["codes","syntax","many","is_within","code"]) (n (nm 571 ["buffer","place","codes","before_markers","is_point_behind"]) (f t0) (f (fM 80 4 "Buffer.end" gF 797))) (n (di (.type "dict") P [en "__module__" 770 (vs "emacs.syntax" 675),en "__qualname__" 772 (vs "SyntaxTable" 771),en "__firstlineno__" 774 (.int 270 773),en "__init__" 782 (vr 426),en "modify" 791 (vr 433),en "modify_all" 802 (vr 440),en "modify_range" 812 (vr 447),en "own" 821 (vr 454),en "at" 831 (vr 461),en "kind_of" 839 (vr 468),en "copy" 846 (vr 475),en "__static_attributes__" 849 (vr 476)] 12) (f (cf "kind" "Opaque.kind" 1123 449 1 665 1)) (f (nm 1471 ["self","buffer"])))) (n f0 (n (fA 50) (f (fN 74 5 "GapText.widen_gap")) (f (di (.type "dict") P [en "__module__" 1394 (vs "emacs.buffers" 1385),en "__qualname__" 1396 (vs "BufferTable" 1395),en "__firstlineno__" 1398 (.int 563 1397),en "__init__" 1405 (vr 873),en "by_number" 1413 (vr 880),en "by_name" 1422 (vr 887),en "create" 1431 (vr 894),en "fresh_name" 1441 (vr 902),en "rename" 1451 (vr 909),en "select" 1459 (vr 916),en "set_current" 1467 (vr 923),en "bury" 1475 (vr 930),en "other" 1484 (vr 937),en "kill" 1492 (vr 944),en "new_marker" 1500 (vr 951),en "marker_at" 1510 (vr 958),en "__static_attributes__" 1517 (vr 959)] 17))) (n (kl "SyntaxTable" 478 477 763 771) (f (fM 78 5 "Markers.inserted" gI 733)) (f t0)))) (n (cF "forget" 335 49 2 121 3) (n t0 (n t0 (f t0) (f t0)) (n (cf "modify_range" "SyntaxTable.modify_range" 803 284 4 441 4) (f (nm 1170 ["self"])) (f (fM 82 12 "BufferTable.marker_at" gJ 957)))) (n (cF "tell_behind" 519 139 4 249 5) (n f0 (f f0) (f (fM 82 3 "BufferTable.create" gJ 893))) (n (fC 66 gK 509) (f (nm 1264 ["self","number","name","room"])) (f f0))))))))))
noncomputable def oa:Obj:=(ob "type" (.cls ⟨"Opaque",[(.type "object")],[(vr 681),(.type "object")],680,"Opaque",true,[],[],false,none,false⟩) [none,none,some (vs "Opaque" 1104),some (vs "Opaque" 1112),some (.builtin "object.__new__"),some (.bool true)])
noncomputable def oz:Obj:=(ob "type" (.cls ⟨"Opaque",[(.type "object")],[(vr 681),(.type "object")],680,"Opaque",true,[],[(vr 857)],false,none,false⟩) [none,none,some (vs "Opaque" 1104),some (vs "Opaque" 1112),some (.builtin "object.__new__"),some (.bool true)])
noncomputable def cut (n:Nat) (t:BT):Nat->Nat->BT:=@BT.rec (fun _=>Nat->Nat->BT) (fun _ _=>.nil) (fun v _ _ l r a b=>@Bool.rec (fun _=>BT) .nil (.node v (l (2*a) (a+b)) (r (2*a) (2*a+b))) (Nat.blt b n)) t
noncomputable def e3:List (Str×Nat×Value):=[en "__doc__" 166 .none,en "__package__" 167 .none,en "__loader__" 168 (.builtin "__main__.__loader__#opaque"),en "__spec__" 169 .none,en "__annotations__" 170 (vr 6),en "__builtins__" 171 (vr 4),en "__file__" 173 (vs "/claim/cut.py" 172),en "__cached__" 174 .none,en "_wall" 193 (vr 21),en "downcase" 202 (vr 28),en "upcase" 209 (vr 35),en "is_upper" 216 (vr 42),en "is_lower" 223 (vr 49),en "upcased" 229 (vr 54),en "downcased" 235 (vr 59),en "initials_upcased" 246 (vr 66),en "MOST_PARENTS" 250 (.int 20 249),en "Abbrev" 284 (vr 83),en "AbbrevTable" 317 (vr 104),en "key_of" 323 (vr 113),en "define" 334 (vr 120),en "forget" 343 (vr 127),en "own_entry" 352 (vr 134),en "tables_from" 363 (vr 141),en "entry_of" 373 (vr 148),en "is_word_sign" 381 (vr 155),en "many_words" 392 (vr 162),en "has_upper" 398 (vr 167),en "has_lower" 404 (vr 172),en "first_upcased" 413 (vr 179),en "written" 424 (vr 186),en "expansion_of" 434 (vr 193),en "unexpanded" 443 (vr 200),en "LispSignal" 476 (vr 217),en "LONGEST" 482 (.int 4194304 481),en "need_writable" 489 (vr 227),en "need_room" 497 (vr 234),en "reached" 508 (vr 241),en "tell_ahead" 518 (vr 248),en "tell_behind" 529 (vr 255),en "text_out" 539 (vr 262),en "text_in" 548 (vr 269),en "hung_out" 557 (vr 276),en "hung_in" 567 (vr 283),en "put_in" 578 (vr 290),en "insert_at" 588 (vr 298),en "insert" 597 (vr 306),en "delete" 609 (vr 313),en "replace" 624 (vr 321),en "syntax_at" 636 (vr 328),en "is_of" 650 (vr 336),en "skip_forward" 662 (vr 344),en "skip_backward" 674 (vr 352),en "WHITESPACE" 678 (vs " " 677),en "WORD" 680 (vs "w" 679),en "PUNCTUATION" 682 (vs "." 681),en "INHERITS" 684 (vs "@" 683),en "KINDS" 686 (vs " w_.()'\"\\/$<>@!|" 685),en "FLAGS" 688 (vs "1234bcnp" 687),en "Syntax" 750 (vr 397),en "sorted_flags" 756 (vr 406),en "read_syntax" 762 (vr 411),en "SyntaxTable" 856 (vr 478),en "letters" 862 (vr 489),en "standard_table" 871 (vr 496),en "forward_by" 886 (vr 503),en "forward_word" 896 (vr 510),en "Expansion" 931 (vr 527),en "word_before" 943 (vr 538),en "expand_abbrev" 956 (vr 545),en "unexpand_abbrev" 966 (vr 552),en "expand_region" 981 (vr 559),en "GapText" 1101 (vr 646),en "Opaque" 1145 (vr 681),en "Markers" 1245 (vr 751),en "Buffer" 1384 (vr 857),en "BufferTable" 1524 (vr 961),en "_law_deck" 1536 (vr 972),en "_law_draw" 1547 (vr 979),en "_law_codes" 1553 (vr 984),en "_law_text" 1559 (vr 989),en "_law_tables" 1573 (vr 996),en "_law_entry" 1582 (vr 1003),en "_law_risen" 1595 (vr 1010),en "_law_made" 1601 (vr 1015),en "_law_counts" 1607 (vr 1020),en "_law_typed" 1621 (vr 1027),en "_law_are_taken_back" 1632 (vr 1034),en "law" 1638 (vr 1039)]
noncomputable def e12:List (Nat×Nat×Nat):=[(1,0,20),(5,0,27),(9,0,34),(13,0,41),(15,0,48),(17,0,53),(19,0,58),(21,0,65),(29,0,72),(36,0,93),(43,0,112),(45,0,119),(49,0,126),(53,0,133),(61,0,140),(72,0,147),(78,0,154),(80,0,161),(88,0,166),(90,0,171),(92,0,178),(97,0,185),(106,0,192),(112,0,199),(118,0,206),(125,0,226),(128,0,233),(131,0,240),(136,0,247),(139,0,254),(143,0,261),(151,0,268),(158,0,275),(163,0,282),(168,0,289),(181,0,297),(183,0,305),(185,0,312),(196,0,320),(219,0,327),(223,0,335),(226,0,343),(230,0,351),(241,0,358),(259,0,405),(261,0,410),(270,0,417),(305,0,488),(307,0,495),(320,0,502),(334,0,509),(337,0,516),(343,0,537),(349,0,544),(358,0,551),(365,0,558),(378,0,565),(444,0,656),(455,0,691),(499,0,761),(563,0,865),(622,0,971),(630,0,978),(640,0,983),(642,0,988),(644,0,995),(653,0,1002),(660,0,1009),(668,0,1014),(679,0,1019),(684,0,1026),(694,0,1033),(699,0,1038)]
noncomputable def o2 (P:Params):Obj:=di .none P [en "type.__subclasses__.Exception.0" 473 (vi 217),en "type.__subclasses__.Exception.n" 474 (vi 1)] 2
noncomputable def o3 (x:Str) (t m:Nat) (P:Params):Obj:=di (.type "dict") P ((en "__name__" 165 (vs x t) :: e3).take m) m
noncomputable def o12 (m:Nat):Obj:=f3 (e12.take m)
noncomputable def sT (n t:Nat) (a b:Params->Obj) (c:Nat) (d:Obj) (w:World) (os:OsState):SharedT:=⟨cut n (tr w.params (a w.params) (b w.params) (o12 c) d) 1 0,n,{},#[],{},t,os⟩
noncomputable def s0:=sT 15 187 boot_o_2 boot_o_3 0 oz
noncomputable def s1:=sT 67 251 boot_o_2 (o3 "emacs.abbrevtable" 247 18) 8 oz
noncomputable def s2:=sT 88 285 boot_o_2 (o3 "emacs.abbrevtable" 247 19) 9 oz
noncomputable def s3:=sT 142 364 boot_o_2 (o3 "emacs.abbrevtable" 247 25) 15 oz
noncomputable def s4:=sT 201 446 boot_o_2 (o3 "emacs.errors" 444 34) 24 oz
noncomputable def s5:=sT 249 519 o2 (o3 "emacs.editing" 477 40) 29 oz
noncomputable def s6:=sT 329 639 o2 (o3 "emacs.skips" 637 51) 40 oz
noncomputable def s7:=sT 353 689 o2 (o3 "emacs.syntax" 675 60) 43 oz
noncomputable def s8:=sT 407 757 o2 (o3 "emacs.syntax" 675 62) 45 oz
noncomputable def s9:=sT 412 763 o2 (o3 "emacs.syntax" 675 63) 46 oz
noncomputable def s10:=sT 483 857 o2 (o3 "emacs.syntax" 675 64) 47 oz
noncomputable def s11:=sT 532 932 o2 (o3 "emacs.abbrevs" 897 69) 52 oz
noncomputable def s12:=sT 560 984 o2 (o3 "emacs.gap" 982 73) 56 oz
noncomputable def s13:=sT 651 1102 o2 (o3 "emacs.gap" 982 74) 57 oz
noncomputable def s14:=sT 686 1148 o2 (o3 "emacs.markers" 1146 75) 58 oa
noncomputable def s15:=sT 756 1246 o2 (o3 "emacs.markers" 1146 76) 59 oa
noncomputable def s16:=sT 756 1248 o2 (o3 "emacs.buffer" 1246 76) 59 oa
noncomputable def s17:=sT 860 1385 o2 (o3 "emacs.buffer" 1246 77) 60 oz
noncomputable def s18:=sT 860 1387 o2 (o3 "emacs.buffers" 1385 77) 60 oz
noncomputable def s19:=sT 966 1525 o2 (o3 "emacs.buffers" 1385 78) 61 oz
noncomputable def s20:=sT 1040 1639 o2 (o3 "law_up0006_01" 1525 90) 73 oz
noncomputable def eE:Env:={ scope:=pg.main.scope,locals:=mainNs,globals:=mainNs,cells:=[],code:=.ref 13,frame:=some 14 }
noncomputable def cE:Code:=.body bB eE
noncomputable def fB:List Frame:=[topFrame ⟨0,0,0,0⟩]
noncomputable def sl (i m:Nat):List Stmt:=(bB.drop i).take m
noncomputable def Pc (i m N:Nat) (S S':World->OsState->SharedT) (p p':Pos):Prop:=∀ w,(fun os=>segRunT treeTable pg w 11 (some (.ref 6)) 1 N (S w os) (piecesOf (sl i m) eE cE p fB))=fun os=>some (.next,S' w os,cE,p')
noncomputable def PcF (i m N:Nat) (S S':World->OsState->SharedT) (p p':Pos):Prop:=∀ w,(fun os=>PySem.W.Fast.tw10110043849684766642 PySem.W.Fast.tw14364793385576792824 pg w 11 (some (.ref 6)) 1 N (S w os) (piecesOf (sl i m) eE cE p fB))=fun os=>some (.next,S' w os,cE,p')
theorem Pc.of {i m N:Nat}{S S':World->OsState->SharedT}{p p':Pos}(h:PcF i m N S S' p p'):Pc i m N S S' p p':=by
 intro w
 rw[PySem.W.Fast.te10110043849684766642,PySem.W.Fast.te14364793385576792824]
 exact h w
noncomputable def ks:List Nat:=[3,20,21,27,28,34,35,41,42,48,49,53,54,58,59,65,66,69,79,80,82,83,90,100,101,103,104,112,113,119,120,126,127,133,134,140,141,147,148,154,155,161,162,166,167,171,172,178,179,185,186,192,193,199,200,201,203,213,214,216,217,226,227,233,234,240,241,247,248,254,255,261,262,268,269,275,276,282,283,289,290,291,297,298,299,305,306,312,313,314,320,321,327,328,329,335,336,337,343,344,345,351,352,355,365,366,372,373,379,380,386,387,393,394,396,397,405,406,410,411,414,419,425,426,432,433,439,440,446,447,453,454,460,461,467,468,474,475,477,478,488,489,495,496,502,503,509,510,513,523,524,526,527,537,538,544,545,551,552,558,559,562,572,573,579,580,586,587,593,594,600,601,607,608,614,615,621,622,628,629,635,636,642,643,645,646,653,663,664,670,671,677,678,680,681,688,698,699,705,706,712,713,719,720,726,727,733,734,740,741,747,748,750,751,756,758,763,769,770,776,777,783,784,790,791,797,798,804,805,811,812,818,819,825,826,832,833,839,840,846,847,853,854,856,857,862,872,873,879,880,886,887,893,894,901,902,908,909,915,916,922,923,929,930,936,937,943,944,950,951,957,958,960,961,971,972,978,979,983,984,988,989,995,996,1002,1003,1009,1010,1014,1015,1019,1020,1026,1027,1033,1034,1038,1039]
theorem q0:Pc 0 11 258 s0 s1 ⟨0,0,0,0⟩ ⟨28,0,28,12⟩:=.of (fun w=>by kernel_rfl)
theorem q1:Pc 11 1 228 s1 s2 ⟨28,0,28,12⟩ ⟨29,0,35,21⟩:=.of (fun w=>by kernel_rfl)
theorem q2:Pc 12 6 381 s2 s3 ⟨29,0,35,21⟩ ⟨61,0,71,16⟩:=.of (fun w=>by kernel_rfl)
theorem q3:Pc 18 10 284 s3 s4 ⟨61,0,71,16⟩ ⟨117,0,117,8⟩:=.of (fun w=>by kernel_rfl)
theorem q4:Pc 28 7 379 s4 s5 ⟨117,0,117,8⟩ ⟨136,0,138,50⟩:=.of (fun w=>by kernel_rfl)
theorem q5:Pc 35 13 380 s5 s6 ⟨136,0,138,50⟩ ⟨222,0,222,8⟩:=.of (fun w=>by kernel_rfl)
theorem q6:Pc 48 10 169 s6 s7 ⟨222,0,222,8⟩ ⟨240,0,240,5⟩:=.of (fun w=>by kernel_rfl)
theorem q7:Pc 58 2 378 s7 s8 ⟨240,0,240,5⟩ ⟨259,0,260,60⟩:=.of (fun w=>by kernel_rfl)
theorem q8:Pc 60 1 27 s8 s9 ⟨259,0,260,60⟩ ⟨261,0,269,51⟩:=.of (fun w=>by kernel_rfl)
theorem q9:Pc 61 1 457 s9 s10 ⟨261,0,269,51⟩ ⟨270,0,304,16⟩:=.of (fun w=>by kernel_rfl)
theorem q10:Pc 62 7 371 s10 s11 ⟨270,0,304,16⟩ ⟨337,0,342,26⟩:=.of (fun w=>by kernel_rfl)
theorem q11:Pc 69 5 148 s11 s12 ⟨337,0,342,26⟩ ⟨377,0,377,8⟩:=.of (fun w=>by kernel_rfl)
theorem q12:Pc 74 1 552 s12 s13 ⟨377,0,377,8⟩ ⟨378,0,442,16⟩:=.of (fun w=>by kernel_rfl)
theorem q13:Pc 75 3 302 s13 s14 ⟨378,0,442,16⟩ ⟨454,0,454,8⟩:=.of (fun w=>by kernel_rfl)
theorem q14:Pc 78 1 460 s14 s15 ⟨454,0,454,8⟩ ⟨455,0,497,39⟩:=.of (fun w=>by kernel_rfl)
theorem q15:Pc 79 1 10 s15 s16 ⟨455,0,497,39⟩ ⟨498,0,498,8⟩:=.of (fun w=>by kernel_rfl)
theorem q16:Pc 80 1 647 s16 s17 ⟨498,0,498,8⟩ ⟨499,0,561,41⟩:=.of (fun w=>by kernel_rfl)
theorem q17:Pc 81 1 10 s17 s18 ⟨499,0,561,41⟩ ⟨562,0,562,8⟩:=.of (fun w=>by kernel_rfl)
theorem q18:Pc 82 1 621 s18 s19 ⟨562,0,562,8⟩ ⟨563,0,620,17⟩:=.of (fun w=>by kernel_rfl)
theorem q19:Pc 83 13 376 s19 s20 ⟨563,0,620,17⟩ ⟨699,0,722,86⟩:=.of (fun w=>by kernel_rfl)
noncomputable def hA (P:Params):Heap:=⟨#[boot_o_0 P,boot_o_1 P,boot_o_2 P,boot_o_3 P,boot_o_4 P,boot_o_5 P,boot_o_6 P,boot_o_7 P,boot_o_8 P,boot_o_9 P,boot_o_10 P,t0,f0,cb "<module>" "<module>" 182 1 11,ob "frame" .plain [some (vr 13),some (vr 3),some (vr 3),none,some (vs "__main__" 164),none,some (vr 0)]],{}⟩
noncomputable def sA (w:World) (os:OsState):Shared:=⟨hA w.params,#[],{},187,os⟩
noncomputable def sB (w:World) (os:OsState):Shared:=⟨boot_heap w.params,#[],boot_drawn,boot_toks,os⟩
noncomputable abbrev an:Option Value:=some (.ref 6)
theorem pre (w:World):(fun os=>topGo treeTable pg w 11 an 12 (sB w os) (topStub pg))=fun os=>some (sA w os,⟨denote treeTable cE,cE,⟨0,0,0,0⟩,fB⟩):=by
 rw[PySem.W.Fast.te15667345088766844465,PySem.W.Fast.te14364793385576792824,PySem.W.Fast.te11892475500146522536]
 kernel_rfl
theorem blk (w:World):(fun os=>segRun treeTable pg w 11 an 1 1 (sA w os) (blockOf bB eE cE ⟨0,0,0,0⟩ fB))=fun os=>some (.next,(s0 w os).abs,cE,⟨0,0,0,0⟩):=by kernel_rfl
theorem fin (w:World)(os:OsState):topRun treeTable pg w 11 an 2 (s20 w os).abs ⟨doneF .next,cE,⟨699,0,722,86⟩,fB⟩=some (s20 w os).abs:=by kernel_rfl
theorem dr (i m:Nat):bB.drop i=sl i m ++ bB.drop (i+m):=by rw[sl,<- List.drop_drop,List.take_append_drop]
theorem ed:bB.drop 96=[]:=by kernel_rfl
theorem pa {i m N n:Nat}{S S':World->OsState->SharedT}{p p':Pos}{w:World}{os:OsState}{r:Shared}(h:Pc i m N S S' p p')(k:topRun treeTable pg w 11 an n (S' w os).abs (restOf (bB.drop (i+m)) eE cE p' fB)=some r):topRun treeTable pg w 11 an (N+n) (S w os).abs (restOf (bB.drop i) eE cE p fB)=some r:=by
 rw[dr i m]
 exact piece_app (segRun_of (congrFun (h w) os)) k
noncomputable def MM:Nat:=12+(1+(258+(228+(381+(284+(379+(380+(169+(378+(27+(457+(371+(148+(552+(302+(460+(10+(647+(10+(621+(376+2)))))))))))))))))))))
theorem run (w:World)(os:OsState):topRun treeTable pg w 11 an MM (sB w os) (topStub pg)=some (s20 w os).abs:=
 go_top (congrFun (pre w) os) (piece_block (congrFun (blk w) os) (pa q0 (pa q1 (pa q2 (pa q3 (pa q4 (pa q5 (pa q6 (pa q7 (pa q8 (pa q9 (pa q10 (pa q11 (pa q12 (pa q13 (pa q14 (pa q15 (pa q16 (pa q17 (pa q18 (pa q19 (by rw[ed];exact fin w os))))))))))))))))))))))
theorem opn (w:World):(fencedOpening treeTable pg w 20000).map (fun s=>(s.heap,s.gens,s.drawn,s.toks))=some (boot_heap w.params,Array.mk [],boot_drawn,boot_toks):=
 boot_open (by kernel_rfl) (by decide) (fun s=>by kernel_rfl) w
theorem siz (w:World):((boot_heap w.params).isNs mainGlobals && (#[]:Array GenState).size == 0,(boot_heap w.params).objs.size,(boot_heap w.params).nsMap mainGlobals "__annotations__")=(true,11,an):=by kernel_rfl
noncomputable def qq:Program:={ pg with main:={ pg.main with body:=[dS 95] } }
noncomputable def lo:List Str:=((e3.drop 8).map (·.1)).dropLast
noncomputable def tt (P:Params):BT:=cut 1040 (tr P (o2 P) (o3 "law_up0006_01" 1525 90 P) (o12 73) oz) 1 0
noncomputable def hF (P:Params):Heap:=absHeap (tt P) 1040 {}
noncomputable def KK (P:Params):Frag:=ks.map fun a=>(a,((tt P).get a).getD default)
theorem kke (P:Params):ks=(KK P).map (·.1):=by kernel_rfl
noncomputable abbrev hk:Hook:=kHook KK ks kke
noncomputable abbrev xt (s:Shared):Bool:=xlAt qq [] s && recOk rr.toRowW.records s
noncomputable def sF (w:World) (os:OsState):Shared:=⟨hF w.params,#[],{},1639,os⟩
section
variable (w:World)(os:OsState)
theorem l1:(staticsOk (importedModules pg.main.body) (boot_heap w.params) (hF w.params) && namesBound pg (hF w.params) && gensDone (sF w os) && laidKept (boot_heap w.params) (hF w.params))=true:=by kernel_rfl
end
section
variable (w:World)(os:OsState)
theorem k1:seen ((recsOf qq).map (·.name)) (ownsOf qq) [] { sF w os with gens:=#[] }=expectedOf qq:=by kernel_rfl
theorem k2:(sF w os).heap.bltView=bltViewBooted:=by kernel_rfl
theorem k3:((sF w os).heap.keysOk (looseW qq lo) ((recsOf qq).map (·.name)) ((litsOf qq).map (·.1)) ((clssOf qq (looseW qq lo)).map (·.name)) && (sF w os).heap.accountedOkI (importedModules pg.main.body) && (sF w os).heap.isNs mainGlobals && (sF w os).heap.isNs builtinsNs && tablesOk qq (sF w os).heap && xt (sF w os) && (sF w os).gens.size == 0)=true:=by kernel_rfl
theorem k4:tabsOk qq (sF w os)=true:=by kernel_rfl
theorem k5:pinSeenD qq (drecsOf qq) (sF w os)=pinGoodD (drecsOf qq):=by kernel_rfl
theorem k6:plainSeenE qq (looseW qq lo) (sF w os)=plainGoodE qq (looseW qq lo):=by kernel_rfl
theorem k7:plainSeenD qq lo (sF w os)=plainGoodD qq lo:=by kernel_rfl
theorem k8:wideSeen qq (sF w os)=wideGood qq:=by kernel_rfl
theorem k9:clsSeenW qq lo (sF w os)=clsGoodW qq lo:=by kernel_rfl
theorem l2:openSeen qq lo (importedModules pg.main.body) xt true (sF w os)=openGood qq lo:=
 looks_pair (k1 w os) (looks_pair (k2 w os) (looks_pair (k3 w os) (looks_pair (k4 w os) (looks_pair (k5 w os) (looks_pair (k6 w os) (looks_pair (k7 w os) (looks_pair (k8 w os) (k9 w os))))))))
theorem l3:hk.obs (sF w os)=hk.val w:=by kernel_rfl
end
theorem left:LeftO pg qq lo xt hk.obs hk.val 20000 true:=
 LeftO.of_pieces (Xt:=xt) (Yf:=hk.obs) (Ya:=hk.val) (H₀:=boot_heap) (H₁:=hF) (gs₀:=Array.mk []) (gs₁:=#[]) (d₁:={}) (k₁:=1639) (m₀:=11) (ann:=an) (M:=MM)
  opn siz (fun w os=>run w os) (by decide) fun w=>funext fun os=>Prod.ext (l1 w os) (Prod.ext (l2 w os) (l3 w os))
noncomputable def dd:DefRec:=oF (dS 95) ⟨"", default,[],default,default⟩ fun n a b c p=>⟨n,a,b,c,p⟩
theorem hd1:defOf qq rr.name=some (dd,[]):=by kernel_rfl
theorem hd2:rr.prog.theDef rr.name=some (dd.params,dd.body,dd.scope):=by kernel_rfl
theorem hd3:kwWritten? dd.params.kwonlyargs dd.params.kw_defaults=some []:=by kernel_rfl
theorem okk:(chainsOk qq && opensWell rr.prog && (frees rr.toRowW && rr.within.isEmpty))=true:=by kernel_rfl
theorem bar:rr.prog.bare:=⟨rfl,rfl,rfl,rfl,rfl,by kernel_rfl⟩
theorem hdd (call:WalkO qq lo (XL qq []) hk.says rr.toRowW dd [] fun f vs=>PySem.call f vs)(ws:PySem.Challenge.rw_up0006_01.wellSaid=true):PySem.Challenge.rw_up0006_01.Holds:=
 holds_law ws fun said=>holds_open (r:=rr) (q:=qq) (loose:=lo) (Xt:=xt) (XP:=XL qq []) (Yf:=hk.obs) (Ya:=hk.val) (YP:=hk.says) (N:=20000) left hk.of hk.keeps (fun s e=>xl_of s (Bool.and_eq_true_iff.mp e).1) XL.keeps hd1 hd2 hd3
  (fun s e=>recFacts_of (Bool.and_eq_true_iff.mp e).2) (by rfl) said okk bar ⟨[WData.list []],by decide +kernel,by decide +kernel⟩ call
noncomputable abbrev lw:OpenLaw:=PySem.Challenge.rw_up0006_01
noncomputable abbrev lp:Program:=lw.row.toRowW.prog
theorem w1:(!(importedModules lp.main.body).all cThrough.contains)=false:=by kernel_rfl
theorem w2:(["vars", "dir", "locals"]:List Str).filter (readsOut lp lp.main.body)=[]:=by rw[PySem.W.Fast.te13343964577679436407];kernel_rfl
theorem w3:noRoadLSs { strict:=!(importedModules lp.main.body).all cThrough.contains,foot:=none,bare:=(["vars", "dir", "locals"]:List Str).filter (readsOut lp lp.main.body) } lp.main.body=true:=by rw[w1,w2,PySem.W.Fast.te8326940854005059898];kernel_rfl
theorem w4:(namesMeet lp lp.main.body fun _ n=>attrL n)=true:=by rw[PySem.W.Fast.te17119622794617984870];kernel_rfl
theorem w5:namesResolve lp=true:=by rw[PySem.W.Fast.te8377067652309620493];kernel_rfl
theorem ws:PySem.Challenge.rw_up0006_01.wellSaid=true:=by
 unfold OpenLaw.wellSaid OpenRow.wellSaid OpenRow.partSaid looksOpen
 repeat' with_reducible refine look_both ?_ ?_
 ·kernel_rfl
 ·kernel_rfl
 ·exact w5
 ·kernel_rfl
 ·exact w3
 ·exact w4
 all_goals kernel_rfl
end MineH
end
section
open PySem PySem.W PyProof.Rows Mine
set_option maxRecDepth 100000
set_option maxHeartbeats 0
namespace Mine
theorem kok (P:Params):Mine.KOk (MineH.KK P):=⟨by kernel_rfl,by kernel_rfl,by kernel_rfl,by kernel_rfl,by kernel_rfl,by kernel_rfl,by kernel_rfl,by kernel_rfl⟩
end Mine
theorem PySem.Challenge.cw_up0006_01_holds : PySem.Challenge.rw_up0006_01.Holds :=
 MineH.hdd (by
 intro w sb se mg mb G Y fa o pm cd doc dV kV ho hd hcd hD hmg hg args vals as hpre hlay hrd hwl hlo
 have KX:=kIn_of Y
 refine Ground.open G ?_
 intro T B D TE TW
 wrow_args hpre hlay hrd hwl hlo
 all_goals (
  x_fa T KX hmg
  rename_i l _ _ _ _ _ _ _ a vs _ hL _ _ _ hI _ hc _
  have hlen:l.length<=1000000:=by omega
  obtain⟨J',q⟩:=MineB.law_small l hlen
  have TR:=topRead_of T
  refine whole (f:=99) (kok w.params) KX ⟨_,TR.g⟩ ⟨_,TR.b,TR.builtins⟩ TR.nolimit hL hI ⟨rfl,by decide,by decide⟩ q fun h' tk kk=>?_
  refine GoodW.toG ⟨.inl ⟨_,.bool true,[],rfl,fun _=>rfl,ReadsW.bool true,?_,fun _=>⟨List.nodup_nil,fun _ hm=>(nomatch hm)⟩⟩,kk,rfl,hg⟩
  first | rfl | wrow_post)) MineH.ws
end
