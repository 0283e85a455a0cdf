import PyProof.Rows.All
import Wide.All
import OpenK.AllK
import Wide.FinOn
import Lean
import PySem.Challenge.RW_og0259_01
open PySem PySem.W PyProof.Rows
set_option Elab.async false
set_option maxRecDepth 100000
set_option linter.all false
set_option autoImplicit false
set_option genSizeOf false
set_option tactic.hygienic false
set_option compiler.extract_closed false
namespace Mine

theorem aa {α : Type _} {i : Nonempty α} {P : α->Prop} (h : P (@Classical.epsilon α i fun x => ¬P x)) (x : α) : P x := Classical.byContradiction fun hx => (Classical.epsilon_spec (p := fun x => ¬P x) ⟨x, hx⟩) h
noncomputable def pk1 {α : Type _} (i : Nonempty (α)) (P : α->Prop) : α := @Classical.epsilon _ i (fun t => ¬P t)
noncomputable def px1 {α : Type _} (i : Nonempty (α)) (P : α->Prop) : α := @Classical.epsilon _ i (fun t => P t)
theorem a1_ {α : Type _} [i : Nonempty (α)] {P : α->Prop} (h : P (pk1 i P)) : ∀x0, P x0 := fun x0 => aa (P := fun t => P t) h x0
theorem x1_ {α : Type _} {P : α->Prop} (h : ∃x0, P x0) [i : Nonempty (α)] {G : Prop} (k : P (px1 i P)->G) : G := k (Classical.epsilon_spec (p := fun t => P t) h)
noncomputable def pk2 {α : Type _} {β : Type _} (i : Nonempty (α×β)) (P : α->β->Prop) : α×β := @Classical.epsilon _ i (fun t => ¬P t.1 t.2)
noncomputable def px2 {α : Type _} {β : Type _} (i : Nonempty (α×β)) (P : α->β->Prop) : α×β := @Classical.epsilon _ i (fun t => P t.1 t.2)
theorem a2_ {α : Type _} {β : Type _} [i : Nonempty (α×β)] {P : α->β->Prop} (h : P (pk2 i P).1 (pk2 i P).2) : ∀x0 x1, P x0 x1 := fun x0 x1 => aa (P := fun t => P t.1 t.2) h (x0, x1)
theorem x2_ {α : Type _} {β : Type _} {P : α->β->Prop} (h : ∃x0 x1, P x0 x1) [i : Nonempty (α×β)] {G : Prop} (k : P (px2 i P).1 (px2 i P).2->G) : G := k (Classical.epsilon_spec (p := fun t => P t.1 t.2) (h.elim fun x0 h => h.elim fun x1 h => ⟨(x0, x1), h⟩))
noncomputable def pk3 {α : Type _} {β : Type _} {γ : Type _} (i : Nonempty (α×β×γ)) (P : α->β->γ->Prop) : α×β×γ := @Classical.epsilon _ i (fun t => ¬P t.1 t.2.1 t.2.2)
noncomputable def px3 {α : Type _} {β : Type _} {γ : Type _} (i : Nonempty (α×β×γ)) (P : α->β->γ->Prop) : α×β×γ := @Classical.epsilon _ i (fun t => P t.1 t.2.1 t.2.2)
theorem a3_ {α : Type _} {β : Type _} {γ : Type _} [i : Nonempty (α×β×γ)] {P : α->β->γ->Prop} (h : P (pk3 i P).1 (pk3 i P).2.1 (pk3 i P).2.2) : ∀x0 x1 x2, P x0 x1 x2 := fun x0 x1 x2 => aa (P := fun t => P t.1 t.2.1 t.2.2) h (x0, x1, x2)
theorem x3_ {α : Type _} {β : Type _} {γ : Type _} {P : α->β->γ->Prop} (h : ∃x0 x1 x2, P x0 x1 x2) [i : Nonempty (α×β×γ)] {G : Prop} (k : P (px3 i P).1 (px3 i P).2.1 (px3 i P).2.2->G) : G := k (Classical.epsilon_spec (p := fun t => P t.1 t.2.1 t.2.2) (h.elim fun x0 h => h.elim fun x1 h => h.elim fun x2 h => ⟨(x0, x1, x2), h⟩))
noncomputable def pk4 {α : Type _} {β : Type _} {γ : Type _} {δ : Type _} (i : Nonempty (α×β×γ×δ)) (P : α->β->γ->δ->Prop) : α×β×γ×δ := @Classical.epsilon _ i (fun t => ¬P t.1 t.2.1 t.2.2.1 t.2.2.2)
noncomputable def px4 {α : Type _} {β : Type _} {γ : Type _} {δ : Type _} (i : Nonempty (α×β×γ×δ)) (P : α->β->γ->δ->Prop) : α×β×γ×δ := @Classical.epsilon _ i (fun t => P t.1 t.2.1 t.2.2.1 t.2.2.2)
theorem a4_ {α : Type _} {β : Type _} {γ : Type _} {δ : Type _} [i : Nonempty (α×β×γ×δ)] {P : α->β->γ->δ->Prop} (h : P (pk4 i P).1 (pk4 i P).2.1 (pk4 i P).2.2.1 (pk4 i P).2.2.2) : ∀x0 x1 x2 x3, P x0 x1 x2 x3 := fun x0 x1 x2 x3 => aa (P := fun t => P t.1 t.2.1 t.2.2.1 t.2.2.2) h (x0, x1, x2, x3)
theorem x4_ {α : Type _} {β : Type _} {γ : Type _} {δ : Type _} {P : α->β->γ->δ->Prop} (h : ∃x0 x1 x2 x3, P x0 x1 x2 x3) [i : Nonempty (α×β×γ×δ)] {G : Prop} (k : P (px4 i P).1 (px4 i P).2.1 (px4 i P).2.2.1 (px4 i P).2.2.2->G) : G := k (Classical.epsilon_spec (p := fun t => P t.1 t.2.1 t.2.2.1 t.2.2.2) (h.elim fun x0 h => h.elim fun x1 h => h.elim fun x2 h => h.elim fun x3 h => ⟨(x0, x1, x2, x3), h⟩))
noncomputable def pk5 {α : Type _} {β : Type _} {γ : Type _} {δ : Type _} {ε : Type _} (i : Nonempty (α×β×γ×δ×ε)) (P : α->β->γ->δ->ε->Prop) : α×β×γ×δ×ε := @Classical.epsilon _ i (fun t => ¬P t.1 t.2.1 t.2.2.1 t.2.2.2.1 t.2.2.2.2)
noncomputable def px5 {α : Type _} {β : Type _} {γ : Type _} {δ : Type _} {ε : Type _} (i : Nonempty (α×β×γ×δ×ε)) (P : α->β->γ->δ->ε->Prop) : α×β×γ×δ×ε := @Classical.epsilon _ i (fun t => P t.1 t.2.1 t.2.2.1 t.2.2.2.1 t.2.2.2.2)
theorem a5_ {α : Type _} {β : Type _} {γ : Type _} {δ : Type _} {ε : Type _} [i : Nonempty (α×β×γ×δ×ε)] {P : α->β->γ->δ->ε->Prop} (h : P (pk5 i P).1 (pk5 i P).2.1 (pk5 i P).2.2.1 (pk5 i P).2.2.2.1 (pk5 i P).2.2.2.2) : ∀x0 x1 x2 x3 x4, P x0 x1 x2 x3 x4 := fun x0 x1 x2 x3 x4 => aa (P := fun t => P t.1 t.2.1 t.2.2.1 t.2.2.2.1 t.2.2.2.2) h (x0, x1, x2, x3, x4)
theorem x5_ {α : Type _} {β : Type _} {γ : Type _} {δ : Type _} {ε : Type _} {P : α->β->γ->δ->ε->Prop} (h : ∃x0 x1 x2 x3 x4, P x0 x1 x2 x3 x4) [i : Nonempty (α×β×γ×δ×ε)] {G : Prop} (k : P (px5 i P).1 (px5 i P).2.1 (px5 i P).2.2.1 (px5 i P).2.2.2.1 (px5 i P).2.2.2.2->G) : G := k (Classical.epsilon_spec (p := fun t => P t.1 t.2.1 t.2.2.1 t.2.2.2.1 t.2.2.2.2) (h.elim fun x0 h => h.elim fun x1 h => h.elim fun x2 h => h.elim fun x3 h => h.elim fun x4 h => ⟨(x0, x1, x2, x3, x4), h⟩))
noncomputable def pk6 {α : Type _} {β : Type _} {γ : Type _} {δ : Type _} {ε : Type _} {ζ : Type _} (i : Nonempty (α×β×γ×δ×ε×ζ)) (P : α->β->γ->δ->ε->ζ->Prop) : α×β×γ×δ×ε×ζ := @Classical.epsilon _ i (fun t => ¬P t.1 t.2.1 t.2.2.1 t.2.2.2.1 t.2.2.2.2.1 t.2.2.2.2.2)
noncomputable def px6 {α : Type _} {β : Type _} {γ : Type _} {δ : Type _} {ε : Type _} {ζ : Type _} (i : Nonempty (α×β×γ×δ×ε×ζ)) (P : α->β->γ->δ->ε->ζ->Prop) : α×β×γ×δ×ε×ζ := @Classical.epsilon _ i (fun t => P t.1 t.2.1 t.2.2.1 t.2.2.2.1 t.2.2.2.2.1 t.2.2.2.2.2)
theorem a6_ {α : Type _} {β : Type _} {γ : Type _} {δ : Type _} {ε : Type _} {ζ : Type _} [i : Nonempty (α×β×γ×δ×ε×ζ)] {P : α->β->γ->δ->ε->ζ->Prop} (h : P (pk6 i P).1 (pk6 i P).2.1 (pk6 i P).2.2.1 (pk6 i P).2.2.2.1 (pk6 i P).2.2.2.2.1 (pk6 i P).2.2.2.2.2) : ∀x0 x1 x2 x3 x4 x5, P x0 x1 x2 x3 x4 x5 := fun x0 x1 x2 x3 x4 x5 => aa (P := fun t => P t.1 t.2.1 t.2.2.1 t.2.2.2.1 t.2.2.2.2.1 t.2.2.2.2.2) h (x0, x1, x2, x3, x4, x5)
theorem x6_ {α : Type _} {β : Type _} {γ : Type _} {δ : Type _} {ε : Type _} {ζ : Type _} {P : α->β->γ->δ->ε->ζ->Prop} (h : ∃x0 x1 x2 x3 x4 x5, P x0 x1 x2 x3 x4 x5) [i : Nonempty (α×β×γ×δ×ε×ζ)] {G : Prop} (k : P (px6 i P).1 (px6 i P).2.1 (px6 i P).2.2.1 (px6 i P).2.2.2.1 (px6 i P).2.2.2.2.1 (px6 i P).2.2.2.2.2->G) : G := k (Classical.epsilon_spec (p := fun t => P t.1 t.2.1 t.2.2.1 t.2.2.2.1 t.2.2.2.2.1 t.2.2.2.2.2) (h.elim fun x0 h => h.elim fun x1 h => h.elim fun x2 h => h.elim fun x3 h => h.elim fun x4 h => h.elim fun x5 h => ⟨(x0, x1, x2, x3, x4, x5), h⟩))
theorem cj_ {A B G : Prop} (h : A/\B) (k : A->B->G) : G := k h.1 h.2
theorem pr_ {α β : Type _} (t : α×β) : ∃a b, t=(a, b) := ⟨t.1, t.2, rfl⟩
theorem tF {α : Type _} (o : Option α) : o=none \/ ∃x, o=some x := by cases o<;>simp
theorem Wo {α : Type _} (l : List α) : l=[] \/ ∃a r, l=a::r := by cases l<;>simp
theorem Qi (n : Nat) : n=0 \/ ∃k, n=k+1 := by cases n<;>simp
instance : Nonempty Shared := ⟨{}⟩
instance : Nonempty Around := ⟨{}⟩
instance : Nonempty World := ⟨⟨fun _ _ => 0, { strHash := fun _ => 0, shareClass := fun _ => 0, mergeTok := fun x => x, idOf := fun _ => 0, idOfShared := fun _ _ => 0, followText := fun _ => false, idOfImm := fun _ => 0 }⟩⟩
instance : Nonempty Model := let ⟨w⟩ := (inferInstance : Nonempty World);⟨⟨fun _ => default, default, w⟩⟩

section
open Lean Parser.Tactic Parser.Term
def nd_ (k : Name) (a : List Syntax) : Syntax := .node .none k a.toArray
def nl_ (a : List Syntax) : Syntax := nd_ `null a
def at_ (s : String) : Syntax := .atom .none s
def id_ (s : String) : Syntax := .ident .none "".toSubstring (.mkSimple s) []
def hl_ : Syntax := nd_ ``hole [at_ "_"]
def sh_ : Syntax := nd_ ``syntheticHole [at_ "?", at_ "_"]
def qn (f : Syntax) (as : List Syntax) : Syntax := nd_ ``app [f, nl_ as]
def rf_ (t : Syntax) : Syntax := nd_ ``refine [at_ "refine", t]
def gz_ (t x : Syntax) : Syntax := nd_ ``Parser.Tactic.generalize [at_ "generalize", nl_ [nd_ ``generalizeArg [nl_ [], t, at_ "=", x]], nl_ []]
def is_ (xs : List Syntax) : Syntax := nd_ ``intros [at_ "intros", nl_ xs]
def fn_ (x y : Syntax) : Syntax := nd_ ``Parser.Term.fun [at_ "fun", nd_ ``basicFun [nl_ [x], nl_ [], at_ "=>", y]]
def ob_ (p e : Syntax) : Syntax := nd_ ``obtain [at_ "obtain", nl_ [p], nl_ [at_ ":", hl_], nl_ [at_ ":=", nl_ [e]]]
def sp_ (s : String) (l : List Syntax) : List Syntax := (l.flatMap fun a => [at_ s, a]).tail
def ts_ (l : List Syntax) : Syntax := nd_ ``tacticSeq [nd_ ``tacticSeq1Indented [nl_ (sp_ ";" l)]]
def cl_ (e : Syntax) : List Syntax := if e.isIdent then [nd_ ``tacticTry_ [at_ "try", ts_ [nd_ ``Parser.Tactic.clear [at_ "clear", nl_ [e]]]]] else []
def ft_ (l : List (List Syntax)) : Syntax := nd_ ``first [at_ "first", nl_ (l.map fun a => nd_ `group [at_ "|", ts_ a])]
def sn_ (j : Nat) (t : Syntax) : Syntax := (List.range j).foldl (fun t _ => qn (mkIdent ``Prod.snd) [t]) t
/-- names the parts of the chosen one -/
def gs_ (t : Syntax) (l : List Syntax) : List Syntax :=
  l.mapIdx fun j x => gz_ (if j+1==l.length then sn_ j t else qn (mkIdent ``Prod.fst) [sn_ j t]) (if x.isIdent then x else id_ "x_")
def pk_ (s : String) (k : Nat) : Syntax := qn (id_ (s++toString k)) [hl_, hl_]
/-- a pattern's name: an identifier, or none -/
def nm_ (p : Syntax) : Syntax :=
  let q := p[0][0][0]
  if q.isOfKind ``rcasesPat.one then (if q[0].getId == `rfl then .missing else q[0]) else if q.isOfKind ``rcasesPat.ignore then mkNullNode else .missing
def tp_ (ps : List Syntax) : Syntax := if ps.length==1 then ps.head![0] else nd_ ``rcasesPatMed [nl_ [nd_ ``rcasesPat.tuple [at_ "⟨", nl_ (sp_ "," ps), at_ "⟩"]]]
/-- names for the last, and what is still to take apart -/
def rs_ (d : String) (ps : List Syntax) : Syntax×List Syntax :=
  if ps.length==1&&(nm_ ps.head!).isIdent then (nm_ ps.head!, []) else (id_ (d++toString ps.length), [ob_ (tp_ ps) (id_ (d++toString ps.length))])
def ia_ (xs : List Syntax) (n : Nat) : List (List Syntax) := (List.range n).reverse.map fun k =>
  rf_ (qn (nd_ ``explicit [at_ "@", id_ ("a"++toString (k+1)++"_")]) (List.replicate (k+3) hl_++[sh_]))::gs_ (pk_ "pk" (k+1)) (xs.take (k+1))++(if (xs.drop (k+1)).isEmpty then [] else [is_ (xs.drop (k+1))])
def oa_ (e : Syntax) (ps : List Syntax) (n : Nat) : List (List Syntax) := (List.range n).reverse.flatMap fun k =>
    let xs := (ps.take (k+1)).map nm_
    if xs.any (·.isMissing) then [] else
    let h := rs_ "y_" (ps.drop (k+1))
    [rf_ (qn (id_ ("x"++toString (k+1)++"_")) [e, sh_])::gs_ (pk_ "px" (k+1)) xs++rf_ (fn_ h.1 sh_)::cl_ e++h.2]
def ex_ (t : Syntax) : Syntax := nd_ ``exact [at_ "exact", t]
def rl_ : List Syntax := [is_ [], ex_ (mkIdent ``rfl)]
def ar_ : Syntax := ts_ [ex_ (qn (mkIdent ``Eq.refl) [mkIdent ``true])]
def ak_ : Syntax := ts_ [nd_ `tacticKernel_rfl [at_ "kernel_rfl"]]
def af_ : Syntax := ts_ rl_
def am_ : Syntax := ts_ [nd_ ``Parser.Tactic.constructor [at_ "constructor"], nd_ ``allGoals [at_ "all_goals", ts_ rl_]]
def an_ : Syntax := ts_ [ft_ [[ex_ (qn (id_ "kept_type") [hl_])], [ex_ (qn (id_ "kept_builtin") [hl_])]]]
def cs_ (s : String) : Syntax := nd_ ``Parser.Tactic.cases [at_ "cases", nl_ [nd_ ``elimTarget [nl_ [], id_ s]], nl_ [], nl_ []]
def aw_ : Syntax := ts_ [ft_ [rl_, [nd_ ``Parser.Tactic.intro [at_ "intro", nl_ [id_ "e", id_ "h"]], cs_ "e", cs_ "h", ex_ (mkIdent ``rfl)]]]
def wr_ (t : Syntax) : Syntax := nd_ ``withReducible [at_ "with_reducible", ts_ [t]]
def ap_ (l : List (String×Bool)) : Syntax := ts_ [ft_ (l.map (fun p => if p.2 then [wr_ (rf_ (qn (id_ p.1) [sh_])), ex_ (qn (mkIdent ``Eq.refl) [mkIdent ``true])] else [wr_ (ex_ (id_ p.1))])++[[nd_ ``simp [at_ "simp", nd_ ``Parser.Tactic.optConfig [nl_ [nd_ ``Parser.Tactic.configItem [nd_ ``Parser.Tactic.posConfigItem [at_ "+", id_ "arith"]]]], nl_ [], nl_ [at_ "only"], nl_ [], nl_ []]]])]
def ag_ : Syntax := ap_ [("p3", false), ("p1", true), ("p2", true), ("p4", false), ("p8", false), ("pe", false), ("p9", true), ("pd", false), ("q1", true), ("q2", true), ("Lb", true)]
def ah_ : Syntax := ap_ [("p6", false), ("p7", false), ("p5", true), ("pa", true), ("pb", false), ("pc", false), ("pf", false), ("pg", true), ("p3", false)]
end
open Lean in
local macro_rules
  | `(tactic| intros $xs*) => do
    let xs : List Syntax := xs.toList.map (·.raw)
    if xs.isEmpty||!(xs.all fun x => x.isIdent||x.isOfKind ``Parser.Term.hole) then Macro.throwUnsupported
    return ft_ (ia_ xs (min xs.length 6)++[rf_ (nd_ ``Parser.Term.explicit [at_ "@", fn_ xs.head! sh_])::if xs.tail.isEmpty then [] else [is_ xs.tail]])
open Lean in
local macro_rules
  | `(tactic| obtain $p:rcasesPatMed : _ := $e:term) => do
    let fb <-`(tactic| rcases($e)with $p)
    let q := p.raw[0][0]
    if q.isOfKind ``Parser.Tactic.rcasesPat.paren then return ob_ q[1][0] e
    let ps := q[1].getSepArgs.toList
    if !q.isOfKind ``Parser.Tactic.rcasesPat.tuple||ps.length<2 then return fb
    let l := rs_ "yl_" (ps.take 1)
    let r := rs_ "yr_" ps.tail
    let a := rf_ (qn (id_ "cj_") [e, fn_ l.1 (fn_ r.1 sh_)])::cl_ e++l.2++r.2
    let b := rf_ (qn (id_ "x2_") [qn (id_ "pr_") [e], sh_])::gs_ (pk_ "px" 2) [l.1, r.1]++[rf_ (fn_ (id_ "q_") sh_), nd_ ``Parser.Tactic.subst [at_ "subst", nl_ [id_ "q_"]]]++l.2++r.2
    return ft_ (oa_ e ps (min (ps.length-1) 5)++a::(if ps.length==2 then [b] else [])++[[fb.raw]])
theorem wA {n m:Nat}:n<=m+n:=Nat.le_add_left n m
theorem wB {n:Nat}:0<n.succ:=Nat.succ_pos n
theorem wC {n:Nat}:n<=n:=Nat.le_refl n
theorem wD {n:Nat}:0<=n:=Nat.zero_le n
theorem wE {α:Type _} {a:α}:¬a∈([]:List α):=List.not_mem_nil
theorem Le {a b:Nat} (h:a=b):a<=b:=Nat.le_of_eq h
theorem Re {a b:Nat} (h:a=b):b<=a:=Nat.le_of_eq h.symm
theorem Nl {a b:Nat} (h:¬a<=b):b+1<=a:=Nat.lt_of_not_le h
theorem Nt {a b:Nat} (h:¬a<b):b<=a:=Nat.le_of_not_lt h
theorem Lb {n m:Nat} (h:autoParam (Nat.ble n m=true) ar_):n<=m:=Nat.le_of_ble_eq_true h
theorem p1 {a n m:Nat} (h:autoParam (Nat.ble n m=true) ar_):a+n<=m+a:=Nat.le_trans (Nat.add_le_add_left (Lb h) a) (Nat.le_of_eq (Nat.add_comm ..))
theorem p2 {a n m:Nat} (h:autoParam (Nat.ble n m=true) ar_):n+a<=a+m:=Nat.le_trans (Nat.add_le_add_right (Lb h) a) (Nat.le_of_eq (Nat.add_comm ..))
theorem q2 {a n m:Nat} (h:autoParam (Nat.ble (n+1) m=true) ar_):a+1+n<=m+a:=Nat.le_trans (Nat.le_of_eq (by rw[Nat.add_assoc,Nat.add_comm 1])) (p1 h)
theorem p3 {a b:Nat}:a+b<=b+a:=Nat.le_of_eq (Nat.add_comm ..)
theorem p4 {a b c:Nat}:a+b<=b+c+a:=by simp +arith only
theorem p5 {a b n m:Nat} (h:autoParam (Nat.ble n m=true) ar_):a+(n+b)<=m+(b+a):=by have:=Lb h;simp +arith only[this]
theorem p6 {a b c:Nat}:a+(b+c)<=c+(a+b):=by simp +arith only
theorem p7 {a b c:Nat}:a+(b+c)<=b+(c+a):=by simp +arith only
theorem p8 {a b c:Nat}:a+b<=b+(a+c):=by simp +arith only
theorem p9 {a n m c:Nat} (h:autoParam (Nat.ble n m=true) ar_):a+n<=m+(a+c):=by have:=Lb h;simp +arith only;exact Nat.le_add_right_of_le this
theorem q1 {a n m:Nat} (h:autoParam (Nat.ble n m=true) ar_):a+n<=m+(a+1):=p9 h
theorem pa {a b n m:Nat} (h:autoParam (Nat.ble n m=true) ar_):a+(b+n)<=m+(a+b):=by have:=Lb h;simp +arith only[this]
theorem pb {a b:Nat}:1+(a+b)<=0+(b+1+a):=by simp +arith only
theorem pc {a b c d:Nat}:a+(b+c)<=c+(a+(b+d)):=by simp +arith only
theorem pd {a b c:Nat}:a+b<=b+a+c:=by simp +arith only
theorem pe {a b c:Nat}:a+b<=b+(c+a):=by simp +arith only
theorem pf {a b c:Nat}:a+(b+c)<=c+(b+a):=by simp +arith only
theorem pg {a b n m c:Nat} (h:autoParam (Nat.ble n m=true) ar_):a+(b+n)<=m+(a+(b+c)):=by have:=Lb h;simp +arith only;exact Nat.le_add_right_of_le this
theorem F1 {a b x y:Nat} (h:a<=b) (v:autoParam (x+b<=y+a) ag_):x<=y:=Nat.le_of_add_le_add_right (Nat.le_trans v (Nat.add_le_add_left h y))
theorem F2 {a b c d x y:Nat} (h:a<=b) (k:c<=d) (v:autoParam (x+(b+d)<=y+(a+c)) ah_):x<=y:=F1 (Nat.add_le_add h k) v
theorem F3 {a b c d e f x y:Nat} (h:a<=b) (k:c<=d) (l:e<=f) (v:autoParam (x+(b+(d+f))<=y+(a+(c+e))) ah_):x<=y:=F1 (Nat.add_le_add h (Nat.add_le_add k l)) v
theorem F4 {a b c d e f g i x y:Nat} (h:a<=b) (k:c<=d) (l:e<=f) (m:g<=i) (v:autoParam (x+(b+(d+(f+i)))<=y+(a+(c+(e+g)))) ah_):x<=y:=F1 (Nat.add_le_add h (Nat.add_le_add k (Nat.add_le_add l m))) v
theorem F5 {a b c d e f g i j o x y:Nat} (h:a<=b) (k:c<=d) (l:e<=f) (m:g<=i) (n:j<=o) (v:autoParam (x+(b+(d+(f+(i+o))))<=y+(a+(c+(e+(g+j))))) ah_):x<=y:=F1 (Nat.add_le_add h (Nat.add_le_add k (Nat.add_le_add l (Nat.add_le_add m n)))) v
theorem Z {p:Prop} (h:1<=0):p:=absurd h (by decide)
theorem Q {a b:Nat} (h:b+1<=a):¬a<=b:=Nat.not_le_of_lt h
theorem Qt {a b:Nat} (h:b<=a):¬a<b:=Nat.not_lt_of_le h
theorem Ql {a b:Nat} (h:a+1<=b):a≠b:=Nat.ne_of_lt h
theorem Qr {a b:Nat} (h:b+1<=a):a≠b:=Nat.ne_of_gt h
theorem U (c:Nat) {a b:Nat} (h:a<=b):a*c<=b*c:=Nat.mul_le_mul_right c h
theorem l2 {j:Nat} (h:j<=1):j=0\/j=1:=(Nat.le_or_eq_of_le_succ h).imp Nat.eq_zero_of_le_zero id
theorem l3 {j:Nat} (h:j<=2):j=0\/j=1\/j=2:=(Nat.le_or_eq_of_le_succ h).elim (fun h=>(l2 h).imp id .inl) fun e=>.inr (.inr e)
theorem l4 {j:Nat} (h:j<=3):j=0\/j=1\/j=2\/j=3:=(Nat.le_or_eq_of_le_succ h).elim (fun h=>(l3 h).imp id (.imp id .inl)) fun e=>.inr (.inr (.inr e))
theorem J6 {j:Nat} (h:j<=999999999999):(j:Int)<2 ^ 63:=Int.lt_of_le_of_lt (Int.ofNat_le.mpr h) (by decide)
theorem I6 {j:Nat} (h:j<=999999999999):-2 ^ 63<=(j:Int)/\(j:Int)<2 ^ 63:=⟨Int.le_trans (by decide) (Int.natCast_nonneg j),J6 h⟩
theorem J2 {j:Nat} (h:j<=999999999999):(j:Int)<2 ^ 62:=Int.lt_of_le_of_lt (Int.ofNat_le.mpr h) (by decide)
theorem A6 {j:Nat} (h:j<=999999999999):(j:Int).natAbs<2 ^ 1900:=Nat.lt_of_le_of_lt h (Nat.lt_of_lt_of_le (by decide:999999999999<2 ^ 64) (Nat.pow_le_pow_right (by decide) (by decide)))
theorem iL {a b:Nat} (h:(a:Int)<=(b:Int)):a<=b:=Int.ofNat_le.mp h
theorem iT {a b:Nat} (h:(a:Int)<(b:Int)):a<b:=Int.ofNat_lt.mp h
theorem iE {a b:Nat} (h:(a:Int)=(b:Int)):a=b:=Int.ofNat_inj.mp h
theorem iNL {a b:Nat} (h:¬(a:Int)<=(b:Int)):b<a:=Nat.lt_of_not_le fun k=>h (Int.ofNat_le.mpr k)
theorem iNT {a b:Nat} (h:¬(a:Int)<(b:Int)):b<=a:=Nat.le_of_not_lt fun k=>h (Int.ofNat_lt.mpr k)
theorem kL (a b:Nat) (h:a<=b):(a:Int)<=(b:Int):=Int.ofNat_le.mpr h
theorem kT (a b:Nat) (h:a<b):(a:Int)<(b:Int):=Int.ofNat_lt.mpr h
theorem kE (a b:Nat) (h:a=b):(a:Int)=(b:Int):=congrArg _ h
theorem S1 (a b:Nat) (h:b<=a):a-b+b=a:=Nat.sub_add_cancel h
theorem S0 (a b:Nat) (h:a<=b):a-b=0:=Nat.sub_eq_zero_of_le h
theorem mL (a b:Nat) (h:a<=b):min a b=a:=Nat.min_eq_left h
theorem G {a b c d:Nat} (h:a<=b) (k:c<=d):a+c<=b+d:=Nat.add_le_add h k
theorem nl {a b:Nat} (h:a<=b) (k:¬a=b):a+1<=b:=Nat.lt_of_le_of_ne h k
theorem nr {a b:Nat} (h:b<=a) (k:¬a=b):b+1<=a:=Nat.lt_of_le_of_ne h (Ne.symm k)
theorem I7 {j:Nat} (h:j<=999999999999):-9223372036854775808<=(j:Int)/\(j:Int)<9223372036854775808:=I6 h
theorem M2 (k:Nat):k%2<=1:=Nat.le_of_lt_succ (Nat.mod_lt k (by decide))
theorem M3 (k:Nat):k%3<=2:=Nat.le_of_lt_succ (Nat.mod_lt k (by decide))
theorem M4 (k:Nat):k%4<=3:=Nat.le_of_lt_succ (Nat.mod_lt k (by decide))
theorem M8 (k:Nat):k%8<=7:=Nat.le_of_lt_succ (Nat.mod_lt k (by decide))
theorem M10 (k:Nat):k%10<=9:=Nat.le_of_lt_succ (Nat.mod_lt k (by decide))
theorem M16 (k:Nat):k%16<=15:=Nat.le_of_lt_succ (Nat.mod_lt k (by decide))
theorem M32 (k:Nat):k%32<=31:=Nat.le_of_lt_succ (Nat.mod_lt k (by decide))
theorem i1 {k:Int} {i:Nat}:k+1+(i:Int)=k+((i+1:Nat):Int):=(Int.add_assoc ..).trans (congrArg (k + ·) (Int.add_comm ..))
theorem ds {a b n:Nat} (h:a-b=n) (k:a<=n) (l:0<n):b=0:=Nat.eq_zero_of_not_pos fun hb=>Nat.lt_irrefl n (Nat.lt_of_lt_of_le (h▸Nat.sub_lt (Nat.lt_of_lt_of_le (h.symm▸l) (Nat.sub_le a b)) hb) k)
theorem I8 {j:Nat} (h:j<1152921504606846976):-2 ^ 63<=(j:Int)/\(j:Int)<2 ^ 63:=⟨Int.le_trans (by decide) (Int.natCast_nonneg j),Int.lt_trans (Int.ofNat_lt.mpr h) (by decide)⟩
theorem b8 {x:Nat} (h:x<256):(0:Int)<=(x:Int)/\(x:Int)<256:=⟨Int.natCast_nonneg x,Int.ofNat_lt.mpr h⟩
theorem bd {x n:Nat} (h:x<n) (k:48+n<=256):(0:Int)<=((48+x:Nat):Int)/\((48+x:Nat):Int)<256:=b8 (Nat.lt_of_lt_of_le (Nat.add_lt_add_left h 48) k)
theorem bc {a:Int} {l:List Int} (h:0<=a/\a<256) (t:∀n∈l,0<=n/\n<256):∀n∈a::l,0<=n/\n<256:=List.forall_mem_cons.mpr ⟨h,t⟩
theorem cs {a b c:Nat} (h:c<=b):((a+(b-c):Nat):Int)=(a:Int)+b-c:=(congrArg ((a:Int) + ·) (Int.ofNat_sub h)).trans (Int.add_sub_assoc ..).symm
theorem I3 {i:Int} (h:0<=i) (k:i<1000003):-2 ^ 63<=i/\i<2 ^ 63:=⟨Int.le_trans (by decide) h,Int.lt_trans k (by decide)⟩
theorem AS {a b:Nat} (h:a<=b) (k:b<=a):a=b:=Nat.le_antisymm h k
theorem sa {a b c:Nat} (h:a<=c+b):a-b<=c:=Nat.sub_le_of_le_add h
theorem s1 {j n:Nat} (h:j<n):n-j=n-(j+1)+1:=(Nat.succ_pred_eq_of_pos (Nat.sub_pos_of_lt h)).symm
theorem s2 {j n:Nat} (h:j<n):n-j=n-j-1+1:=(Nat.succ_pred_eq_of_pos (Nat.sub_pos_of_lt h)).symm
theorem s3 {j n k:Nat} (h:n-j=k+1):n-(j+1)=k:=congrArg Nat.pred h
theorem s4 {j n:Nat} (h:j<=n) (k:n-j=0):j=n:=Nat.le_antisymm h (Nat.sub_eq_zero_iff_le.mp k)
theorem s5 {j n k:Nat} (h:n-j=k+1):j<n:=Nat.lt_of_sub_pos (h▸Nat.succ_pos k)
theorem s6 {j n:Nat} (h:j<n):n+1-(j+1)<n+1-j:=Nat.sub_succ_lt_self _ _ (Nat.lt_succ_of_lt h)
theorem s7 {j n:Nat} (h:n-j=0):n<=j:=Nat.sub_eq_zero_iff_le.mp h
theorem s8 {a b:Nat}:a+b-a=b:=Nat.add_sub_cancel_left a b
theorem s9 {a:Nat} (h:a≠0):a=a-1+1:=(Nat.succ_pred_eq_of_ne_zero h).symm
theorem o2 {c a b:Nat} (h:(c:Int)=(a:Int)\/(c:Int)=(b:Int)):c=a\/c=b:=h.imp iE iE
theorem o3 {c a b d:Nat} (h:(c:Int)=(a:Int)\/(c:Int)=(b:Int)\/(c:Int)=(d:Int)):c=a\/c=b\/c=d:=h.imp iE o2
theorem c2 {c a b:Nat} (h:c=a\/c=b):(c:Int)=(a:Int)\/(c:Int)=(b:Int):=h.imp (congrArg _) (congrArg _)
theorem c3 {c a b d:Nat} (h:c=a\/c=b\/c=d):(c:Int)=(a:Int)\/(c:Int)=(b:Int)\/(c:Int)=(d:Int):=h.imp (congrArg _) c2
theorem l5 {j:Nat} (h:j<=4):j=0\/j=1\/j=2\/j=3\/j=4:=(Nat.le_succ_iff.mp h).elim (fun k=>(l4 k).elim .inl fun k=>.inr (k.elim .inl fun k=>.inr (k.elim .inl fun k=>.inr (.inl k)))) fun k=>.inr (.inr (.inr (.inr k)))
theorem l6:∀j,j<=5->j=0\/j=1\/j=2\/j=3\/j=4\/j=5:=by decide
theorem l16:∀j,j<=15->j=0\/j=1\/j=2\/j=3\/j=4\/j=5\/j=6\/j=7\/j=8\/j=9\/j=10\/j=11\/j=12\/j=13\/j=14\/j=15:=by decide
theorem nn {α:Type _} {P:α->Prop}:∀x,x∈([]:List α)->P x:=fun _ h=>(wE h).elim
theorem gn {α:Type} {l:List α} {a:α}:(l++[a])[l.length]?=some a:=List.getElem?_concat_length
theorem gp {α:Type} {l m:List α} {k:Nat} {o:α} (h:l[k]?=some o):(l++m)[k]?=some o:=(List.getElem?_append_left (List.getElem?_eq_some_iff.mp h).1).trans h
theorem gk {α:Type} {l m:List α} {k:Nat} {o:α} (h:m[k]?=some o):(l++m)[l.length+k]?=some o:=by rw[List.getElem?_append_right (Nat.le_add_right _ _),Nat.add_sub_cancel_left];exact h
theorem g0 {α:Type} {l m:List α} {o:α} (h:m[0]?=some o):(l++m)[l.length]?=some o:=gk (k:=0) h
theorem ge {α:Type} {l:List α} {k:Nat} {a:α} (h:k=l.length):(l++[a])[k]?=some a:=h▸gn
theorem g1 {α:Type} {l:List α} {a b:α}:(l++[a]++[b])[l.length+1]?=some b:=ge (List.length_append (as:=l) (bs:=[a])).symm
theorem la {α:Type} {l:List α} {a:α}:(l++[a]).length=l.length+1:=List.length_append
theorem g2 {α:Type} {l:List α} {a b c:α}:(l++[a]++[b]++[c])[l.length+2]?=some c:=ge (by rw[la,la])
theorem g3 {α:Type} {l:List α} {a b c d:α}:(l++[a]++[b]++[c]++[d])[l.length+3]?=some d:=ge (by rw[la,la,la])
theorem g4 {α:Type} {l:List α} {a b c d e:α}:(l++[a]++[b]++[c]++[d]++[e])[l.length+4]?=some e:=ge (by rw[la,la,la,la])
theorem g5 {α:Type} {l:List α} {a b c d e f:α}:(l++[a]++[b]++[c]++[d]++[e]++[f])[l.length+5]?=some f:=ge (by rw[la,la,la,la,la])
theorem zl {α β γ:Type} {l:List α} {f:α->β} {m:List γ} (h:m.length=l.length):((l.map f).zip m).length=l.length:=by rw[List.length_zip,List.length_map,h,Nat.min_self]
theorem dd2 {α:Type _} [DecidableEq α] {i a b:α}:decide (i=a\/i=b)=(decide (a=i)||(decide (b=i)||false)):=by simp[eq_comm]
theorem dd3 {α:Type _} [DecidableEq α] {i a b c:α}:decide (i=a\/i=b\/i=c)=(decide (a=i)||(decide (b=i)||(decide (c=i)||false))):=by simp[eq_comm]
theorem mc {α:Type _} {p:List α} {c:α} {r:List α}:p++c::r=p++[c]++r:=(List.append_cons ..)
theorem mf {α β:Type} {l:List α} {f:α->β}:(l.filter fun _=>true).map f=l.map f:=congrArg (List.map f) (List.filter_eq_self.mpr fun _ _=>rfl)
theorem lm {α β:Type} {l:List α} {f:α->β} {n:Nat} (h:l.length<=n):(l.map f).length<=n:=by rw[List.length_map];exact h
theorem le {α β:Type} {l:List α} {f:α->β} {n:Nat} (h:l.length=n):(l.map f).length=n:=by rw[List.length_map];exact h
theorem mm {α:Type} {l r:List α} {a:α}:a∈l++a::r:=List.mem_append_right _ (.head _)
theorem m2 {α:Type} {l r:List α} {a:α} (h:a∈l):a∈l++r:=List.mem_append_left _ h
theorem xn  {A0 A1:Prop} {G:Prop} (h:A0/\A1) (k:A0->A1->G):G:=k h.1 h.2
theorem t_  {A0 A1 A2:Prop} {G:Prop} (h:A0/\A1/\A2) (k:A0->A1->A2->G):G:=xn h.2 (k h.1)
theorem XQ  {A0 A1 A2 A3:Prop} {G:Prop} (h:A0/\A1/\A2/\A3) (k:A0->A1->A2->A3->G):G:=t_ h.2 (k h.1)
theorem Tc  {A0 A1 A2 A3 A4:Prop} {G:Prop} (h:A0/\A1/\A2/\A3/\A4) (k:A0->A1->A2->A3->A4->G):G:=XQ h.2 (k h.1)
theorem SM  {A0 A1 A2 A3 A4 A5:Prop} {G:Prop} (h:A0/\A1/\A2/\A3/\A4/\A5) (k:A0->A1->A2->A3->A4->A5->G):G:=Tc h.2 (k h.1)
theorem Q1  {A0 A1 A2 A3 A4 A5 A6:Prop} {G:Prop} (h:A0/\A1/\A2/\A3/\A4/\A5/\A6) (k:A0->A1->A2->A3->A4->A5->A6->G):G:=SM h.2 (k h.1)
theorem Q5  {A0 A1 A2 A3 A4 A5 A6 A7:Prop} {G:Prop} (h:A0/\A1/\A2/\A3/\A4/\A5/\A6/\A7) (k:A0->A1->A2->A3->A4->A5->A6->A7->G):G:=Q1 h.2 (k h.1)
theorem Q8  {A0 A1 A2 A3 A4 A5 A6 A7 A8:Prop} {G:Prop} (h:A0/\A1/\A2/\A3/\A4/\A5/\A6/\A7/\A8) (k:A0->A1->A2->A3->A4->A5->A6->A7->A8->G):G:=Q5 h.2 (k h.1)
theorem T9  {A0 A1 A2 A3 A4 A5 A6 A7 A8 A9:Prop} {G:Prop} (h:A0/\A1/\A2/\A3/\A4/\A5/\A6/\A7/\A8/\A9) (k:A0->A1->A2->A3->A4->A5->A6->A7->A8->A9->G):G:=Q8 h.2 (k h.1)
theorem zX {α:Sort _} {A0:α->Prop} {G:Prop} (h:∃x0,A0 x0) (k:∀x0,A0 x0->G):G:=h.elim k
theorem zn {α:Sort _} {A0 A1:α->Prop} {G:Prop} (h:∃x0,A0 x0/\A1 x0) (k:∀x0,A0 x0->A1 x0->G):G:=h.elim fun x h=>xn h (k x)
theorem yY {α:Sort _} {A0 A1 A2:α->Prop} {G:Prop} (h:∃x0,A0 x0/\A1 x0/\A2 x0) (k:∀x0,A0 x0->A1 x0->A2 x0->G):G:=h.elim fun x h=>t_ h (k x)
theorem Y6 {α:Sort _} {A0 A1 A2 A3:α->Prop} {G:Prop} (h:∃x0,A0 x0/\A1 x0/\A2 x0/\A3 x0) (k:∀x0,A0 x0->A1 x0->A2 x0->A3 x0->G):G:=h.elim fun x h=>XQ h (k x)
theorem QF {α:Sort _} {A0 A1 A2 A3 A4:α->Prop} {G:Prop} (h:∃x0,A0 x0/\A1 x0/\A2 x0/\A3 x0/\A4 x0) (k:∀x0,A0 x0->A1 x0->A2 x0->A3 x0->A4 x0->G):G:=h.elim fun x h=>Tc h (k x)
theorem Pu {α:Sort _} {A0 A1 A2 A3 A4 A5:α->Prop} {G:Prop} (h:∃x0,A0 x0/\A1 x0/\A2 x0/\A3 x0/\A4 x0/\A5 x0) (k:∀x0,A0 x0->A1 x0->A2 x0->A3 x0->A4 x0->A5 x0->G):G:=h.elim fun x h=>SM h (k x)
theorem P4 {α:Sort _} {A0 A1 A2 A3 A4 A5 A6:α->Prop} {G:Prop} (h:∃x0,A0 x0/\A1 x0/\A2 x0/\A3 x0/\A4 x0/\A5 x0/\A6 x0) (k:∀x0,A0 x0->A1 x0->A2 x0->A3 x0->A4 x0->A5 x0->A6 x0->G):G:=h.elim fun x h=>Q1 h (k x)
theorem Pd {α:Sort _} {A0 A1 A2 A3 A4 A5 A6 A7 A8:α->Prop} {G:Prop} (h:∃x0,A0 x0/\A1 x0/\A2 x0/\A3 x0/\A4 x0/\A5 x0/\A6 x0/\A7 x0/\A8 x0) (k:∀x0,A0 x0->A1 x0->A2 x0->A3 x0->A4 x0->A5 x0->A6 x0->A7 x0->A8 x0->G):G:=h.elim fun x h=>Q8 h (k x)
theorem QG {α:Sort _} {A0 A1 A2 A3 A4 A5 A6 A7 A8 A9:α->Prop} {G:Prop} (h:∃x0,A0 x0/\A1 x0/\A2 x0/\A3 x0/\A4 x0/\A5 x0/\A6 x0/\A7 x0/\A8 x0/\A9 x0) (k:∀x0,A0 x0->A1 x0->A2 x0->A3 x0->A4 x0->A5 x0->A6 x0->A7 x0->A8 x0->A9 x0->G):G:=h.elim fun x h=>T9 h (k x)
theorem qP {α:Sort _} {β:Sort _} {A0:α->β->Prop} {G:Prop} (h:∃x0 x1,A0 x0 x1) (k:∀x0 x1,A0 x0 x1->G):G:=h.elim fun x h=>zX h (k x)
theorem wL {α:Sort _} {β:Sort _} {A0 A1:α->β->Prop} {G:Prop} (h:∃x0 x1,A0 x0 x1/\A1 x0 x1) (k:∀x0 x1,A0 x0 x1->A1 x0 x1->G):G:=h.elim fun x h=>zn h (k x)
theorem xH {α:Sort _} {β:Sort _} {A0 A1 A2:α->β->Prop} {G:Prop} (h:∃x0 x1,A0 x0 x1/\A1 x0 x1/\A2 x0 x1) (k:∀x0 x1,A0 x0 x1->A1 x0 x1->A2 x0 x1->G):G:=h.elim fun x h=>yY h (k x)
theorem uR {α:Sort _} {β:Sort _} {A0 A1 A2 A3:α->β->Prop} {G:Prop} (h:∃x0 x1,A0 x0 x1/\A1 x0 x1/\A2 x0 x1/\A3 x0 x1) (k:∀x0 x1,A0 x0 x1->A1 x0 x1->A2 x0 x1->A3 x0 x1->G):G:=h.elim fun x h=>Y6 h (k x)
theorem Sr {α:Sort _} {β:Sort _} {A0 A1 A2 A3 A4:α->β->Prop} {G:Prop} (h:∃x0 x1,A0 x0 x1/\A1 x0 x1/\A2 x0 x1/\A3 x0 x1/\A4 x0 x1) (k:∀x0 x1,A0 x0 x1->A1 x0 x1->A2 x0 x1->A3 x0 x1->A4 x0 x1->G):G:=h.elim fun x h=>QF h (k x)
theorem Pg {α:Sort _} {β:Sort _} {A0 A1 A2 A3 A4 A5:α->β->Prop} {G:Prop} (h:∃x0 x1,A0 x0 x1/\A1 x0 x1/\A2 x0 x1/\A3 x0 x1/\A4 x0 x1/\A5 x0 x1) (k:∀x0 x1,A0 x0 x1->A1 x0 x1->A2 x0 x1->A3 x0 x1->A4 x0 x1->A5 x0 x1->G):G:=h.elim fun x h=>Pu h (k x)
theorem Pj {α:Sort _} {β:Sort _} {A0 A1 A2 A3 A4 A5 A6:α->β->Prop} {G:Prop} (h:∃x0 x1,A0 x0 x1/\A1 x0 x1/\A2 x0 x1/\A3 x0 x1/\A4 x0 x1/\A5 x0 x1/\A6 x0 x1) (k:∀x0 x1,A0 x0 x1->A1 x0 x1->A2 x0 x1->A3 x0 x1->A4 x0 x1->A5 x0 x1->A6 x0 x1->G):G:=h.elim fun x h=>P4 h (k x)
theorem Pq {α:Sort _} {β:Sort _} {A0 A1 A2 A3 A4 A5 A6 A7 A8:α->β->Prop} {G:Prop} (h:∃x0 x1,A0 x0 x1/\A1 x0 x1/\A2 x0 x1/\A3 x0 x1/\A4 x0 x1/\A5 x0 x1/\A6 x0 x1/\A7 x0 x1/\A8 x0 x1) (k:∀x0 x1,A0 x0 x1->A1 x0 x1->A2 x0 x1->A3 x0 x1->A4 x0 x1->A5 x0 x1->A6 x0 x1->A7 x0 x1->A8 x0 x1->G):G:=h.elim fun x h=>Pd h (k x)
theorem QH {α:Sort _} {β:Sort _} {A0 A1 A2 A3 A4 A5 A6 A7 A8 A9:α->β->Prop} {G:Prop} (h:∃x0 x1,A0 x0 x1/\A1 x0 x1/\A2 x0 x1/\A3 x0 x1/\A4 x0 x1/\A5 x0 x1/\A6 x0 x1/\A7 x0 x1/\A8 x0 x1/\A9 x0 x1) (k:∀x0 x1,A0 x0 x1->A1 x0 x1->A2 x0 x1->A3 x0 x1->A4 x0 x1->A5 x0 x1->A6 x0 x1->A7 x0 x1->A8 x0 x1->A9 x0 x1->G):G:=h.elim fun x h=>QG h (k x)
theorem QK {α:Sort _} {β:Sort _} {γ:Sort _} {A0:α->β->γ->Prop} {G:Prop} (h:∃x0 x1 x2,A0 x0 x1 x2) (k:∀x0 x1 x2,A0 x0 x1 x2->G):G:=h.elim fun x h=>qP h (k x)
theorem Uh {α:Sort _} {β:Sort _} {γ:Sort _} {A0 A1:α->β->γ->Prop} {G:Prop} (h:∃x0 x1 x2,A0 x0 x1 x2/\A1 x0 x1 x2) (k:∀x0 x1 x2,A0 x0 x1 x2->A1 x0 x1 x2->G):G:=h.elim fun x h=>wL h (k x)
theorem RI {α:Sort _} {β:Sort _} {γ:Sort _} {A0 A1 A2:α->β->γ->Prop} {G:Prop} (h:∃x0 x1 x2,A0 x0 x1 x2/\A1 x0 x1 x2/\A2 x0 x1 x2) (k:∀x0 x1 x2,A0 x0 x1 x2->A1 x0 x1 x2->A2 x0 x1 x2->G):G:=h.elim fun x h=>xH h (k x)
theorem X9 {α:Sort _} {β:Sort _} {γ:Sort _} {A0 A1 A2 A3:α->β->γ->Prop} {G:Prop} (h:∃x0 x1 x2,A0 x0 x1 x2/\A1 x0 x1 x2/\A2 x0 x1 x2/\A3 x0 x1 x2) (k:∀x0 x1 x2,A0 x0 x1 x2->A1 x0 x1 x2->A2 x0 x1 x2->A3 x0 x1 x2->G):G:=h.elim fun x h=>uR h (k x)
theorem Ty {α:Sort _} {β:Sort _} {γ:Sort _} {A0 A1 A2 A3 A4:α->β->γ->Prop} {G:Prop} (h:∃x0 x1 x2,A0 x0 x1 x2/\A1 x0 x1 x2/\A2 x0 x1 x2/\A3 x0 x1 x2/\A4 x0 x1 x2) (k:∀x0 x1 x2,A0 x0 x1 x2->A1 x0 x1 x2->A2 x0 x1 x2->A3 x0 x1 x2->A4 x0 x1 x2->G):G:=h.elim fun x h=>Sr h (k x)
theorem QN {α:Sort _} {β:Sort _} {γ:Sort _} {A0 A1 A2 A3 A4 A5:α->β->γ->Prop} {G:Prop} (h:∃x0 x1 x2,A0 x0 x1 x2/\A1 x0 x1 x2/\A2 x0 x1 x2/\A3 x0 x1 x2/\A4 x0 x1 x2/\A5 x0 x1 x2) (k:∀x0 x1 x2,A0 x0 x1 x2->A1 x0 x1 x2->A2 x0 x1 x2->A3 x0 x1 x2->A4 x0 x1 x2->A5 x0 x1 x2->G):G:=h.elim fun x h=>Pg h (k x)
theorem Pw {α:Sort _} {β:Sort _} {γ:Sort _} {A0 A1 A2 A3 A4 A5 A6:α->β->γ->Prop} {G:Prop} (h:∃x0 x1 x2,A0 x0 x1 x2/\A1 x0 x1 x2/\A2 x0 x1 x2/\A3 x0 x1 x2/\A4 x0 x1 x2/\A5 x0 x1 x2/\A6 x0 x1 x2) (k:∀x0 x1 x2,A0 x0 x1 x2->A1 x0 x1 x2->A2 x0 x1 x2->A3 x0 x1 x2->A4 x0 x1 x2->A5 x0 x1 x2->A6 x0 x1 x2->G):G:=h.elim fun x h=>Pj h (k x)
theorem Ph {α:Sort _} {β:Sort _} {γ:Sort _} {A0 A1 A2 A3 A4 A5 A6 A7 A8:α->β->γ->Prop} {G:Prop} (h:∃x0 x1 x2,A0 x0 x1 x2/\A1 x0 x1 x2/\A2 x0 x1 x2/\A3 x0 x1 x2/\A4 x0 x1 x2/\A5 x0 x1 x2/\A6 x0 x1 x2/\A7 x0 x1 x2/\A8 x0 x1 x2) (k:∀x0 x1 x2,A0 x0 x1 x2->A1 x0 x1 x2->A2 x0 x1 x2->A3 x0 x1 x2->A4 x0 x1 x2->A5 x0 x1 x2->A6 x0 x1 x2->A7 x0 x1 x2->A8 x0 x1 x2->G):G:=h.elim fun x h=>Pq h (k x)
theorem Q7 {α:Sort _} {β:Sort _} {γ:Sort _} {A0 A1 A2 A3 A4 A5 A6 A7 A8 A9:α->β->γ->Prop} {G:Prop} (h:∃x0 x1 x2,A0 x0 x1 x2/\A1 x0 x1 x2/\A2 x0 x1 x2/\A3 x0 x1 x2/\A4 x0 x1 x2/\A5 x0 x1 x2/\A6 x0 x1 x2/\A7 x0 x1 x2/\A8 x0 x1 x2/\A9 x0 x1 x2) (k:∀x0 x1 x2,A0 x0 x1 x2->A1 x0 x1 x2->A2 x0 x1 x2->A3 x0 x1 x2->A4 x0 x1 x2->A5 x0 x1 x2->A6 x0 x1 x2->A7 x0 x1 x2->A8 x0 x1 x2->A9 x0 x1 x2->G):G:=h.elim fun x h=>QH h (k x)
theorem Pv {α:Sort _} {β:Sort _} {γ:Sort _} {δ:Sort _} {A0:α->β->γ->δ->Prop} {G:Prop} (h:∃x0 x1 x2 x3,A0 x0 x1 x2 x3) (k:∀x0 x1 x2 x3,A0 x0 x1 x2 x3->G):G:=h.elim fun x h=>QK h (k x)
theorem Px {α:Sort _} {β:Sort _} {γ:Sort _} {δ:Sort _} {A0 A1 A2 A3:α->β->γ->δ->Prop} {G:Prop} (h:∃x0 x1 x2 x3,A0 x0 x1 x2 x3/\A1 x0 x1 x2 x3/\A2 x0 x1 x2 x3/\A3 x0 x1 x2 x3) (k:∀x0 x1 x2 x3,A0 x0 x1 x2 x3->A1 x0 x1 x2 x3->A2 x0 x1 x2 x3->A3 x0 x1 x2 x3->G):G:=h.elim fun x h=>X9 h (k x)
theorem R_ {α:Sort _} {β:Sort _} {γ:Sort _} {δ:Sort _} {A0 A1 A2 A3 A4:α->β->γ->δ->Prop} {G:Prop} (h:∃x0 x1 x2 x3,A0 x0 x1 x2 x3/\A1 x0 x1 x2 x3/\A2 x0 x1 x2 x3/\A3 x0 x1 x2 x3/\A4 x0 x1 x2 x3) (k:∀x0 x1 x2 x3,A0 x0 x1 x2 x3->A1 x0 x1 x2 x3->A2 x0 x1 x2 x3->A3 x0 x1 x2 x3->A4 x0 x1 x2 x3->G):G:=h.elim fun x h=>Ty h (k x)
theorem Pm {α:Sort _} {β:Sort _} {γ:Sort _} {δ:Sort _} {A0 A1 A2 A3 A4 A5 A6:α->β->γ->δ->Prop} {G:Prop} (h:∃x0 x1 x2 x3,A0 x0 x1 x2 x3/\A1 x0 x1 x2 x3/\A2 x0 x1 x2 x3/\A3 x0 x1 x2 x3/\A4 x0 x1 x2 x3/\A5 x0 x1 x2 x3/\A6 x0 x1 x2 x3) (k:∀x0 x1 x2 x3,A0 x0 x1 x2 x3->A1 x0 x1 x2 x3->A2 x0 x1 x2 x3->A3 x0 x1 x2 x3->A4 x0 x1 x2 x3->A5 x0 x1 x2 x3->A6 x0 x1 x2 x3->G):G:=h.elim fun x h=>Pw h (k x)
theorem P3 {α:Sort _} {β:Sort _} {γ:Sort _} {δ:Sort _} {A0 A1 A2 A3 A4 A5 A6 A7 A8:α->β->γ->δ->Prop} {G:Prop} (h:∃x0 x1 x2 x3,A0 x0 x1 x2 x3/\A1 x0 x1 x2 x3/\A2 x0 x1 x2 x3/\A3 x0 x1 x2 x3/\A4 x0 x1 x2 x3/\A5 x0 x1 x2 x3/\A6 x0 x1 x2 x3/\A7 x0 x1 x2 x3/\A8 x0 x1 x2 x3) (k:∀x0 x1 x2 x3,A0 x0 x1 x2 x3->A1 x0 x1 x2 x3->A2 x0 x1 x2 x3->A3 x0 x1 x2 x3->A4 x0 x1 x2 x3->A5 x0 x1 x2 x3->A6 x0 x1 x2 x3->A7 x0 x1 x2 x3->A8 x0 x1 x2 x3->G):G:=h.elim fun x h=>Ph h (k x)
theorem QW {α:Sort _} {β:Sort _} {γ:Sort _} {δ:Sort _} {ε:Sort _} {A0:α->β->γ->δ->ε->Prop} {G:Prop} (h:∃x0 x1 x2 x3 x4,A0 x0 x1 x2 x3 x4) (k:∀x0 x1 x2 x3 x4,A0 x0 x1 x2 x3 x4->G):G:=h.elim fun x h=>Pv h (k x)
theorem Pz {α:Sort _} {β:Sort _} {γ:Sort _} {δ:Sort _} {ε:Sort _} {A0 A1 A2 A3:α->β->γ->δ->ε->Prop} {G:Prop} (h:∃x0 x1 x2 x3 x4,A0 x0 x1 x2 x3 x4/\A1 x0 x1 x2 x3 x4/\A2 x0 x1 x2 x3 x4/\A3 x0 x1 x2 x3 x4) (k:∀x0 x1 x2 x3 x4,A0 x0 x1 x2 x3 x4->A1 x0 x1 x2 x3 x4->A2 x0 x1 x2 x3 x4->A3 x0 x1 x2 x3 x4->G):G:=h.elim fun x h=>Px h (k x)
theorem P6 {α:Sort _} {β:Sort _} {γ:Sort _} {δ:Sort _} {ε:Sort _} {A0 A1 A2 A3 A4:α->β->γ->δ->ε->Prop} {G:Prop} (h:∃x0 x1 x2 x3 x4,A0 x0 x1 x2 x3 x4/\A1 x0 x1 x2 x3 x4/\A2 x0 x1 x2 x3 x4/\A3 x0 x1 x2 x3 x4/\A4 x0 x1 x2 x3 x4) (k:∀x0 x1 x2 x3 x4,A0 x0 x1 x2 x3 x4->A1 x0 x1 x2 x3 x4->A2 x0 x1 x2 x3 x4->A3 x0 x1 x2 x3 x4->A4 x0 x1 x2 x3 x4->G):G:=h.elim fun x h=>R_ h (k x)
theorem Pf {α:Sort _} {β:Sort _} {γ:Sort _} {δ:Sort _} {ε:Sort _} {ζ:Sort _} {A0:α->β->γ->δ->ε->ζ->Prop} {G:Prop} (h:∃x0 x1 x2 x3 x4 x5,A0 x0 x1 x2 x3 x4 x5) (k:∀x0 x1 x2 x3 x4 x5,A0 x0 x1 x2 x3 x4 x5->G):G:=h.elim fun x h=>QW h (k x)
theorem QP {α:Sort _} {β:Sort _} {γ:Sort _} {δ:Sort _} {ε:Sort _} {ζ:Sort _} {A0 A1 A2 A3:α->β->γ->δ->ε->ζ->Prop} {G:Prop} (h:∃x0 x1 x2 x3 x4 x5,A0 x0 x1 x2 x3 x4 x5/\A1 x0 x1 x2 x3 x4 x5/\A2 x0 x1 x2 x3 x4 x5/\A3 x0 x1 x2 x3 x4 x5) (k:∀x0 x1 x2 x3 x4 x5,A0 x0 x1 x2 x3 x4 x5->A1 x0 x1 x2 x3 x4 x5->A2 x0 x1 x2 x3 x4 x5->A3 x0 x1 x2 x3 x4 x5->G):G:=h.elim fun x h=>Pz h (k x)
theorem RP {α:Sort _} {β:Sort _} {γ:Sort _} {δ:Sort _} {ε:Sort _} {ζ:Sort _} {A0 A1 A2 A3 A4:α->β->γ->δ->ε->ζ->Prop} {G:Prop} (h:∃x0 x1 x2 x3 x4 x5,A0 x0 x1 x2 x3 x4 x5/\A1 x0 x1 x2 x3 x4 x5/\A2 x0 x1 x2 x3 x4 x5/\A3 x0 x1 x2 x3 x4 x5/\A4 x0 x1 x2 x3 x4 x5) (k:∀x0 x1 x2 x3 x4 x5,A0 x0 x1 x2 x3 x4 x5->A1 x0 x1 x2 x3 x4 x5->A2 x0 x1 x2 x3 x4 x5->A3 x0 x1 x2 x3 x4 x5->A4 x0 x1 x2 x3 x4 x5->G):G:=h.elim fun x h=>P6 h (k x)
theorem VW {α:Sort _} {β:Sort _} {γ:Sort _} {δ:Sort _} {ε:Sort _} {ζ:Sort _} {η:Sort _} {A0:α->β->γ->δ->ε->ζ->η->Prop} {G:Prop} (h:∃x0 x1 x2 x3 x4 x5 x6,A0 x0 x1 x2 x3 x4 x5 x6) (k:∀x0 x1 x2 x3 x4 x5 x6,A0 x0 x1 x2 x3 x4 x5 x6->G):G:=h.elim fun x h=>Pf h (k x)
theorem d3_ {A0 A1 A2:Prop} (h0:A0) (h1:A1) (h2:A2):A0/\A1/\A2:=⟨h0,h1,h2⟩
theorem d4_ {A0 A1 A2 A3:Prop} (h0:A0) (h1:A1) (h2:A2) (h3:A3):A0/\A1/\A2/\A3:=⟨h0,d3_ h1 h2 h3⟩
theorem d5_ {A0 A1 A2 A3 A4:Prop} (h0:A0) (h1:A1) (h2:A2) (h3:A3) (h4:A4):A0/\A1/\A2/\A3/\A4:=⟨h0,d4_ h1 h2 h3 h4⟩
theorem zw {α:Sort _} {A0 A1:α->Prop} (x0:α) (h0:A0 x0) (h1:A1 x0):∃x0,A0 x0/\A1 x0:=⟨x0,h0,h1⟩
theorem uG {α:Sort _} {A0 A1 A2:α->Prop} (x0:α) (h0:A0 x0) (h1:A1 x0) (h2:A2 x0):∃x0,A0 x0/\A1 x0/\A2 x0:=⟨x0,h0,h1,h2⟩
theorem X0 {α:Sort _} {β:Sort _} {A0:α->β->Prop} (x0:α) (x1:β) (h0:A0 x0 x1):∃x0 x1,A0 x0 x1:=⟨x0,x1,h0⟩
theorem wm {α:Sort _} {β:Sort _} {A0 A1:α->β->Prop} (x0:α) (x1:β) (h0:A0 x0 x1) (h1:A1 x0 x1):∃x0 x1,A0 x0 x1/\A1 x0 x1:=⟨x0,x1,h0,h1⟩
theorem zV {α:Sort _} {β:Sort _} {A0 A1 A2:α->β->Prop} (x0:α) (x1:β) (h0:A0 x0 x1) (h1:A1 x0 x1) (h2:A2 x0 x1):∃x0 x1,A0 x0 x1/\A1 x0 x1/\A2 x0 x1:=⟨x0,x1,h0,h1,h2⟩
theorem Wh {α:Sort _} {β:Sort _} {A0 A1 A2 A3:α->β->Prop} (x0:α) (x1:β) (h0:A0 x0 x1) (h1:A1 x0 x1) (h2:A2 x0 x1) (h3:A3 x0 x1):∃x0 x1,A0 x0 x1/\A1 x0 x1/\A2 x0 x1/\A3 x0 x1:=⟨x0,x1,h0,h1,h2,h3⟩
theorem Pl {α:Sort _} {β:Sort _} {A0 A1 A2 A3 A4:α->β->Prop} (x0:α) (x1:β) (h0:A0 x0 x1) (h1:A1 x0 x1) (h2:A2 x0 x1) (h3:A3 x0 x1) (h4:A4 x0 x1):∃x0 x1,A0 x0 x1/\A1 x0 x1/\A2 x0 x1/\A3 x0 x1/\A4 x0 x1:=⟨x0,x1,h0,h1,h2,h3,h4⟩
theorem Pt {α:Sort _} {β:Sort _} {A0 A1 A2 A3 A4 A5:α->β->Prop} (x0:α) (x1:β) (h0:A0 x0 x1) (h1:A1 x0 x1) (h2:A2 x0 x1) (h3:A3 x0 x1) (h4:A4 x0 x1) (h5:A5 x0 x1):∃x0 x1,A0 x0 x1/\A1 x0 x1/\A2 x0 x1/\A3 x0 x1/\A4 x0 x1/\A5 x0 x1:=⟨x0,x1,h0,h1,h2,h3,h4,h5⟩
theorem Pk {α:Sort _} {β:Sort _} {γ:Sort _} {A0:α->β->γ->Prop} (x0:α) (x1:β) (x2:γ) (h0:A0 x0 x1 x2):∃x0 x1 x2,A0 x0 x1 x2:=⟨x0,x1,x2,h0⟩
theorem Qw {α:Sort _} {β:Sort _} {γ:Sort _} {A0 A1:α->β->γ->Prop} (x0:α) (x1:β) (x2:γ) (h0:A0 x0 x1 x2) (h1:A1 x0 x1 x2):∃x0 x1 x2,A0 x0 x1 x2/\A1 x0 x1 x2:=⟨x0,x1,x2,h0,h1⟩
theorem Qb {α:Sort _} {β:Sort _} {γ:Sort _} {A0 A1 A2:α->β->γ->Prop} (x0:α) (x1:β) (x2:γ) (h0:A0 x0 x1 x2) (h1:A1 x0 x1 x2) (h2:A2 x0 x1 x2):∃x0 x1 x2,A0 x0 x1 x2/\A1 x0 x1 x2/\A2 x0 x1 x2:=⟨x0,x1,x2,h0,h1,h2⟩
theorem yD {α:Sort _} {β:Sort _} {γ:Sort _} {A0 A1 A2 A3:α->β->γ->Prop} (x0:α) (x1:β) (x2:γ) (h0:A0 x0 x1 x2) (h1:A1 x0 x1 x2) (h2:A2 x0 x1 x2) (h3:A3 x0 x1 x2):∃x0 x1 x2,A0 x0 x1 x2/\A1 x0 x1 x2/\A2 x0 x1 x2/\A3 x0 x1 x2:=⟨x0,x1,x2,h0,h1,h2,h3⟩
theorem Pn {α:Sort _} {β:Sort _} {γ:Sort _} {A0 A1 A2 A3 A4:α->β->γ->Prop} (x0:α) (x1:β) (x2:γ) (h0:A0 x0 x1 x2) (h1:A1 x0 x1 x2) (h2:A2 x0 x1 x2) (h3:A3 x0 x1 x2) (h4:A4 x0 x1 x2):∃x0 x1 x2,A0 x0 x1 x2/\A1 x0 x1 x2/\A2 x0 x1 x2/\A3 x0 x1 x2/\A4 x0 x1 x2:=⟨x0,x1,x2,h0,h1,h2,h3,h4⟩
theorem R4 {α:Sort _} {β:Sort _} {γ:Sort _} {A0 A1 A2 A3 A4 A5 A6 A7 A8 A9:α->β->γ->Prop} (x0:α) (x1:β) (x2:γ) (h0:A0 x0 x1 x2) (h1:A1 x0 x1 x2) (h2:A2 x0 x1 x2) (h3:A3 x0 x1 x2) (h4:A4 x0 x1 x2) (h5:A5 x0 x1 x2) (h6:A6 x0 x1 x2) (h7:A7 x0 x1 x2) (h8:A8 x0 x1 x2) (h9:A9 x0 x1 x2):∃x0 x1 x2,A0 x0 x1 x2/\A1 x0 x1 x2/\A2 x0 x1 x2/\A3 x0 x1 x2/\A4 x0 x1 x2/\A5 x0 x1 x2/\A6 x0 x1 x2/\A7 x0 x1 x2/\A8 x0 x1 x2/\A9 x0 x1 x2:=⟨x0,x1,x2,h0,h1,h2,h3,h4,h5,h6,h7,h8,h9⟩
theorem P5 {α:Sort _} {β:Sort _} {γ:Sort _} {δ:Sort _} {A0 A1:α->β->γ->δ->Prop} (x0:α) (x1:β) (x2:γ) (x3:δ) (h0:A0 x0 x1 x2 x3) (h1:A1 x0 x1 x2 x3):∃x0 x1 x2 x3,A0 x0 x1 x2 x3/\A1 x0 x1 x2 x3:=⟨x0,x1,x2,x3,h0,h1⟩
theorem QU {α:Sort _} {β:Sort _} {γ:Sort _} {δ:Sort _} {A0 A1 A2 A3:α->β->γ->δ->Prop} (x0:α) (x1:β) (x2:γ) (x3:δ) (h0:A0 x0 x1 x2 x3) (h1:A1 x0 x1 x2 x3) (h2:A2 x0 x1 x2 x3) (h3:A3 x0 x1 x2 x3):∃x0 x1 x2 x3,A0 x0 x1 x2 x3/\A1 x0 x1 x2 x3/\A2 x0 x1 x2 x3/\A3 x0 x1 x2 x3:=⟨x0,x1,x2,x3,h0,h1,h2,h3⟩
theorem Uz {α:Sort _} {β:Sort _} {γ:Sort _} {δ:Sort _} {A0 A1 A2 A3 A4:α->β->γ->δ->Prop} (x0:α) (x1:β) (x2:γ) (x3:δ) (h0:A0 x0 x1 x2 x3) (h1:A1 x0 x1 x2 x3) (h2:A2 x0 x1 x2 x3) (h3:A3 x0 x1 x2 x3) (h4:A4 x0 x1 x2 x3):∃x0 x1 x2 x3,A0 x0 x1 x2 x3/\A1 x0 x1 x2 x3/\A2 x0 x1 x2 x3/\A3 x0 x1 x2 x3/\A4 x0 x1 x2 x3:=⟨x0,x1,x2,x3,h0,h1,h2,h3,h4⟩
theorem Pe {α:Sort _} {β:Sort _} {γ:Sort _} {δ:Sort _} {A0 A1 A2 A3 A4 A5 A6 A7 A8:α->β->γ->δ->Prop} (x0:α) (x1:β) (x2:γ) (x3:δ) (h0:A0 x0 x1 x2 x3) (h1:A1 x0 x1 x2 x3) (h2:A2 x0 x1 x2 x3) (h3:A3 x0 x1 x2 x3) (h4:A4 x0 x1 x2 x3) (h5:A5 x0 x1 x2 x3) (h6:A6 x0 x1 x2 x3) (h7:A7 x0 x1 x2 x3) (h8:A8 x0 x1 x2 x3):∃x0 x1 x2 x3,A0 x0 x1 x2 x3/\A1 x0 x1 x2 x3/\A2 x0 x1 x2 x3/\A3 x0 x1 x2 x3/\A4 x0 x1 x2 x3/\A5 x0 x1 x2 x3/\A6 x0 x1 x2 x3/\A7 x0 x1 x2 x3/\A8 x0 x1 x2 x3:=⟨x0,x1,x2,x3,h0,h1,h2,h3,h4,h5,h6,h7,h8⟩
theorem Q_ {α:Sort _} {β:Sort _} {γ:Sort _} {δ:Sort _} {ε:Sort _} {A0 A1 A2 A3:α->β->γ->δ->ε->Prop} (x0:α) (x1:β) (x2:γ) (x3:δ) (x4:ε) (h0:A0 x0 x1 x2 x3 x4) (h1:A1 x0 x1 x2 x3 x4) (h2:A2 x0 x1 x2 x3 x4) (h3:A3 x0 x1 x2 x3 x4):∃x0 x1 x2 x3 x4,A0 x0 x1 x2 x3 x4/\A1 x0 x1 x2 x3 x4/\A2 x0 x1 x2 x3 x4/\A3 x0 x1 x2 x3 x4:=⟨x0,x1,x2,x3,x4,h0,h1,h2,h3⟩
theorem QX {α:Sort _} {β:Sort _} {γ:Sort _} {δ:Sort _} {ε:Sort _} {A0 A1 A2 A3 A4 A5:α->β->γ->δ->ε->Prop} (x0:α) (x1:β) (x2:γ) (x3:δ) (x4:ε) (h0:A0 x0 x1 x2 x3 x4) (h1:A1 x0 x1 x2 x3 x4) (h2:A2 x0 x1 x2 x3 x4) (h3:A3 x0 x1 x2 x3 x4) (h4:A4 x0 x1 x2 x3 x4) (h5:A5 x0 x1 x2 x3 x4):∃x0 x1 x2 x3 x4,A0 x0 x1 x2 x3 x4/\A1 x0 x1 x2 x3 x4/\A2 x0 x1 x2 x3 x4/\A3 x0 x1 x2 x3 x4/\A4 x0 x1 x2 x3 x4/\A5 x0 x1 x2 x3 x4:=⟨x0,x1,x2,x3,x4,h0,h1,h2,h3,h4,h5⟩
theorem Qm {α:Sort _} {β:Sort _} {γ:Sort _} {δ:Sort _} {ε:Sort _} {ζ:Sort _} {A0 A1 A2 A3:α->β->γ->δ->ε->ζ->Prop} (x0:α) (x1:β) (x2:γ) (x3:δ) (x4:ε) (x5:ζ) (h0:A0 x0 x1 x2 x3 x4 x5) (h1:A1 x0 x1 x2 x3 x4 x5) (h2:A2 x0 x1 x2 x3 x4 x5) (h3:A3 x0 x1 x2 x3 x4 x5):∃x0 x1 x2 x3 x4 x5,A0 x0 x1 x2 x3 x4 x5/\A1 x0 x1 x2 x3 x4 x5/\A2 x0 x1 x2 x3 x4 x5/\A3 x0 x1 x2 x3 x4 x5:=⟨x0,x1,x2,x3,x4,x5,h0,h1,h2,h3⟩
theorem QJ {α:Sort _} {β:Sort _} {γ:Sort _} {δ:Sort _} {ε:Sort _} {ζ:Sort _} {A0 A1 A2 A3 A4:α->β->γ->δ->ε->ζ->Prop} (x0:α) (x1:β) (x2:γ) (x3:δ) (x4:ε) (x5:ζ) (h0:A0 x0 x1 x2 x3 x4 x5) (h1:A1 x0 x1 x2 x3 x4 x5) (h2:A2 x0 x1 x2 x3 x4 x5) (h3:A3 x0 x1 x2 x3 x4 x5) (h4:A4 x0 x1 x2 x3 x4 x5):∃x0 x1 x2 x3 x4 x5,A0 x0 x1 x2 x3 x4 x5/\A1 x0 x1 x2 x3 x4 x5/\A2 x0 x1 x2 x3 x4 x5/\A3 x0 x1 x2 x3 x4 x5/\A4 x0 x1 x2 x3 x4 x5:=⟨x0,x1,x2,x3,x4,x5,h0,h1,h2,h3,h4⟩
theorem zO {α0:Sort _} {β:Type _} {f:α0->β} {v:β} (h:∃x0,v=f x0) {P:β->Prop} (k:∀x0,P (f x0)):P v:=h.elim fun x0 h=>Eq.mpr (congrArg P h) (k x0 )
theorem jB {α0:Sort _} {β:Type _} {f:α0->β} {A0:α0->Prop} {v:β} (h:∃x0,v=f x0/\A0 x0) {P:β->Prop} (k:∀x0,A0 x0->P (f x0)):P v:=h.elim fun x0 h=>Eq.mpr (congrArg P h.1) (k x0 h.2)
theorem RY {α0 α1:Sort _} {β:Type _} {f:α0->α1->β} {v:β} (h:∃x0 x1,v=f x0 x1) {P:β->Prop} (k:∀x0 x1,P (f x0 x1)):P v:=h.elim fun x0 h=>h.elim fun x1 h=>Eq.mpr (congrArg P h) (k x0 x1 )
theorem ZJ {α0 α1:Sort _} {β:Type _} {f:α0->α1->β} {A0:α0->α1->Prop} {v:β} (h:∃x0 x1,v=f x0 x1/\A0 x0 x1) {P:β->Prop} (k:∀x0 x1,A0 x0 x1->P (f x0 x1)):P v:=h.elim fun x0 h=>h.elim fun x1 h=>Eq.mpr (congrArg P h.1) (k x0 x1 h.2)
theorem uL {α0 α1:Sort _} {β:Type _} {f:α0->α1->β} {A0 A1:α0->α1->Prop} {v:β} (h:∃x0 x1,v=f x0 x1/\A0 x0 x1/\A1 x0 x1) {P:β->Prop} (k:∀x0 x1,A0 x0 x1->A1 x0 x1->P (f x0 x1)):P v:=h.elim fun x0 h=>h.elim fun x1 h=>Eq.mpr (congrArg P h.1) (k x0 x1 h.2.1 h.2.2)
theorem Pc {α0 α1:Sort _} {β:Type _} {f:α0->α1->β} {A0 A1 A2 A3:α0->α1->Prop} {v:β} (h:∃x0 x1,v=f x0 x1/\A0 x0 x1/\A1 x0 x1/\A2 x0 x1/\A3 x0 x1) {P:β->Prop} (k:∀x0 x1,A0 x0 x1->A1 x0 x1->A2 x0 x1->A3 x0 x1->P (f x0 x1)):P v:=h.elim fun x0 h=>h.elim fun x1 h=>Eq.mpr (congrArg P h.1) (k x0 x1 h.2.1 h.2.2.1 h.2.2.2.1 h.2.2.2.2)
noncomputable def Um (ok:Thread->Bool) (st:SharedT->Thread->Option (SharedT×Thread)):Nat->SharedT->Thread->Option SharedT
 | 0,_,_=>none
 | n+1,s,t=>match through t with
  | true=>some s
  | false=>match ok t with
   | false=>none
   | true=>match st s t with
    | some (s',t')=>Um ok st n s' t'
    | none=>none
theorem RS (ok:Thread->Bool) (st:SharedT->Thread->Option (SharedT×Thread)) (n:Nat) (s:SharedT) (t:Thread):Um ok st (n+1) s t=match through t with
  | true=>some s
  | false=>match ok t with
   | false=>none
   | true=>match st s t with
    | some (s',t')=>Um ok st n s' t'
    | none=>none:=rfl
theorem U3 {tb:String->Option Builtin} {p:Program} {w:World} {n0:Nat} {ann:Option Value} {n:Nat} {s s':SharedT} {t:Thread} (h:Um (stepOk n0 ann) (stepT (denote tb) p w) n s t=some s'):topRun tb p w n0 ann n s.abs t=some s'.abs:=by
 induction n generalizing s t with
 | zero=>cases h
 | succ n ih =>
  rw[RS]at h;unfold topRun
  cases ht:through t with
  | true=>rw[ht]at h;cases h;rfl
  | false =>
   rw[ht]at h
   cases hk:stepOk n0 ann t with
   | false=>rw[hk]at h;cases h
   | true =>
    rw[hk]at h
    cases hs:stepT (denote tb) p w s t with
    | none=>rw[hs]at h;cases h
    | some r=>rw[hs]at h;dsimp only;rw[stepT_spec hs];exact ih h
noncomputable def bt (l:List Obj):BT:=(l.foldl (fun (x:BT×Nat) o=>(x.1.ins x.2 o,x.2+1)) (.nil,0)).1
theorem Ri {p q:Program} {loose:List Str} {Xt:Shared->Bool} {α:Type} {Yf:Shared->α} {Ya:World->α} {N:Nat} {g0:Bool} {H₀:Params->Heap} {T₀:Params->BT} {n:Nat} {life:Params->Life} {gs₀:Array GenState} {d₀:PySem.Drawn} {k₀:Nat} {ann:Option Value}
  (open_:∀w:World,(fencedOpening treeTable p w N).map (fun s=>(s.heap,s.gens,s.drawn,s.toks))=some (H₀ w.params,gs₀,d₀,k₀))
  (tree:∀P,absHeap (T₀ P) n (life P)=H₀ P)
  (size:∀w:World,((H₀ w.params).isNs mainGlobals&&gs₀.size==0,(H₀ w.params).objs.size,(H₀ w.params).nsMap mainGlobals "__annotations__")=(true,n,ann))
  (all:∀(w:World) (os:OsState),(Um (stepOk n ann) (stepT (denote treeTable) p w) N ⟨T₀ w.params,n,life w.params,gs₀,d₀,k₀,os⟩ (topStub p)).map (fun s=>((staticsOk (importedModules p.main.body) (H₀ w.params) s.abs.heap&&namesBound p s.abs.heap&&gensDone s.abs&&laidKept (H₀ w.params) s.abs.heap),
    openSeen q loose (importedModules p.main.body) Xt g0 s.abs,Yf s.abs))=some (true,openGood q loose,Ya w)):LeftO p q loose Xt Yf Ya N g0:=fun w=>by
 obtain⟨⟨h,gs,d,k,os⟩,e,e'⟩:=Option.map_eq_some_iff.mp (open_ w)
 obtain⟨rfl,rfl,rfl,rfl⟩:h=H₀ w.params/\gs=gs₀/\d=d₀/\k=k₀:=by simpa using e'
 obtain⟨z1,z2,z3⟩:_/\_/\_:=by simpa only[Prod.mk.injEq]using size w
 obtain⟨s,r,l⟩:=Option.map_eq_some_iff.mp (all w os)
 obtain⟨l1,l2,l3⟩:_/\_/\_:=by simpa only[Prod.mk.injEq]using l
 have r:=U3 r
 have ts:(⟨T₀ w.params,n,life w.params,gs,d,k,os⟩:SharedT).abs=⟨H₀ w.params,gs,d,k,os⟩:=by
  show (⟨absHeap (T₀ w.params) n (life w.params),gs,d,k,os⟩:Shared)=_;rw[tree]
 rw[ts]at r
 have t:topFrom treeTable p w N ⟨H₀ w.params,gs,d,k,os⟩=some s.abs:=by
  unfold topFrom;dsimp only;rw[z1,z2,z3,r];show (match staticsOk (importedModules p.main.body) (H₀ w.params) s.abs.heap&&namesBound p s.abs.heap&&gensDone s.abs&&laidKept (H₀ w.params) s.abs.heap with | true=>_ | false=>_)=_;rw[l1]
 unfold openEnds;rw[e];show (topFrom treeTable p w N _).map _=_;rw[t];exact congrArg some (Prod.ext l2 l3)
noncomputable def VC (i:Nat):Option (List Stmt×Scope):=match PySem.Challenge.pw_og0259_01.main.body[i]? with
 | some (.FunctionDef _ _ body _ _ _ sc _ _ _)=>some (body,sc)
 | _=>none
noncomputable def xq (i:Nat):List Stmt:=((VC i).map (fun x=>x.1)).getD []
noncomputable def zT (i:Nat):Scope:=((VC i).map (fun x=>x.2)).getD { kind:=.function,names:=[],isGenerator:=false,isCoroutine:=false,more:=[] }
noncomputable def y9 (i:Nat):Str:=match (xq 17)[i]? with
 | some (.Assign _ (.Constant (.str s) _ _) _)=>s
 | some (.Assign _ (.BinOp _ _ (.Constant (.str s) _ _) _) _)=>s
 | _=>Str.ofString ""
noncomputable def pw:Program:=PySem.Challenge.pw_og0259_01
noncomputable def Q6:List Nat:=(List.range 53).filter fun i=>i != 2&&i != 14&&i != 40
noncomputable def pq:Program:=view pw Q6
noncomputable def uQ:List Str:=["TermError","INFO_MOST","Info","_law_signs"]
noncomputable def lvL:List (Str×WData):=[("INFO_MOST",.int 2147483647)]
section
open PySem.W.Fast
noncomputable abbrev wb:List Stmt:=(tw2368527892694137696 PySem.Challenge.rw_og0259_01).prog.main.body
theorem wr {l:Look} (n:Nat) {b:List Stmt} (h:tw8326940854005059898 l (b.take n)=true) (h':tw8326940854005059898 l (b.drop n)=true):tw8326940854005059898 l b=true:=by
 rw[<-te8326940854005059898]at *
 induction n generalizing b with
 | zero=>exact h'
 | succ n ih =>
  cases b with
  | nil=>rfl
  | cons s r =>
   have h:(noRoadLS l s&&noRoadLSs l (r.take n))=true:=h;have e:=Bool.and_eq_true_iff.mp h;show (noRoadLS l s&&noRoadLSs l r)=true;exact look_both e.1 (ih e.2 h')
theorem wq {f:Option (List Str)} {a:Bool} {b:List Str} {n:List Stmt} (ha:a=false) (hb:b=[]) (h:tw8326940854005059898 { strict:=false,foot:=f } n=true):tw8326940854005059898 { strict:=a,foot:=f,bare:=b } n=true:=by rw[ha,hb];exact h
noncomputable def wT (x:Str):List Stmt:=[.FunctionDef "known_names" ⟨[],[],none,[],[],none,[]⟩ ((xq 17).set 3 (.Assign [.Name "strings" ⟨61,4,61,11⟩] (.Constant (.str x) 0 ⟨61,14,61,628⟩) ⟨61,4,61,628⟩)) [] none [] (zT 17) none "known_names" ⟨57,0,62,76⟩]
noncomputable abbrev wl:Look:={ strict:=false,foot:=none }
theorem wu (x:Str) (h:Look.word wl.inDef x=true) (b:roadStr x=false):tw8326940854005059898 wl (wT x)=true:=by
 rw[(by kernel_rfl:tw8326940854005059898 wl (wT x)=(tw15029574424589162856 wl.inDef x&&true&&true&&true&&true&&true)),<-te15029574424589162856]
 delta Look.str
 rw[h,b]
 cases underscores x<;>rfl
theorem wv (x:Str) (h:(x.cps.toList.any (fun c=>c==123||c==125)||(x.cps.toList.any (· == 46)&&!x.cps.toList.any (· <= 32)))=false):roadStr x=false:=by
 rw[Array.any_toList,Array.any_toList,Array.any_toList]at h;exact h
theorem ww:tw8326940854005059898 wl ((wb.drop 17).take 1)=true:=by
 rw[(by kernel_rfl:(wb.drop 17).take 1=wT (y9 3))];exact wu _ (by rw[te12870025360856166794];kernel_rfl) (wv _ (by kernel_rfl))
set_option maxHeartbeats 8000000 in
theorem ws:OpenLaw.wellSaid PySem.Challenge.rw_og0259_01=true:=by
 rw[te9446332074065402090]
 delta tw9446332074065402090 tw17960256430627541270 tw2436336058641802641 tw12908688711261696721
 repeat' (with_reducible refine look_both ?_ ?_)
 all_goals first
  | ((with_reducible refine wq ?_ ?_ (wr 17 ?_ (wr 1 ww ?_)));all_goals as_aux_lemma=>kernel_rfl)
  | (as_aux_lemma=>kernel_rfl)
noncomputable def rG (w:World) (os:OsState):Option SharedT:=Um (tw6613529449190102663 11 (some (.ref 6))) (tw10156331382660048174 (tw11892475500146522536 tw14364793385576792824) pw w) 4180 ⟨bt (boot_heap w.params).objs.toList,11,(boot_heap w.params).life,#[],boot_drawn,boot_toks,os⟩ (topStub pw)
noncomputable def sG (s:SharedT):=tw4187177175401517315 pq uQ (tw5923862056798008813 pw.main.body) (fun s=>xlAt pq lvL s&&recOk [] s) true s.abs
theorem rA (w:World) (os:OsState):(rG w os).map (fun s=>staticsOk (importedModules pw.main.body) (boot_heap w.params) s.abs.heap&&namesBound pw s.abs.heap&&gensDone s.abs&&laidKept (boot_heap w.params) s.abs.heap)=some true:=by kernel_rfl
theorem rB (w:World) (os:OsState):(rG w os).map (fun s=>((sG s).1,(sG s).2.1,(sG s).2.2.1,(sG s).2.2.2.1))=some (expectedOf pq,bltViewBooted,true,true):=by kernel_rfl
set_option maxHeartbeats 8000000 in
theorem S9 {α:Type} {Yf:Shared->α} {Ya:World->α}
  (b:∀(w:World) (os:OsState),(rG w os).map (fun s=>((sG s).2.2.2.2,Yf s.abs))=some ((pinGoodD (drecsOf pq),plainGoodE pq (looseW pq uQ),plainGoodD pq uQ,wideGood pq,clsGoodW pq uQ),Ya w)):LeftO pw pq uQ (fun s=>xlAt pq lvL s&&recOk [] s) Yf Ya 4180 true :=
 Ri (H₀:=boot_heap) (T₀:=fun P=>bt (boot_heap P).objs.toList) (n:=11) (life:=fun P=>(boot_heap P).life) (gs₀:=#[]) (d₀:=boot_drawn) (k₀:=boot_toks) (ann:=some (.ref 6))
  (boot_open rfl rfl fun s=>rfl) (fun P=>by kernel_rfl) (fun w=>by kernel_rfl) (fun w os=>by
   have h:(rG w os).map (fun s=>(staticsOk (importedModules pw.main.body) (boot_heap w.params) s.abs.heap&&namesBound pw s.abs.heap&&gensDone s.abs&&laidKept (boot_heap w.params) s.abs.heap,sG s,Yf s.abs))=some (true,openGood pq uQ,Ya w):=by
    have a:=rA w os;have c:=rB w os
    replace b:=b w os
    generalize rG w os=o at *
    cases o with
    | none=>cases a
    | some s =>
     simp only[Option.map_some,Option.some.injEq,Prod.mk.injEq]at a b c ⊢;exact⟨a,Prod.ext c.1 (Prod.ext c.2.1 (Prod.ext c.2.2.1 (Prod.ext c.2.2.2 b.1))),b.2⟩
   delta rG sG at h
   rw[<-te6613529449190102663,<-te10156331382660048174,<-te11892475500146522536,<-te14364793385576792824,<-te4187177175401517315,<-te5923862056798008813]at h
   exact h)
end
theorem QR:(defOf pq (Str.ofString "law")).isSome=true:=by kernel_rfl
noncomputable def QS:DefRec×List (Str×Expr):=(defOf pq (Str.ofString "law")).get QR
theorem oh (H:Hook) (left:LeftO pw pq uQ (fun s=>xlAt pq lvL s&&recOk [] s) H.obs H.val 4180 true) (hw:PySem.Challenge.rw_og0259_01.row.toRowW.promised)
  (hc:WalkO pq uQ (XL pq lvL) H.says PySem.Challenge.rw_og0259_01.row.toRowW QS.1 QS.2 fun f vs=>PySem.call f vs):PySem.Challenge.rw_og0259_01.row.Holds :=
 holds_open left H.of H.keeps (fun s e=>xl_of s (Bool.and_eq_true_iff.mp e).1) XL.keeps (by kernel_rfl) (by kernel_rfl) (by kernel_rfl) (fun s e=>recFacts_of (Bool.and_eq_true_iff.mp e).2) (by rfl) (row_said ws) (by decide +kernel) ⟨rfl,rfl,rfl,rfl,rfl,by decide +kernel⟩ hw hc
local macro_rules
 | `(tactic| o_law)=>`(tactic| refine holds_law ws fun _=>?_)
local macro_rules
 | `(tactic| o_head $H)=>`(tactic| apply oh $H (S9 fun w os=>by kernel_rfl))
set_option maxHeartbeats 8000000 in
open_top hd for PySem.Challenge.rw_og0259_01
inductive AV where
 | none | bool (b:Bool) | int (i:Int) | str (s:List Nat) | bytes (b:List UInt8)
 | tup (l:List AV) | info (l:List AV) | clist (l:List AV) | ref (n:Nat)
 deriving Inhabited
inductive AO where
 | list (xs:List AV)
 | dictB (ep:Nat) (kvs:List (List UInt8×AV))
 | dictS (ep:Nat) (kvs:List (List Nat×AV))
 | dictI (ep:Nat) (kvs:List (Int×AV))
 deriving Inhabited
noncomputable abbrev St:=List AO
noncomputable def mkS (s:List Nat):Str:=⟨s.toArray⟩
theorem V5 {a b:List Nat} (h:mkS a=mkS b):a=b:=by
 injection h with h;simpa using h
set_option genInjectivity false in
structure Base where
 prog:Program
 w:World
 K:Frag
 H₀:Heap
 os₀:OsState
 cInfo:Addr
 cBad:Addr
noncomputable def zI:List Str:=["names","booleans","numbers","strings","more","uses"]
section rel
variable (B:Base)
noncomputable def wk (h:Heap) (φ P:List Addr) (x:Addr) (vs:List Value):Prop :=
 ∃dx ox od,x∉φ/\x∉P/\dx∉φ/\dx∉P/\h.get? x=some ox/\ox.cls = .ref B.cInfo/\ox.dict=some dx/\(notCls ox=true /\ ∀ws,ox.data ≠ .fields ws) /\
  h.get? dx=some od /\ ∀(i:Nat) (k:Str),zI[i]?=some k->∃v:Value,vs[i]?=some v/\lookIn k od=some (some v)
mutual
noncomputable def VR (h:Heap) (φ P:List Addr):AV->Value->Prop
 | .none,v=>v = .none
 | .bool b,v=>v = .bool b
 | .int i,v=>∃t,v = .int i t
 | .str s,v=>∃t,v = .str (mkS s) t
 | .bytes b,v=>∃t,v = .bytes b.toArray t
 | .tup l,v=>∃a vs,v = .ref a/\a∉φ/\a∉P/\IsTup h a vs.toArray/\VRs h φ P l vs
 | .clist l,v=>∃a vs,v = .ref a/\B.H₀.IsList a vs.toArray/\VRs h φ P l vs
 | .info l,v=>∃x vs,v = .ref x/\wk B h φ P x vs/\VRs h φ P l vs
 | .ref n,v=>∃a,φ[n]?=some a/\v = .ref a
noncomputable def VRs (h:Heap) (φ P:List Addr):List AV->List Value->Prop
 | [],vs=>vs=[]
 | a::r,vs=>∃v t,vs=v::t/\VR h φ P a v/\VRs h φ P r t
end
variable {B}
variable {h h':Heap} {φ φ' P ex:List Addr}
theorem VRs.length:∀{l:List AV} {vs:List Value},VRs B h φ P l vs->vs.length=l.length
 | [],_,e=>by rw[e];rfl
 | _::_,_,e=>by
  obtain⟨v,t,rfl,_,r⟩:=e;simp[VRs.length r]
structure Go (P ex:List Addr) (h:Heap) (φ:List Addr) (h':Heap) (φ':List Addr):Prop where
 keep:∀b o,h.get? b=some o->b∉φ->b∉P->h'.get? b=some o
 prot:∀b o,h.get? b=some o->b∈P->b∉ex->∃sl,h'.get? b=some { o with slots:=sl }
 dom:∀b o,h.get? b=some o->∃o',h'.get? b=some o'
 ext:∃ψ,φ'=φ++ψ /\ ∀a∈ψ,h.get? a=none
theorem Go.refl (P ex:List Addr) (h:Heap) (φ:List Addr):Go P ex h φ h φ :=
 ⟨fun p p e p p=>e,fun b o e p p=>⟨o.slots,e⟩,fun p o e=>⟨o,e⟩,[],(List.append_nil _).symm,nn⟩
theorem Go.trans {h1 h₂ h₃:Heap} {φ₁ φ₂ φ₃:List Addr} (x:Go P ex h1 φ₁ h₂ φ₂) (y:Go P ex h₂ φ₂ h₃ φ₃):Go P ex h1 φ₁ h₃ φ₃:=by
 refine zn (x.ext) fun ψ q2z hy=>?_;subst q2z;refine jB (y.ext) fun χ hc=>?_
 have hn:∀b o,h1.get? b=some o->b∉ψ:=fun b o e hb=>by rw[hy b hb]at e;cases e
 refine⟨fun b o e hp hP=>y.keep b o (x.keep b o e hp hP) (by simp[hp,hn b o e]) hP,fun b o e hP hx=>?_,fun b o e=>?_,ψ++χ,List.append_assoc ..,fun a ha=>?_⟩
 ·refine zX (x.prot b o e hP hx) fun sl e2=>?_;refine zX (y.prot b _ e2 hP hx) fun sl' e3=>?_;exact⟨sl',e3⟩
 ·refine zX (x.dom b o e) fun o' e'=>?_;exact y.dom b o' e'
 ·rcases List.mem_append.mp ha with ha | ha
  ·exact hy a ha
  ·cases hq:h1.get? a with
   | none=>rfl
   | some o=>obtain⟨o',e'⟩:=x.dom a o hq;rw[hc a ha]at e';cases e'
theorem Go.mono {ex ex':List Addr} (x:Go P ex h φ h' φ') (hs:∀b∈ex,b∈ex'):Go P ex' h φ h' φ' :=
 ⟨x.keep,fun b o e hP hx=>x.prot b o e hP fun q=>hx (hs b q),x.dom,x.ext⟩
theorem Go.of_keep (hk:∀b o,h.get? b=some o->h'.get? b=some o):Go P ex h φ h' φ :=
 ⟨fun b o e p p=>hk b o e,fun b o e p p=>⟨o.slots,hk b o e⟩,fun b o e=>⟨o,hk b o e⟩,[],(List.append_nil _).symm,nn⟩
theorem Go.notMem (x:Go P ex h φ h' φ') {a:Addr} {o:Obj} (ha:a∉φ) (e:h.get? a=some o):a∉φ':=by
 refine zn (x.ext) fun ψ q4z hy=>?_;subst q4z;intro hm
 rcases List.mem_append.mp hm with hm | hm
 ·exact ha hm
 ·rw[hy a hm]at e;cases e
theorem Go.place (x:Go P ex h φ h' φ') {n:Nat} {a:Addr} (e:φ[n]?=some a):φ'[n]?=some a:=by
 refine zn (x.ext) fun ψ q5z p=>?_;subst q5z
 have hl:n<φ.length:=by
  refine zX (List.getElem?_eq_some_iff.mp e) fun hl p=>?_;exact hl
 rw[List.getElem?_append_left hl];exact e
theorem IsTup.at {a:Addr} {xs:Array Value} (x:IsTup h a xs):∃o,h.get? a=some o:=zn (x) fun o e zy=>⟨o,e⟩
theorem Xb {k:Str} {o:Obj} {r:Option Value} (e:lookIn k o=some r):∀ws,o.data ≠ .fields ws:=by
 intro ws q;unfold lookIn at e;rw[q]at e;cases e
structure Mp (h h':Heap) (φ φ' P P':List Addr):Prop where
 pl:∀(n:Nat) (a:Addr),φ[n]?=some a->φ'[n]?=some a
 ob:∀(a:Addr) (o:Obj),h.get? a=some o->(∀ws,o.data ≠ .fields ws)->a∉φ->a∉P->h'.get? a=some o/\a∉φ'/\a∉P'
theorem wk.map {P':List Addr} (m:Mp h h' φ φ' P P') {x:Addr} {vs:List Value} (i:wk B h φ P x vs):wk B h' φ' P' x vs:=by
 refine Q7 (i) fun dx ox od a1 a2 a3 a4 a5 a6 a7 a8 a9 a10=>?_;try clear i
 have hd:∀ws,od.data ≠ .fields ws:=by
  refine zn (a10 0 "names" rfl) fun v p e=>?_;exact Xb e
 have u:=m.ob _ _ a5 a8.2 a1 a2;have w:=m.ob _ _ a9 hd a3 a4;exact R4 dx ox od u.2.1 u.2.2 w.2.1 w.2.2 u.1 a6 a7 a8 w.1 a10
mutual
theorem VR.map {P':List Addr} (m:Mp h h' φ φ' P P'):∀{a:AV} {v:Value},VR B h φ P a v->VR B h' φ' P' a v
 | .none,_,e=>e
 | .bool _,_,e=>e
 | .int _,_,e=>e
 | .str _,_,e=>e
 | .bytes _,_,e=>e
 | .tup l,v,e=>by
  obtain⟨a,vs,e1,h1,h2,⟨o,ho,hc,n,hd⟩,h4⟩:=e;have u:=m.ob a o ho (fun ws q=>by rw[hd]at q;cases q) h1 h2;exact⟨a,vs,e1,u.2.1,u.2.2,⟨o,u.1,hc,n,hd⟩,VRs.map m h4⟩
 | .clist l,v,e=>by
  obtain⟨a,vs,e1,h1,h4⟩:=e;exact⟨a,vs,e1,h1,VRs.map m h4⟩
 | .info l,v,e=>by
  obtain⟨a,vs,e1,h1,h4⟩:=e;exact⟨a,vs,e1,wk.map m h1,VRs.map m h4⟩
 | .ref n,v,e=>by
  obtain⟨a,h1,e1⟩:=e;exact⟨a,m.pl _ _ h1,e1⟩
theorem VRs.map {P':List Addr} (m:Mp h h' φ φ' P P'):∀{l:List AV} {vs:List Value},VRs B h φ P l vs->VRs B h' φ' P' l vs
 | [],_,e=>e
 | _::_,_,e=>by
  obtain⟨v,t,e1,h1,h2⟩:=e;exact⟨v,t,e1,VR.map m h1,VRs.map m h2⟩
end
theorem Go.mp (g:Go P ex h φ h' φ'):Mp h h' φ φ' P P:=⟨fun p p=>g.place,fun a o e p h1 h2=>(d3_ (g.keep _ _ e h1 h2) (g.notMem h1 e) h2)⟩
theorem wk.go {x:Addr} {vs:List Value} (g:Go P ex h φ h' φ') (i:wk B h φ P x vs):wk B h' φ' P x vs:=wk.map g.mp i
theorem VR.go (g:Go P ex h φ h' φ') {a:AV} {v:Value} (e:VR B h φ P a v):VR B h' φ' P a v:=VR.map g.mp e
theorem VRs.go (g:Go P ex h φ h' φ') {l:List AV} {vs:List Value} (e:VRs B h φ P l vs):VRs B h' φ' P l vs:=VRs.map g.mp e
theorem jp {X:List Addr} (hX:∀b∈X,h.get? b=none):Mp h h φ φ P (X++P) :=
 ⟨fun p p e=>e,fun a o e p h1 h2=>(d3_ e h1 (fun hm=>(List.mem_append.mp hm).elim (fun hm=>by rw[hX _ hm]at e;cases e) h2))⟩
theorem ti {X:List Addr}:Mp h h φ φ (X++P) P:=⟨fun p p e=>e,fun a o e p h1 h2=>(d3_ e h1 (fun q=>h2 (List.mem_append_right _ q)))⟩
theorem VR.wider {X:List Addr} (hX:∀b∈X,h.get? b=none) {a:AV} {v:Value} (e:VR B h φ P a v):VR B h φ (X++P) a v:=VR.map (jp hX) e
theorem VRs.wider {X:List Addr} (hX:∀b∈X,h.get? b=none) {l:List AV} {vs:List Value} (e:VRs B h φ P l vs):VRs B h φ (X++P) l vs:=VRs.map (jp hX) e
theorem VR.narrower {X:List Addr} {a:AV} {v:Value} (e:VR B h φ (X++P) a v):VR B h φ P a v:=VR.map ti e
theorem VRs.narrower {X:List Addr} {l:List AV} {vs:List Value} (e:VRs B h φ (X++P) l vs):VRs B h φ P l vs:=VRs.map ti e
noncomputable def OR (B:Base) (h:Heap) (φ P:List Addr) (a:Addr):AO->Prop
 | .list xs=>∃vs n,h.get? a=some { cls:=.type "list",dict:=none,data:=.seq vs.toArray n,slots:=#[] }/\VRs B h φ P xs vs
 | .dictB ep kvs=>∃ws,h.DictAt (bytesKind B.prog B.w) a ((kvs.map (fun x=>x.1)).zip ws) ep/\VRs B h φ P (kvs.map (fun x=>x.2)) ws
 | .dictS ep kvs=>∃ws,h.DictAt (strKind B.prog B.w) a ((kvs.map (fun x=>mkS x.1)).zip ws) ep/\VRs B h φ P (kvs.map (fun x=>x.2)) ws
 | .dictI ep kvs=>∃ws,h.DictAt (intKind B.prog B.w) a ((kvs.map (fun x=>x.1)).zip ws) ep/\VRs B h φ P (kvs.map (fun x=>x.2)) ws
structure SR (B:Base) (s:Shared) (φ P:List Addr) (st:St):Prop where
 base:∀b o,B.H₀.get? b=some o->s.heap.get? b=some o
 gens:s.gens = #[]
 os:s.os=B.os₀
 len:φ.length=st.length
 objs:∀(n:Nat) (a:Addr) (o:AO),φ[n]?=some a->st[n]?=some o->OR B s.heap φ P a o
 nodup:φ.Nodup
 newφ:∀a∈φ,B.H₀.get? a=none
 newP:∀a∈P,B.H₀.get? a=none
 apart:∀a∈φ,a∉P
 domP:∀a∈P,∃o,s.heap.get? a=some o
theorem OR.at {a:Addr}:∀{o:AO},OR B h φ P a o->∃ob,h.get? a=some ob
 | .list _,x=>by obtain⟨_,_,e,_⟩:=x;exact⟨_,e⟩
 | .dictB _ _,x=>by obtain⟨_,⟨o,_,e,_⟩,_⟩:=x;exact⟨o,e⟩
 | .dictS _ _,x=>by obtain⟨_,⟨o,_,e,_⟩,_⟩:=x;exact⟨o,e⟩
 | .dictI _ _,x=>by obtain⟨_,⟨o,_,e,_⟩,_⟩:=x;exact⟨o,e⟩
theorem OR.map {P':List Addr} {a:Addr} (m:Mp h h' φ φ' P P') (ea:∀o,h.get? a=some o->(∀ws,o.data ≠ .fields ws)->h'.get? a=some o):∀{o:AO},OR B h φ P a o->OR B h' φ' P' a o
 | .list _,x=>by obtain⟨vs,n,e,y⟩:=x;exact wm vs n (ea _ e (fun ws q=>by cases q)) (y.map m)
 | .dictB _ _,x=>by obtain⟨vs,⟨o,es,e,hx,hd,r⟩,y⟩:=x;exact⟨vs,(Wh o es (ea _ e (fun ws q=>by rw[hd]at q;cases q)) hx hd r),y.map m⟩
 | .dictS _ _,x=>by obtain⟨vs,⟨o,es,e,hx,hd,r⟩,y⟩:=x;exact⟨vs,(Wh o es (ea _ e (fun ws q=>by rw[hd]at q;cases q)) hx hd r),y.map m⟩
 | .dictI _ _,x=>by obtain⟨vs,⟨o,es,e,hx,hd,r⟩,y⟩:=x;exact⟨vs,(Wh o es (ea _ e (fun ws q=>by rw[hd]at q;cases q)) hx hd r),y.map m⟩
theorem OR.go {a:Addr} (g:Go P ex h φ h' φ') (ea:h'.get? a=h.get? a) {o:AO} (x:OR B h φ P a o):OR B h' φ' P a o:=OR.map g.mp (fun p e p=>ea.trans e) x
theorem OR.wider {X:List Addr} (hX:∀b∈X,h.get? b=none) {a:Addr} {o:AO} (x:OR B h φ P a o):OR B h φ (X++P) a o:=OR.map (jp hX) (fun p e p=>e) x
theorem OR.narrower {X:List Addr} {a:Addr} {o:AO} (x:OR B h φ (X++P) a o):OR B h φ P a o:=OR.map ti (fun p e p=>e) x
end rel
section steps
variable {B:Base} {s:Shared} {φ P ex:List Addr} {st:St}
theorem SR.memDom (S:SR B s φ P st) {a:Addr} (ha:a∈φ):∃o,s.heap.get? a=some o:=by
 refine zX (List.mem_iff_getElem?.mp ha) fun n hn=>?_
 have hl:n<st.length:=by
  refine zX (List.getElem?_eq_some_iff.mp hn) fun hl p=>?_;rw[<-S.len];exact hl
 exact(S.objs n a _ hn (List.getElem?_eq_getElem hl)).at
theorem SR.nil {s:Shared} (hb:∀b o,B.H₀.get? b=some o->s.heap.get? b=some o) (hg:s.gens = #[]) (ho:s.os=B.os₀):SR B s [] [] [] :=
 ⟨hb,hg,ho,rfl,nofun,by simp,nofun,nofun,fun p p=>wE,nofun⟩
theorem SR.grow (S:SR B s φ P st) {h':Heap} {t:Nat} (hk:∀b o,s.heap.get? b=some o->h'.get? b=some o):SR B { s with heap:=h',toks:=t } φ P st:=by
 refine⟨fun b o e=>hk b o (S.base b o e),S.gens,S.os,S.len,fun n a o e1 e2=>?_,S.nodup,S.newφ,S.newP,S.apart,fun a ha=>?_⟩
 ·have x:=S.objs n a o e1 e2;obtain⟨ob,e⟩:=x.at;exact x.go (Go.of_keep (ex:=[]) hk) ((hk a ob e).trans e.symm)
 ·obtain⟨o,e⟩:=S.domP a ha;exact⟨o,hk a o e⟩
theorem SR.toks (S:SR B s φ P st) (t:Nat):SR B { s with toks:=t } φ P st:=S.grow (h':=s.heap) fun p p e=>e
theorem SR.go_same (S:SR B s φ P st) {h':Heap} {t:Nat} (g:Go P ex s.heap φ h' φ) (hp:∀a∈φ,h'.get? a=s.heap.get? a):SR B { s with heap:=h',toks:=t } φ P st:=by
 refine⟨fun b o e=>g.keep b o (S.base b o e) (fun q=>?_) (fun q=>?_),S.gens,S.os,S.len,fun n a o e1 e2=>?_,S.nodup,S.newφ,S.newP,S.apart,fun a ha=>?_⟩
 ·rw[S.newφ b q]at e;cases e
 ·rw[S.newP b q]at e;cases e
 ·exact(S.objs n a o e1 e2).go g (hp a (List.mem_of_getElem? e1))
 ·obtain⟨o,e⟩:=S.domP a ha;exact g.dom a o e
theorem SR.turn (S:SR B s φ P st) {n:Nat} {a:Addr} {o':AO} {h':Heap} {t:Nat} (hn:φ[n]?=some a) (hs:Heap.SameBut a s.heap h') (hd:∃o,h'.get? a=some o)
  (hnew:Go P [] s.heap φ h' φ->OR B h' φ P a o'):SR B { s with heap:=h',toks:=t } φ P (st.set n o')/\Go P [] s.heap φ h' φ:=by
 have ma:=List.mem_of_getElem? hn;have g0:∀b o,s.heap.get? b=some o->b≠a->h'.get? b=some o:=fun b o e hb=>(hs.2 b hb).trans e
 have g:Go P [] s.heap φ h' φ:=⟨fun c oc ec hc p=>g0 c oc ec (fun e=>hc (e▸ma)),fun c oc ec hc p=>⟨oc.slots,g0 c oc ec fun e'=>S.apart a ma (e'▸hc)⟩,fun c oc ec=>by
  by_cases q:c=a
  ·subst q;exact hd
  ·exact⟨oc,g0 c oc ec q⟩,[],(List.append_nil _).symm,nn⟩
 refine⟨⟨fun b o e=>g.keep b o (S.base b o e) (fun q=>?_) (fun q=>?_),S.gens,S.os,by rw[List.length_set];exact S.len,fun m b o e1 e2=>?_,S.nodup,S.newφ,S.newP,S.apart,fun b hb=>?_⟩,g⟩
 ·rw[S.newφ b q]at e;cases e
 ·rw[S.newP b q]at e;cases e
 ·by_cases q:m=n
  ·subst q;obtain rfl:b=a:=Option.some.inj (e1.symm.trans hn)
   have hl:m<st.length:=by
    obtain⟨hl,_⟩:=List.getElem?_eq_some_iff.mp hn;rw[<-S.len];exact hl
   rw[List.getElem?_set_self hl]at e2;cases e2;exact hnew g
  ·rw[List.getElem?_set_ne (Ne.symm q)]at e2;refine(S.objs m b o e1 e2).go g (hs.2 b fun e=>q ?_);subst e;obtain⟨l1,f1⟩:=List.getElem?_eq_some_iff.mp e1;obtain⟨l2,f2⟩:=List.getElem?_eq_some_iff.mp hn;exact(List.getElem_inj S.nodup).mp (f1.trans f2.symm)
 ·obtain⟨o,e⟩:=S.domP b hb;exact g.dom b o e
theorem SR.more (S:SR B s φ P st) {o:Obj} {o':AO} {t:Nat} {h':Heap} (hk:∀b ob,s.heap.get? b=some ob->h'.get? b=some ob) (hn:∃ob,h'.get? s.heap.objs.size=some ob)
  (hnew:Go P [] s.heap φ h' (φ++[s.heap.objs.size])->OR B h' (φ++[s.heap.objs.size]) P s.heap.objs.size o') :
  SR B { s with heap:=h',toks:=t } (φ++[s.heap.objs.size]) P (st++[o'])/\Go P [] s.heap φ h' (φ++[s.heap.objs.size]):=by
 have fresh:s.heap.get? s.heap.objs.size=none:=by
  cases q:s.heap.get? s.heap.objs.size with
  | none=>rfl
  | some o=>exact absurd (Heap.lt_size q) (Nat.lt_irrefl _)
 have out:∀a ob,s.heap.get? a=some ob->a≠s.heap.objs.size:=fun a ob e=>Nat.ne_of_lt (Heap.lt_size e)
 have g:Go P [] s.heap φ h' (φ++[s.heap.objs.size]):=⟨fun b ob e p p=>hk b ob e,fun b ob e p p=>⟨ob.slots,hk b ob e⟩,fun b ob e=>⟨ob,hk b ob e⟩,[s.heap.objs.size],rfl,fun a ha=>by
  rw[List.mem_singleton.mp ha];exact fresh⟩
 refine⟨⟨fun b ob e=>hk b ob (S.base b ob e),S.gens,S.os,by simp[S.len],fun m b ob e1 e2=>?_,?_,fun a ha=>?_,S.newP,fun a ha=>?_,fun a ha=>?_⟩,g⟩
 ·by_cases q:m<φ.length
  ·rw[List.getElem?_append_left q]at e1;rw[List.getElem?_append_left (S.len▸q)]at e2;have x:=S.objs m b ob e1 e2;obtain⟨oo,eo⟩:=x.at;exact x.go g ((hk b oo eo).trans eo.symm)
  ·rw[List.getElem?_append_right (F1 (Nt q))]at e1;rw[List.getElem?_append_right (by rw[<-S.len];exact F1 (Nt q))]at e2
   have hm:m-φ.length=0:=by
    rcases Nat.eq_zero_or_pos (m-φ.length)with z | z
    ·exact z
    ·rw[List.getElem?_eq_none (by simp;exact F1 z)]at e1;cases e1
   rw[hm]at e1;rw[<-S.len,hm]at e2;cases e1;cases e2;exact hnew g
 ·refine List.nodup_append.mpr ⟨S.nodup,by simp,fun a ha b hb=>?_⟩;rw[List.mem_singleton.mp hb];obtain⟨oo,eo⟩:=S.memDom ha;exact out a oo eo
 ·rcases List.mem_append.mp ha with ha | ha
  ·exact S.newφ a ha
  ·rw[List.mem_singleton.mp ha]
   cases q:B.H₀.get? s.heap.objs.size with
   | none=>rfl
   | some oo=>rw[S.base _ _ q]at fresh;cases fresh
 ·rcases List.mem_append.mp ha with ha | ha
  ·exact S.apart a ha
  ·intro hp;rw[List.mem_singleton.mp ha]at hp;obtain⟨oo,eo⟩:=S.domP _ hp;rw[eo]at fresh;cases fresh
 ·obtain⟨oo,eo⟩:=S.domP a ha;exact⟨oo,hk a oo eo⟩
theorem SR.wider (S:SR B s φ P st) {X:List Addr} {h':Heap} {t:Nat} (hk:∀b ob,s.heap.get? b=some ob->h'.get? b=some ob) (hX:∀b∈X,s.heap.get? b=none) (hX':∀b∈X,∃o,h'.get? b=some o) :
  SR B { s with heap:=h',toks:=t } φ (X++P) st:=by
 have S':=S.grow (h':=h') (t:=t) hk;refine⟨S'.base,S.gens,S.os,S.len,fun n a o e1 e2=>?_,S.nodup,S.newφ,fun a ha=>?_,fun a ha hm=>?_,fun a ha=>?_⟩
 ·have x:=(S.objs n a o e1 e2).wider hX;obtain⟨oo,eo⟩:=x.at;exact x.go (Go.of_keep (ex:=[]) hk) ((hk a oo eo).trans eo.symm)
 ·rcases List.mem_append.mp ha with ha | ha
  ·cases q:B.H₀.get? a with
   | none=>rfl
   | some oo=>have:=hX a ha;rw[S.base _ _ q]at this;cases this
  ·exact S.newP a ha
 ·rcases List.mem_append.mp hm with hm | hm
  ·obtain⟨oo,eo⟩:=S.memDom ha;rw[hX a hm]at eo;cases eo
  ·exact S.apart a ha hm
 ·rcases List.mem_append.mp ha with ha | ha
  ·exact hX' a ha
  ·exact S'.domP a ha
theorem SR.narrower {X:List Addr} (S:SR B s φ (X++P) st):SR B s φ P st :=
 ⟨S.base,S.gens,S.os,S.len,fun n a o e1 e2=>(S.objs n a o e1 e2).narrower,S.nodup,S.newφ,fun a ha=>S.newP a (List.mem_append_right _ ha),fun a ha q=>S.apart a ha (List.mem_append_right _ q),fun a ha=>S.domP a (List.mem_append_right _ ha)⟩
theorem Go.narrower {X ex:List Addr} {h₀ h h':Heap} {φ φ':List Addr} (g:Go (X++P) ex h φ h' φ') (hk:∀b o,h₀.get? b=some o->h.get? b=some o) (hX:∀b∈X,h₀.get? b=none) (hex:∀b∈ex,b∈X):Go P [] h₀ φ h' φ':=by
 have out:∀{b:Addr} {o:Obj},h₀.get? b=some o->b∉X:=fun {b o} e hb=>by rw[hX b hb]at e;cases e
 refine zn (g.ext) fun ψ he hy=>?_;refine⟨fun b o e hp hP=>g.keep b o (hk b o e) hp fun q=>?_,fun b o e hP p=>g.prot b o (hk b o e) (List.mem_append_right _ hP) fun q=>out e (hex b q),fun b o e=>g.dom b o (hk b o e),ψ,he,fun a ha=>?_⟩
 ·rcases List.mem_append.mp q with q | q
  ·exact out e q
  ·exact hP q
 ·cases q:h₀.get? a with
  | none=>rfl
  | some o=>have:=hy a ha;rw[hk a o q]at this;cases this
end steps
noncomputable instance:Nonempty Base:=let ⟨w⟩:=(inferInstance:Nonempty World);⟨⟨default,w,default,default,default,default,default⟩⟩
noncomputable abbrev Rho:=List (Nat×AV)
noncomputable def Rho.get:Rho->Nat->Option AV
 | [],_=>none
 | (j,v)::r,i=>match Nat.beq j i with
  | true=>some v
  | false=>Rho.get r i
theorem Rho.get_2:∀(x j:Nat) (v:AV) (r:List (Nat×AV)),Rho.get ((j,v)::r) x=match Nat.beq j x with | true=>some v | false=>Rho.get r x:=fun a a a a=>rfl
noncomputable def Rho.set:Rho->Nat->AV->Rho
 | [],i,v=>[(i,v)]
 | (j,w)::r,i,v=>match Nat.beq j i with
  | true=>(i,v)::r
  | false=>(j,w)::Rho.set r i v
theorem Rho.set_1:∀(x:Nat) (a:AV),Rho.set [] x a=[(x,a)]:=fun a a=>rfl
theorem Rho.set_2:∀(x:Nat) (a:AV) (j:Nat) (w:AV) (r:List (Nat×AV)),Rho.set ((j,w)::r) x a=match Nat.beq j x with | true=>(x,a)::r | false=>(j,w)::Rho.set r x a:=fun a a a a a=>rfl
theorem Rho.get_set (ρ:Rho) (i j:Nat) (v:AV):(ρ.set i v).get j=if j=i then some v else ρ.get j:=by
 induction ρ with
 | nil =>
  simp only[Rho.set_1,Rho.get_2]
  cases h:Nat.beq i j with
  | true=>have:=Nat.eq_of_beq_eq_true h;simp[this]
  | false=>have:=Nat.ne_of_beq_eq_false h;simp[Ne.symm this]
 | cons p r ih =>
  obtain⟨k,w⟩:=p;simp only[Rho.set_2]
  cases h:Nat.beq k i with
  | true =>
   have hk:=Nat.eq_of_beq_eq_true h;subst hk;simp only[Rho.get_2]
   cases h2:Nat.beq k j with
   | true=>have:=Nat.eq_of_beq_eq_true h2;simp[this]
   | false=>have:=Nat.ne_of_beq_eq_false h2;simp[Ne.symm this]
  | false =>
   have hk:=Nat.ne_of_beq_eq_false h;simp only[Rho.get_2]
   cases h2:Nat.beq k j with
   | true=>have:=Nat.eq_of_beq_eq_true h2;subst this;simp[hk]
   | false=>exact ih
set_option genInjectivity false in
structure Cx where
 A:Around
 env:Env
 L:Addr
 own:List Addr
 P₀:List Addr
noncomputable abbrev Cx.P (c:Cx):List Addr:=c.own++c.P₀
structure Cx.Ok (n:Nat) (c:Cx):Prop where
 handled:c.A.handled=none
 depth:c.A.depth+4*n<=900
 units:c.A.units+100*n+100<=cLine
 frames:∃fenv outer,c.A.frames=some (fenv::outer)/\fenv.frame=some c.L /\ ∀e∈fenv::outer,e.scope.kind ≠ .module /\ ∃L,e.frame=some L/\L∈c.P
 kind:c.env.scope.kind = .function
 globals:c.env.globals=mainGlobals
 builtins:c.env.builtins=builtinsNs
 frame:c.env.frame=some c.L
 locals:c.env.locals∈c.own
 cells:∀x b,c.env.cells.lookup x=some b->b∈c.P
 apart:∀b∈c.own,b∉c.P₀
variable (B:Base) (nm:Nat->Str) (nN:Nat)
noncomputable def FO (h:Heap) (c:Cx):Prop:=∀fr,c.A.frames=some fr->∀e∈fr,∀L,e.frame=some L->∃o,h.get? L=some o /\ ∀vs,o.data ≠ .fields vs
structure FR (h:Heap) (φ:List Addr) (c:Cx) (ρ:Rho):Prop where
 ns:∃m,h.Ns c.env.locals m /\ ∀i a,ρ.get i=some a->i<nN/\match c.env.kindOf (nm i)with
  | some .local=>∃v,m (nm i)=some v/\VR B h φ c.P a v
  | some .cell | some .free=>∃b o v,c.env.cells.lookup (nm i)=some b/\h.get? b=some o/\o.data = .cell (some v)/\VR B h φ c.P a v
  | _=>False
 cellObj:∀x b,c.env.cells.lookup x=some b->∃o v,h.get? b=some o/\o.data = .cell v
 fo:FO h c
structure Q9 (h₀ h:Heap) (φ P:List Addr) (told:AV) (e:Addr) (oe:Obj) (d:Addr) (od:Obj) (v:Value):Prop where
 a1:h₀.get? e=none
 a2:e∉φ
 a3:e∉P
 a4:h.get? e=some oe
 a5:oe.cls = .ref B.cBad
 a6:oe.dict=some d
 a7:d∉φ
 a8:d∉P
 a9:h₀.get? d=none
 a10:h.get? d=some od
 a11:∀ws,od.data ≠ .fields ws
 a12:lookIn "told" od=some (some v)
 a13:VR B h φ P told v
structure Pa (h₀ h:Heap) (φ P:List Addr) (e:Addr) (vs:Array Value) (fl:Value) (T:Addr) (oT:Obj) (ts:Array Value):Prop where
 b1:vs[1]?=some (.ref T)
 b2:T≠e
 b3:h₀.get? T=none
 b4:T∉φ
 b5:T∉P
 b6:h.get? T=some oT
 b7:oT.data = .fields ts
 b8:ts[3]?=some fl
noncomputable def x_ (h₀ h:Heap) (φ P:List Addr) (x:Value) (told:AV) (fs:Option Value):Prop :=
 ∃e oe d od vs v,x = .ref e/\Q9 B h₀ h φ P told e oe d od v/\oe.data = .fields vs/\match fs with
  | none=>vs[1]?=some .none
  | some fl=>∃T oT ts,Pa h₀ h φ P e vs fl T oT ts
noncomputable def tL (h₀ h:Heap) (φ P:List Addr) (L:Addr) (x:Value) (told:AV):Prop:=∃fs,x_ B h₀ h φ P x told fs/\(fs=none\/fs=some .none\/fs=some (rawInt L))
variable {B nm nN}
theorem x_.nar {h₀ h1 h:Heap} {φ P X:List Addr} {x:Value} {told:AV} {fs:Option Value} (k:∀b o,h₀.get? b=some o->∃o',h1.get? b=some o') (e:x_ B h1 h φ (X++P) x told fs):x_ B h₀ h φ P x told fs:=by
 have back:∀b,h1.get? b=none->h₀.get? b=none:=fun b hb=>by
  cases q:h₀.get? b with
  | none=>rfl
  | some o=>obtain⟨o',e'⟩:=k b o q;rw[hb]at e';cases e'
 have out:∀b,b∉X++P->b∉P:=fun b h q=>h (List.mem_append_right _ q);refine QP (e) fun e oe d od vs v hx A hd z=>?_;refine Qm e oe d od vs v hx ⟨back _ A.a1,A.a2,out _ A.a3,A.a4,A.a5,A.a6,A.a7,out _ A.a8,back _ A.a9,A.a10,A.a11,A.a12,A.a13.narrower⟩ hd ?_
 cases fs with
 | none=>exact z
 | some fl =>
  refine QK (z) fun T oT ts b=>?_;try clear z;exact Pk T oT ts ⟨b.b1,b.b2,back _ b.b3,b.b4,out _ b.b5,b.b6,b.b7,b.b8⟩
theorem tL.born {h₀ h1 h:Heap} {φ P:List Addr} {L:Addr} {x:Value} {told:AV} (k:∀b o,h₀.get? b=some o->∃o',h1.get? b=some o') (e:tL B h1 h φ P L x told):tL B h₀ h φ P L x told:=by
 refine zn (e) fun fs e hf=>?_;exact zw fs (e.nar (X:=[]) k) hf
variable (B)
noncomputable def Po {α:Type} (P:List Addr) (h:Heap) (φ:List Addr) (R:α->Heap->List Addr->St->Prop):α->Shared->Prop :=
 fun r s'=>∃φ' st',SR B s' φ' P st'/\Go P [] h φ s'.heap φ'/\R r s'.heap φ' st'
noncomputable def Val (P:List Addr) (Q:AV->St->Prop):Value->Heap->List Addr->St->Prop:=fun v h φ st=>∃a,VR B h φ P a v/\Q a st
noncomputable def Pi (P:List Addr) (Q:List AV->St->Prop):List Value->Heap->List Addr->St->Prop:=fun v h φ st=>∃a,VRs B h φ P a v/\Q a st
noncomputable def Exc (P:List Addr) (h:Heap) (φ:List Addr) (L:Addr) (X:AV->St->Prop):Value->Shared->Prop :=
 fun x s'=>∃φ' st' told,SR B s' φ' P st'/\Go P [] h φ s'.heap φ'/\tL B h s'.heap φ' P L x told/\X told st'
variable {B}
section
variable {α β:Type} {prog:Program} {w:World} {A:Around} {P:List Addr} {h:Heap} {φ:List Addr} {L:Addr} {s:Shared}
theorem Exc.after {h1:Heap} {φ₁:List Addr} {X:AV->St->Prop} {x:Value} {s':Shared} (g:Go P [] h φ h1 φ₁) (e:Exc B P h1 φ₁ L X x s'):Exc B P h φ L X x s':=by
 revert B P h φ L h1 φ₁ X x s' g e
 intros B P h φ L h1 φ₁ X x s' g e;obtain⟨φ',st',told,S,g',e,hX⟩:_:=e;exact yD φ' st' told S (g.trans g') (e.born g.dom) hX
theorem Po.after {h1:Heap} {φ₁:List Addr} {R:α->Heap->List Addr->St->Prop} {r:α} {s':Shared} (g:Go P [] h φ h1 φ₁) (e:Po B P h1 φ₁ R r s'):Po B P h φ R r s':=by
 refine xH (e) fun φ' st' S g' hR=>?_;try clear e;exact zV φ' st' S (g.trans g') hR
theorem ye {m:Sem α} {k:α->Sem β} {R:α->Heap->List Addr->St->Prop} {R':β->Heap->List Addr->St->Prop} {X:AV->St->Prop}
  (hm:wpAny (model prog w) A m (Po B P h φ R) (Exc B P h φ L X) s)
  (hk:∀r s' φ' st',SR B s' φ' P st'->Go P [] h φ s'.heap φ'->R r s'.heap φ' st'->wpAny (model prog w) A (k r) (Po B P s'.heap φ' R') (Exc B P s'.heap φ' L X) s') :
  wpAny (model prog w) A (m >>= k) (Po B P h φ R') (Exc B P h φ L X) s :=
 wpAny_bind (wpAny_mono hm (fun r s' zz=>xH zz fun φ' st' S g hR=>wpAny_mono (hk r s' φ' st' S g hR) (fun u u x=>x.after g) fun u u x=>x.after g) fun u u x=>x)
theorem v9 {m:Sem α} {R R':α->Heap->List Addr->St->Prop} {X X':AV->St->Prop} (hm:wpAny (model prog w) A m (Po B P h φ R) (Exc B P h φ L X) s)
  (hR:∀r h φ st,R r h φ st->R' r h φ st) (hX:∀t st,X t st->X' t st):wpAny (model prog w) A m (Po B P h φ R') (Exc B P h φ L X') s :=
 wpAny_mono hm (fun r s' zz=>xH zz fun φ' st' S g h=>⟨φ',st',S,g,hR _ _ _ _ h⟩) fun x s' zz=>X9 zz fun φ' st' told S g e h=>⟨φ',st',told,S,g,e,hX _ _ h⟩
theorem z8 {R:α->Heap->List Addr->St->Prop} {r:α} {st:St} (S:SR B s φ P st) (hR:R r s.heap φ st):Po B P s.heap φ R r s:=zV φ st S (Go.refl ..) hR
theorem zE {R:α->Heap->List Addr->St->Prop} {r:α} {st:St} {t:Nat} (S:SR B s φ P st) (hR:R r s.heap φ st):Po B P s.heap φ R r { s with toks:=t }:=zV φ st (S.toks t) (Go.refl ..) hR
end
theorem XN {h h':Heap} {a:Addr} {m:Str->Option Value} (hn:h.Ns a m) (k:∀o,h.get? a=some o->∃sl,h'.get? a=some { o with slots:=sl }):h'.Ns a m:=by
 revert h h' a m hn k
 intros h h' a m hn k;obtain⟨o,es,ep,ho,hd,r⟩:_:=hn;obtain⟨sl,e⟩:_:=k o ho;exact Qb _ es ep e hd r
noncomputable def FrA (c:Cx) (b:Addr):Prop:=b=c.env.locals\/(∃x,c.env.cells.lookup x=some b) \/ ∃fr,c.A.frames=some fr /\ ∃e∈fr,e.frame=some b
theorem Cx.Ok.frA {c:Cx} {n:Nat} (O:c.Ok n) {b:Addr} (h:FrA c b):b∈c.P:=by
 rcases h with h | h | h
 ·rw[h];exact List.mem_append_left _ O.locals
 ·refine zX (h) fun x h=>?_;exact O.cells _ _ h
 ·refine zn (h) fun fr hf n5z=>?_;try clear h;refine zn (n5z) fun e he hL=>?_;try clear n5z;refine xH (O.frames) fun fenv outer hf' h1 h2=>?_;rw[hf']at hf;rw[<-Option.some.inj hf]at he;refine xn (h2 e he) fun u n6z=>?_;refine zn (n6z) fun L' hL' hP=>?_;try clear n6z;rw[hL]at hL';rw[Option.some.inj hL'];exact hP
theorem FR.map {h h':Heap} {φ φ':List Addr} {c c':Cx} {ρ:Rho} (F:FR B nm nN h φ c ρ) (m:Mp h h' φ φ' c.P c'.P) (he:c'.env=c.env) (hA:c'.A=c.A)
  (k:∀b o,FrA c b->h.get? b=some o->(∀ws,o.data ≠ .fields ws)->∃sl,h'.get? b=some { o with slots:=sl }):FR B nm nN h' φ' c' ρ:=by
 refine zn (F.ns) fun mm hn hv=>?_
 have cd:∀{b o v},c.env.cells.lookup b=some o->∀ob:Obj,h.get? o=some ob->ob.data = .cell v->∃o',h'.get? o=some o'/\o'.data = .cell v:=fun {b o v} hb ob e hd=>by
  obtain⟨sl,e'⟩:=k o ob (.inr (.inl ⟨_,hb⟩)) e (fun ws q=>by rw[hd]at q;cases q);exact zw _ e' hd
 have hn':∀o,h.get? c.env.locals=some o->∃sl,h'.get? c.env.locals=some { o with slots:=sl }:=fun o e=>k _ o (.inl rfl) e fun ws q=>by
  refine RI (hn) fun o' es ep ho hd u=>?_;try clear hn;rw[e]at ho;rw[Option.some.inj ho,hd]at q;cases q
 refine⟨(zw mm (by rw[he];exact XN hn hn') (fun i a e=>⟨(hv i a e).1,?_⟩)),fun x b e=>?_,?_⟩
 ·have z:=(hv i a e).2;rw[he]
  cases hk:c.env.kindOf (nm i)with
  | none=>rw[hk]at z;exact z
  | some k =>
   rw[hk]at z
   cases k<;>first
    | exact z
    | (obtain⟨v,hm,r⟩:=z;exact⟨v,hm,r.map m⟩)
    | (obtain⟨b,o,v,hb,ho,hd,r⟩:=z;obtain⟨o',e1,e2⟩:=cd hb o ho hd;exact(yD b o' v hb e1 e2 (r.map m)))
 ·rw[he]at e;refine wL (F.cellObj x b e) fun o v ho hd=>?_;refine zn (cd e o ho hd) fun o' e1 e2=>?_;exact wm o' v e1 e2
 ·intro fr hf e he L hL;rw[hA]at hf;refine zn (F.fo _ hf e he L hL) fun o ho hd=>?_;refine zX (k L o (.inr (.inr (zw fr hf ⟨e,he,hL⟩))) ho hd) fun sl e'=>?_;exact zw _ e' hd
theorem FR.go {h h':Heap} {φ φ':List Addr} {c:Cx} {ρ:Rho} {n:Nat} (O:c.Ok n) (F:FR B nm nN h φ c ρ) (g:Go c.P [] h φ h' φ'):FR B nm nN h' φ' c ρ :=
 F.map g.mp rfl rfl fun b o hb e u=>g.prot b o e (O.frA hb) wE
structure WE (B:Base) (nm:Nat->Str) (nN n:Nat) (sc:Scope) (e:Expr) (ρ:Rho) (Q X:AV->St->Prop) (st:St):Prop where
 run:∀(c:Cx) (s:Shared) (φ:List Addr),c.Ok n->c.env.scope=sc->SR B s φ c.P st->FR B nm nN s.heap φ c ρ ->
  wpAny (model B.prog B.w) c.A (eval e c.env) (Po B c.P s.heap φ (Val B c.P Q)) (Exc B c.P s.heap φ c.L X) s
structure WT (B:Base) (nm:Nat->Str) (nN n:Nat) (sc:Scope) (e:Expr) (ρ:Rho) (Q:Bool->St->Prop) (X:AV->St->Prop) (st:St):Prop where
 run:∀(c:Cx) (s:Shared) (φ:List Addr),c.Ok n->c.env.scope=sc->SR B s φ c.P st->FR B nm nN s.heap φ c ρ ->
  wpAny (model B.prog B.w) c.A (isTrue e c.env (eval e c.env)) (Po B c.P s.heap φ (fun b u u st=>Q b st)) (Exc B c.P s.heap φ c.L X) s
section rules
variable {n:Nat} {sc:Scope} {ρ:Rho} {Q X:AV->St->Prop} {st:St}
theorem yt {k:Nat} {pos:Pos} (h:Q .none st):WE B nm nN n sc (.Constant .none k pos) ρ Q X st :=
 ⟨fun c s φ O hs S F=>wpAny_pure (z8 S (zw (.none) (rfl) h))⟩
theorem Z3 {b:Bool} {k:Nat} {pos:Pos} (h:Q (.bool b) st):WE B nm nN n sc (.Constant (.bool b) k pos) ρ Q X st :=
 ⟨fun c s φ O hs S F=>wpAny_pure (z8 S (zw (.bool b) (rfl) h))⟩
theorem zb {i:Int} {k:Nat} {pos:Pos} (h:Q (.int i) st):WE B nm nN n sc (.Constant (.int i) k pos) ρ Q X st :=
 ⟨fun c s φ O hs S F=>wpAny_mkInt (zE S (zw (.int i) (⟨_,rfl⟩) h))⟩
theorem zh {x:Str} {y:List Nat} {k:Nat} {pos:Pos} (e:x=mkS y) (h:Q (.str y) st):WE B nm nN n sc (.Constant (.str x) k pos) ρ Q X st :=
 ⟨fun c s φ O hs S F=>wpAny_mkText (zE S (zw (.str y) (e▸⟨_,rfl⟩) h))⟩
theorem zt {x:List UInt8} {k:Nat} {pos:Pos} (h:Q (.bytes x) st):WE B nm nN n sc (.Constant (.bytes x) k pos) ρ Q X st :=
 ⟨fun c s φ O hs S F=>Constant_bytes (zE S (zw (.bytes x) (⟨_,rfl⟩) h))⟩
theorem wK {M:Model} {A:Around} {E:Value->Shared->Prop} {s:Shared} {env:Env} {name:Str} {b:Addr} {o:Obj} {v:Value} {Q:Value->Shared->Prop} (hk:env.scope.kind = .function)
  (hl:env.kindOf name=some .cell\/(env.kindOf name=some .free/\name≠"__classdict__")) (hb:env.cells.lookup name=some b) (ho:s.heap.get? b=some o) (hd:o.data = .cell (some v)) (h:Q v s) :
  wpAny M A (loadName env name) Q E s:=by
 revert M A E s env name b o v Q hk hl hb ho hd h
 intros M A E s env name b o v Q hk hl hb ho hd h
 have get:∀{Q':Option Value->Shared->Prop},Q' (some v) s->wpAny M A (cellGet b) Q' E s:=fun {Q'} hq=>by
  refine wpAny_bind (wpAny_load ho ?_);rw[hd];exact wpAny_pure hq
 have ann:(env.scope.kind.isAnnotationScope&&env.kindOf "__classdict__"==some .free&&name != "__classdict__")=false:=by
  rw[hk];rfl
 have bk:env.blockKind = .function:=by unfold Env.blockKind;rw[hk];rfl
 unfold loadName;rw[ann]
 rcases hl with hl | y1_
 ·simp only[bk,hl,Bool.false_eq_true,if_false];exact wpAny_bind (wpAny_of_eq (a:=b) (by unfold cellOf;rw[hb]) (wpAny_bind (get (wpAny_pure h))))
 ·obtain⟨hl,hne⟩:_:=y1_;have hne':(name==("__classdict__":Str))=false:=beq_eq_false_iff_ne.mpr hne;simp only[bk,hl,hne',Bool.false_eq_true,if_false];exact wpAny_bind (wpAny_of_eq (a:=b) (by unfold cellOf;rw[hb]) (wpAny_bind (get (wpAny_pure h))))
theorem TK {i:Nat} {a:AV} {pos:Pos} (hd:(nm i==("__debug__":Str))=false) (hc:(nm i==("__classdict__":Str))=false) (hi:ρ.get i=some a) (h:Q a st):WE B nm nN n sc (.Name (nm i) pos) ρ Q X st:=by
 refine⟨fun c s φ O hs S F=>?_⟩;refine wpAny_Name ?_ hd;refine zn (F.ns) fun m hn hv=>?_;have z:=(hv i a hi).2
 cases hk:c.env.kindOf (nm i)with
 | none=>rw[hk]at z;exact z.elim
 | some k =>
  rw[hk]at z
  cases k<;>first
   | exact z.elim
   | (obtain⟨v,hm,r⟩:=z;exact wpAny_loadName_local O.kind hk hn hm (z8 S ⟨a,r,h⟩))
   | (obtain⟨b,o,v,hb,ho,hdt,r⟩:=z;exact wK O.kind (.inl hk) hb ho hdt (z8 S ⟨a,r,h⟩))
   | (obtain⟨b,o,v,hb,ho,hdt,r⟩:=z;exact wK O.kind (.inr ⟨hk,of_decide_eq_false hc⟩) hb ho hdt (z8 S ⟨a,r,h⟩))
end rules
theorem rn {ρ:Rho} {i j:Nat} {v w:AV} (h:ρ.get j=some w) (e:Nat.beq i j=false):(ρ.set i v).get j=some w:=by rw[Rho.get_set,if_neg (fun q=>by rw[q,Nat.beq_refl]at e;cases e)];exact h
noncomputable instance:Nonempty Cx:=⟨⟨{},default,default,default,default⟩⟩
noncomputable def R6 (B:Base) (m:Value->Sem Value) (a:AV) (Q:AV->St->Prop) (st:St):Prop :=
 ∀(A:Around) (P:List Addr) (s:Shared) (φ:List Addr) (v:Value),A.handled=none->A.units+100<=cLine->SR B s φ P st->VR B s.heap φ P a v ->
  wpAny (model B.prog B.w) A (m v) (Po B P s.heap φ (Val B P Q)) (fun z z=>False) s
noncomputable def yl (B:Base) (m:Value->Value->Sem Value) (a b:AV) (Q:AV->St->Prop) (st:St):Prop :=
 ∀(A:Around) (P:List Addr) (s:Shared) (φ:List Addr) (v w:Value),A.handled=none->A.units+100<=cLine->SR B s φ P st->VR B s.heap φ P a v->VR B s.heap φ P b w ->
  wpAny (model B.prog B.w) A (m v w) (Po B P s.heap φ (Val B P Q)) (fun z z=>False) s
theorem xt {M:Model} {A:Around} {vs:List Value} {m:Sem Value} {Q:Value->Shared->Prop} {E:Value->Shared->Prop} {s:Shared} (h:wpAny M A m Q E s):wpAny M A (operate vs m) Q E s :=
 fun Γ p hΓ=>by rw[Sem.wp_operate];exact h Γ p hΓ
theorem tG {M:Model} {A:Around} {vs keep:List Value} {Q:Unit->Shared->Prop} {E:Value->Shared->Prop} {s:Shared} (h:Q () s):wpAny M A (release vs keep) Q E s :=
 fun Γ p hΓ=>by rw[Sem.wp_release];exact h
section
variable {B:Base} {nm:Nat->Str} {nN n:Nat} {sc:Scope} {ρ:Rho} {Q X:AV->St->Prop} {QT:Bool->St->Prop} {st:St}
theorem Cx.Ok.room {n:Nat} {c:Cx} (O:c.Ok n):c.A.units+100<=cLine:=by have:=O.units;exact F1 this
theorem after {α:Type} {P:List Addr} {h:Heap} {φ:List Addr} {A:Around} {L:Addr} {s':Shared} {φ':List Addr} {R:α->Heap->List Addr->St->Prop} {t:Sem α}
  (g:Go P [] h φ s'.heap φ') (x:wpAny (model B.prog B.w) A t (Po B P s'.heap φ' R) (Exc B P s'.heap φ' L X) s'):wpAny (model B.prog B.w) A t (Po B P h φ R) (Exc B P h φ L X) s' :=
 wpAny_mono x (fun z z y=>y.after g) fun z z y=>y.after g
theorem v6 {α:Type} {P:List Addr} {h:Heap} {φ:List Addr} {A:Around} {L:Addr} {s':Shared} {R:α->Shared->Prop} {t:Sem α} (x:wpAny (model B.prog B.w) A t R (fun z z=>False) s') :
  wpAny (model B.prog B.w) A t R (Exc B P h φ L X) s':=wpAny_mono x (fun z z y=>y) fun z z y=>y.elim
theorem ze {l r:Expr} {op:Operator} {pos:Pos} (h:WE B nm nN n sc l ρ (fun a st₁=>WE B nm nN n sc r ρ (fun b st2=>yl B (binaryOp op) a b Q st2) X st₁) X st) :
  WE B nm nN n sc (.BinOp l op r pos) ρ Q X st:=by
 refine⟨fun c s φ O hs S F=>?_⟩;rw[eval_BinOp];refine ye (h.run c s φ O hs S F) fun v s₁ φ₁ st₁ S₁ g₁ zz=>zn zz fun a ra h1=>?_;refine ye (wpAny_holding (h1.run c s₁ φ₁ O hs S₁ (F.go O g₁))) fun w s₂ φ₂ st2 S₂ g₂ zz=>zn zz fun b rb h₂=>?_;exact wpAny_bind (wpAny_standAt (xt (v6 (h₂ c.A c.P s₂ φ₂ v w O.handled O.room S₂ (ra.go g₂) rb))))
theorem uZ {x:Expr} {op:UnaryOp} {pos:Pos} (h:WE B nm nN n sc x ρ (fun a st₁=>R6 B (unaryOp op) a Q st₁) X st):WE B nm nN n sc (.UnaryOp op x pos) ρ Q X st:=by
 refine⟨fun c s φ O hs S F=>?_⟩;show wpAny _ _ (do let v <-eval x c.env;standAt pos;holding [v] (unaryOp op v)) _ _ s;refine ye (h.run c s φ O hs S F) fun v s₁ φ₁ st₁ S₁ g₁ zz=>zn zz fun a ra h1=>?_;exact wpAny_bind (wpAny_standAt (wpAny_holding (v6 (h1 c.A c.P s₁ φ₁ v O.handled O.room S₁ ra))))
noncomputable def xR (QT:Bool->St->Prop):AV->St->Prop:=fun a st=>∃b,a = .bool b/\QT b st
theorem tr {A:Around} {P:List Addr} {s:Shared} {φ:List Addr} {v:Value} {a:AV} {E:Value->Shared->Prop} (S:SR B s φ P st) (ra:VR B s.heap φ P a v) (h:xR QT a st) :
  wpAny (model B.prog B.w) A (truthy v) (Po B P s.heap φ (fun b z z st=>QT b st)) E s:=by
 obtain⟨b,rfl,h⟩:=h;subst ra;exact wpAny_truthy_bool (z8 S h)
theorem XV {l r:Expr} {op:CmpOp} {pos:Pos} (hm:behindInMarks op r=false) (h:WE B nm nN n sc l ρ (fun a st₁=>WE B nm nN n sc r ρ (fun b st2=>yl B (compareOp op) a b Q st2) X st₁) X st) :
  WE B nm nN n sc (.Compare l [op] [r] pos) ρ Q X st:=by
 refine⟨fun c s φ O hs S F=>?_⟩;rw[eval_Compare1,markedBehindIn_of_false hm];refine ye (h.run c s φ O hs S F) fun v s₁ φ₁ st₁ S₁ g₁ zz=>zn zz fun a ra h1=>?_;refine ye (wpAny_holding (h1.run c s₁ φ₁ O hs S₁ (F.go O g₁))) fun w s₂ φ₂ st2 S₂ g₂ zz=>zn zz fun b rb h₂=>?_;exact wpAny_bind (wpAny_standAt (xt (v6 (h₂ c.A c.P s₂ φ₂ v w O.handled O.room S₂ (ra.go g₂) rb))))
theorem zk {l r:Expr} {op:CmpOp} {pos:Pos} (hm:behindInMarks op r=false) (h:WE B nm nN n sc l ρ (fun a st₁=>WE B nm nN n sc r ρ (fun b st2=>yl B (compareOp op) a b (xR QT) st2) X st₁) X st) :
  WT B nm nN n sc (.Compare l [op] [r] pos) ρ QT X st:=by
 refine⟨fun c s φ O hs S F=>?_⟩;rw[isTrue_Compare1,markedBehindIn_of_false hm];refine ye (h.run c s φ O hs S F) fun v s₁ φ₁ st₁ S₁ g₁ zz=>zn zz fun a ra h1=>?_;refine ye (wpAny_holding (h1.run c s₁ φ₁ O hs S₁ (F.go O g₁))) fun w s₂ φ₂ st2 S₂ g₂ zz=>zn zz fun b rb h₂=>?_;refine wpAny_bind (wpAny_standAt ?_);refine ye (xt (v6 (h₂ c.A c.P s₂ φ₂ v w O.handled O.room S₂ (ra.go g₂) rb))) fun u s₃ φ₃ st₃ S₃ g₃ zz=>zn zz fun d rd h₃=>?_;exact wpAny_holding (tr S₃ rd h₃)
theorem SB {l m r:Expr} {op1 op2:CmpOp} {pos:Pos} (hm:lastMarks [op1,op2] [m,r]=false)
  (h:WE B nm nN n sc l ρ (fun a st₁=>WE B nm nN n sc m ρ (fun b st2=>yl B (compareOp op1) a b (xR fun t st₃=>if t then WE B nm nN n sc r ρ (fun d st4=>yl B (compareOp op2) b d (xR QT) st4) X st₃ else QT false st₃) st2) X st₁) X st) :
  WT B nm nN n sc (.Compare l [op1,op2] [m,r] pos) ρ QT X st:=by
 revert B nm nN n sc ρ X QT st l m r op1 op2 pos hm h
 intros B nm nN n sc ρ X QT st l m r op1 op2 pos hm h;refine⟨?_⟩;intros c s φ O hs S F;show wpAny _ _ (do testChain pos (<-eval l c.env) [op1,op2] (markedEach [op1,op2] [m,r] (evalEach [m,r] c.env))) _ _ s;rw[markedEach_of_false _ _ _ hm];refine ye (h.run c s φ O hs S F) ?_;intros v s₁ φ₁ st₁ S₁ g₁ p23_;obtain⟨a,ra,h1⟩:_:=p23_;refine ye (wpAny_holding (h1.run c s₁ φ₁ O hs S₁ (F.go O g₁))) ?_;intros w s₂ φ₂ st2 S₂ g₂ p24_;obtain⟨b,rb,h₂⟩:_:=p24_;have g₁₂:=g₁.trans g₂;refine wpAny_bind (wpAny_standAt ?_);refine ye (wpAny_holding (v6 (h₂ c.A c.P s₂ φ₂ v w O.handled O.room S₂ (ra.go g₂) rb))) ?_;intros u s₃ φ₃ st₃ S₃ g₃ p25_;obtain⟨d,rd,h₃⟩:_:=p25_;refine wpAny_bind (tG ?_);refine ye (wpAny_holding (tr S₃ rd h₃)) ?_;intros t s₄ φ₄ st4 S₄ g₄ h4
 cases t with
 | false=>exact wpAny_pure (z8 S₄ h4)
 | true =>
  refine ye (wpAny_holding (h4.run c s₄ φ₄ O hs S₄ (F.go O ((g₁₂.trans g₃).trans g₄)))) ?_;intros w' s₅ φ₅ st₅ S₅ g₅ p26_;obtain⟨b',rb',h5⟩:_:=p26_;refine wpAny_bind (wpAny_standAt ?_);refine ye (xt (v6 (h5 c.A c.P s₅ φ₅ w w' O.handled O.room S₅ (rb.go ((g₃.trans g₄).trans g₅)) rb'))) ?_;intros u' s₆ φ₆ st6 S₆ g₆ p27_;obtain⟨d',rd',h6⟩:_:=p27_;exact wpAny_holding (tr S₆ rd' h6)
theorem R3 {l m r:Expr} {op1 op2:CmpOp} {pos:Pos} (hm:lastMarks [op1,op2] [m,r]=false)
  (h:WE B nm nN n sc l ρ (fun a st₁=>WE B nm nN n sc m ρ (fun b st2=>yl B (compareOp op1) a b (xR fun t st₃=>if t then WE B nm nN n sc r ρ (fun d st4=>yl B (compareOp op2) b d (xR QT) st4) X st₃ else QT false st₃) st2) X st₁) X st) :
  WE B nm nN n sc (.Compare l [op1,op2] [m,r] pos) ρ (xR QT) X st:=by
 revert B nm nN n sc ρ X QT st l m r op1 op2 pos hm h
 intros B nm nN n sc ρ X QT st l m r op1 op2 pos hm h;refine⟨?_⟩;intros c s φ O hs S F;show wpAny _ _ (do compareChain pos (<-eval l c.env) [op1,op2] (markedEach [op1,op2] [m,r] (evalEach [m,r] c.env))) _ _ s;rw[markedEach_of_false _ _ _ hm];refine ye (h.run c s φ O hs S F) ?_;intros v s₁ φ₁ st₁ S₁ g₁ p28_;obtain⟨a,ra,h1⟩:_:=p28_;refine ye (wpAny_holding (h1.run c s₁ φ₁ O hs S₁ (F.go O g₁))) ?_;intros w s₂ φ₂ st2 S₂ g₂ p29_;obtain⟨b,rb,h₂⟩:_:=p29_;have g₁₂:=g₁.trans g₂;refine wpAny_bind (wpAny_standAt ?_);refine ye (wpAny_holding (v6 (h₂ c.A c.P s₂ φ₂ v w O.handled O.room S₂ (ra.go g₂) rb))) ?_;intros u s₃ φ₃ st₃ S₃ g₃ p30_;obtain⟨d,rd,h₃⟩:_:=p30_;refine wpAny_bind (tG ?_);obtain⟨t,rfl,h₃⟩:_:=h₃;subst rd;refine wpAny_bind (wpAny_holding (wpAny_truthy_bool ?_))
 cases t with
 | false=>exact wpAny_pure (z8 S₃ ⟨.bool false,rfl,false,rfl,h₃⟩)
 | true =>
  refine ye (wpAny_holding (h₃.run c s₃ φ₃ O hs S₃ (F.go O (g₁₂.trans g₃)))) ?_;intros w' s₅ φ₅ st₅ S₅ g₅ p31_;obtain⟨b',rb',h5⟩:_:=p31_;exact wpAny_bind (wpAny_standAt (xt (v6 (h5 c.A c.P s₅ φ₅ w w' O.handled O.room S₅ (rb.go (g₃.trans g₅)) rb'))))
theorem qa {x:Expr} {pos:Pos} (h:WT B nm nN n sc x ρ (fun b st₁=>QT (!b) st₁) X st):WT B nm nN n sc (.UnaryOp .Not x pos) ρ QT X st:=by
 refine⟨fun c s φ O hs S F=>?_⟩;exact ye (h.run c s φ O hs S F) fun b s₁ φ₁ st₁ S₁ g₁ h1=>wpAny_pure (z8 S₁ h1)
theorem wa {pos:Pos} (h:QT true st):WT B nm nN n sc (.BoolOp .And [] pos) ρ QT X st:=⟨fun c s φ O hs S F=>isTrue_and_nil (z8 S h)⟩
theorem xi {pos:Pos} (h:QT false st):WT B nm nN n sc (.BoolOp .Or [] pos) ρ QT X st:=⟨fun c s φ O hs S F=>isTrue_or_nil (z8 S h)⟩
theorem xJ {x:Expr} {rest:List Expr} {pos:Pos} (h:WT B nm nN n sc x ρ (fun b st₁=>if b then WT B nm nN n sc (.BoolOp .And rest pos) ρ QT X st₁ else QT false st₁) X st):WT B nm nN n sc (.BoolOp .And (x::rest) pos) ρ QT X st:=by
 revert B nm nN n sc ρ X QT st x rest pos h
 intros B nm nN n sc ρ X QT st x rest pos h;refine⟨?_⟩;intros c s φ O hs S F;refine isTrue_and ?_;refine wpAny_mono (h.run c s φ O hs S F) ?_ fun z z y=>y;intros b s₁ p32_;obtain⟨φ₁,st₁,S₁,g₁,h1⟩:_:=p32_
 cases b with
 | false=>exact zV φ₁ st₁ S₁ g₁ h1
 | true=>exact after g₁ (h1.run c s₁ φ₁ O hs S₁ (F.go O g₁))
theorem xE {x:Expr} {rest:List Expr} {pos:Pos} (h:WT B nm nN n sc x ρ (fun b st₁=>if b then QT true st₁ else WT B nm nN n sc (.BoolOp .Or rest pos) ρ QT X st₁) X st):WT B nm nN n sc (.BoolOp .Or (x::rest) pos) ρ QT X st:=by
 revert B nm nN n sc ρ X QT st x rest pos h
 intros B nm nN n sc ρ X QT st x rest pos h;refine⟨?_⟩;intros c s φ O hs S F;refine isTrue_or ?_;refine wpAny_mono (h.run c s φ O hs S F) ?_ fun z z y=>y;intros b s₁ p33_;obtain⟨φ₁,st₁,S₁,g₁,h1⟩:_:=p33_
 cases b with
 | true=>exact zV φ₁ st₁ S₁ g₁ h1
 | false=>exact after g₁ (h1.run c s₁ φ₁ O hs S₁ (F.go O g₁))
theorem xu {e:Expr} (he:∀env whole,isTrue e env whole=(do let v <-whole;standAt e.pos;holding [v] (truthy v))) (h:WE B nm nN n sc e ρ (xR QT) X st):WT B nm nN n sc e ρ QT X st:=by
 refine⟨fun c s φ O hs S F=>?_⟩;rw[he];refine ye (h.run c s φ O hs S F) fun v s₁ φ₁ st₁ S₁ g₁ zz=>zn zz fun a ra h1=>?_;exact wpAny_bind (wpAny_standAt (wpAny_holding (tr S₁ ra h1)))
theorem yE {t a b:Expr} {pos:Pos} (h:WT B nm nN n sc t ρ (fun d st₁=>if d then WE B nm nN n sc a ρ Q X st₁ else WE B nm nN n sc b ρ Q X st₁) X st):WE B nm nN n sc (.IfExp t a b pos) ρ Q X st:=by
 revert B nm nN n sc ρ Q X st t a b pos h
 intros B nm nN n sc ρ Q X st t a b pos h;refine⟨?_⟩;intros c s φ O hs S F;refine IfExp_ (wpAny_mono (h.run c s φ O hs S F) ?_ fun z z y=>y);intros d s₁ p34_;obtain⟨φ₁,st₁,S₁,g₁,h1⟩:_:=p34_
 cases d with
 | false=>exact after g₁ (h1.run c s₁ φ₁ O hs S₁ (F.go O g₁))
 | true=>exact after g₁ (h1.run c s₁ φ₁ O hs S₁ (F.go O g₁))
theorem SD {x y:Expr} {pos:Pos} (h:WE B nm nN n sc x ρ (xR fun b st₁=>if b then WE B nm nN n sc y ρ Q X st₁ else Q (.bool false) st₁) X st):WE B nm nN n sc (.BoolOp .And [x,y] pos) ρ Q X st:=by
 refine⟨fun c s φ O hs S F=>?_⟩;refine ye (h.run c s φ O hs S F) fun v s₁ φ₁ st₁ S₁ g₁ ⟨a,ra,b,hb,h1⟩=>?_;subst hb;subst ra;refine wpAny_bind (wpAny_standAt (wpAny_bind (wpAny_holding (wpAny_truthy_bool ?_))))
 cases b with
 | false=>exact wpAny_pure (z8 S₁ ⟨.bool false,rfl,h1⟩)
 | true=>exact h1.run c s₁ φ₁ O hs S₁ (F.go O g₁)
end
structure xo (S P:List Addr) (h h':Heap):Prop where
 keep:∀b o,h.get? b=some o->b∉S->b∉P->h'.get? b=some o
 prot:∀b o,h.get? b=some o->b∈P->b∉S->∃sl,h'.get? b=some { o with slots:=sl }
 recs:∀b o,h.get? b=some o->b∈S->∃ws,o.data = .fields ws
 dom:∀b o,h.get? b=some o->∃o',h'.get? b=some o'
structure w3 (S P:List Addr) (h h':Heap):Prop where
 keep:∀b o,h.get? b=some o->b∉S->b∉P->h'.get? b=some o
 prot:∀b o,h.get? b=some o->b∈P->b∉S->∃sl,h'.get? b=some { o with slots:=sl }
 recs:∀b o,h.get? b=some o->b∈S->∃ws,o.data = .fields ws
theorem xo.weak {S P:List Addr} {h h':Heap} (t:xo S P h h'):w3 S P h h':=⟨t.keep,t.prot,t.recs⟩
section
variable {B:Base} {S P ex:List Addr} {h h' h₀:Heap} {φ φ₀:List Addr}
theorem xo.refl:xo [] P h h:=⟨fun y y e y y=>e,fun b o e y y=>⟨o.slots,e⟩,by simp,fun b o e=>⟨o,e⟩⟩
theorem w3.stays (t:w3 S P h h') {b:Addr} {o:Obj} (e:h.get? b=some o) (hn:∀ws,o.data ≠ .fields ws) (hP:b∉P):h'.get? b=some o :=
 t.keep b o e (fun q=>zX (t.recs b o e q) fun ws z=>hn ws z) hP
theorem w3.slots (t:w3 S P h h') {b:Addr} {o:Obj} (e:h.get? b=some o) (hn:∀ws,o.data ≠ .fields ws):∃sl,h'.get? b=some { o with slots:=sl }:=by
 have hS:b∉S:=fun q=>let ⟨ws,z⟩:=t.recs b o e q;hn ws z
 by_cases hP:b∈P
 ·exact t.prot b o e hP hS
 ·exact⟨o.slots,t.keep b o e hS hP⟩
theorem w3.mp (t:w3 S P h h'):Mp h h' φ φ P P:=⟨fun y y e=>e,fun y y e hd h1 h2=>(d3_ (t.stays e hd h2) h1 h2)⟩
theorem wk.turnW (t:w3 S P h h') {x:Addr} {vs:List Value} (i:wk B h φ P x vs):wk B h' φ P x vs:=wk.map t.mp i
theorem VR.turnW (t:w3 S P h h') {a:AV} {v:Value} (e:VR B h φ P a v):VR B h' φ P a v:=VR.map t.mp e
theorem VRs.turnW (t:w3 S P h h') {l:List AV} {vs:List Value} (e:VRs B h φ P l vs):VRs B h' φ P l vs:=VRs.map t.mp e
theorem OR.turnW (t:w3 S P h h') {a:Addr} (ha:a∉P) {o:AO} (x:OR B h φ P a o):OR B h' φ P a o:=OR.map t.mp (fun y e hd=>t.stays e hd ha) x
theorem SR.turnW {s:Shared} {st:St} (X:SR B s φ P st) (t:w3 S P s.heap h') (hd:∀a∈P,∀o,s.heap.get? a=some o->∃o',h'.get? a=some o') (hS:∀b∈S,B.H₀.get? b=none) {tk:Nat}:SR B { s with heap:=h',toks:=tk } φ P st:=by
 refine⟨fun b o e=>t.keep b o (X.base b o e) (fun q=>?_) (fun q=>?_),X.gens,X.os,X.len,fun n a o e1 e2=>(X.objs n a o e1 e2).turnW t (X.apart a (List.mem_of_getElem? e1)),X.nodup,X.newφ,X.newP,X.apart,fun a ha=>?_⟩
 ·rw[hS b q]at e;cases e
 ·rw[X.newP b q]at e;cases e
 ·obtain⟨o,e⟩:=X.domP a ha;exact hd a ha o e
theorem Go.turnW (g:Go P ex h₀ φ₀ h φ) (t:w3 S P h h') (hd:∀b o,h.get? b=some o->b∉S->∃o',h'.get? b=some o') (hS:∀b∈S,h₀.get? b=none):Go P ex h₀ φ₀ h' φ:=by
 have out:∀{b:Addr} {o:Obj},h₀.get? b=some o->b∉S:=fun {b o} e q=>by rw[hS b q]at e;cases e
 refine⟨fun b o e hp hP=>t.keep b o (g.keep b o e hp hP) (out e) hP,fun b o e hP hx=>?_,fun b o e=>?_,g.ext⟩
 ·refine zX (g.prot b o e hP hx) fun sl e'=>?_;refine zX (t.prot b _ e' hP (out e)) fun sl' e''=>?_;exact⟨sl',e''⟩
 ·refine zX (g.dom b o e) fun o' e'=>?_;exact hd b o' e' (out e)
theorem FR.turnW {nm:Nat->Str} {nN:Nat} {c:Cx} {ρ:Rho} (F:FR B nm nN h φ c ρ) (t:w3 S c.P h h'):FR B nm nN h' φ c ρ :=
 F.map t.mp rfl rfl fun y y y e hd=>t.slots e hd
theorem xo.stays (t:xo S P h h') {b:Addr} {o:Obj} (e:h.get? b=some o) (hn:∀ws,o.data ≠ .fields ws) (hP:b∉P):h'.get? b=some o:=t.weak.stays e hn hP
theorem xo.slots (t:xo S P h h') {b:Addr} {o:Obj} (e:h.get? b=some o) (hn:∀ws,o.data ≠ .fields ws):∃sl,h'.get? b=some { o with slots:=sl }:=t.weak.slots e hn
theorem VR.turn (t:xo S P h h') {a:AV} {v:Value} (e:VR B h φ P a v):VR B h' φ P a v:=e.turnW t.weak
theorem VRs.turn (t:xo S P h h') {a:List AV} {v:List Value} (e:VRs B h φ P a v):VRs B h' φ P a v:=e.turnW t.weak
theorem SR.turnX {s:Shared} {st:St} (X:SR B s φ P st) (t:xo S P s.heap h') (hS:∀b∈S,B.H₀.get? b=none) {tk:Nat}:SR B { s with heap:=h',toks:=tk } φ P st:=X.turnW t.weak (fun a y o e=>t.dom a o e) hS
theorem Go.turnX (g:Go P ex h₀ φ₀ h φ) (t:xo S P h h') (hS:∀b∈S,h₀.get? b=none):Go P ex h₀ φ₀ h' φ:=g.turnW t.weak (fun b o e y=>t.dom b o e) hS
theorem FR.turnX {nm:Nat->Str} {nN:Nat} {c:Cx} {ρ:Rho} (F:FR B nm nN h φ c ρ) (t:xo S c.P h h'):FR B nm nN h' φ c ρ:=F.turnW t.weak
end
theorem tL.st {B:Base} {h₀ h:Heap} {φ P:List Addr} {L:Addr} {x:Value} {told:AV} (e:tL B h₀ h φ P L x told):∃fs,x_ B h₀ h φ P x told fs/\(fs=none\/fs=some .none\/fs=some (rawInt L)):=e
theorem x_.in {B:Base} {h₀ h:Heap} {φ P:List Addr} {L:Addr} {x:Value} {told:AV} {fs:Option Value} (e:x_ B h₀ h φ P x told fs) (hf:fs=none\/fs=some .none\/fs=some (rawInt L)):tL B h₀ h φ P L x told:=zw fs e hf
section
variable {B:Base} {nm:Nat->Str} {nN n:Nat} {ρ:Rho} {st:St} {M:Model} {E:Value->Shared->Prop} {s:Shared} {φ:List Addr}
theorem Yi {h:Heap}:∀{l:List Env},(∀e∈l,e.scope.kind ≠ .module /\ ∃L o,e.frame=some L/\h.get? L=some o /\ ∀vs,o.data ≠ .fields vs)->h.FunFrames {} l:=by
 intro l_
 induction l_ with
 | nil =>
  intro _;exact trivial
 | cons e r ih_ =>
  intro H;refine xn (H e (.head _)) fun hk n1z=>?_;refine xH (n1z) fun L o hf ho hd=>?_;try clear n1z;exact d3_ hk (Wh L o hf rfl ho hd) (ih_ fun e' he'=>H e' (.tail _ he'))
theorem Zn {A:Around} {env:Env} {outer:List Env} {P:List Addr} {L e:Addr} {oe:Obj} {vs:Array Value} {head:Value} {hadNext:Bool} {Q:Unit->Shared->Prop}
  (hfr:A.frames=some (env::outer)) (hl:∀e∈env::outer,e.scope.kind ≠ .module /\ ∃L o,e.frame=some L/\s.heap.get? L=some o/\(∀vs,o.data ≠ .fields vs)/\L∈P) (hf:env.frame=some L)
  (hdP:∀a∈P,∃o,s.heap.get? a=some o) (he:s.heap.get? e=some oe) (hP:e∉P) (hd:oe.data = .fields vs) (hsz:1<vs.size)
  (h:∀h' T oe' oT ts,xo [e] P s.heap h'->h'.get? e=some oe'->oe'.cls=oe.cls->oe'.dict=oe.dict->oe'.data = .fields (vs.setIfInBounds 1 (.ref T))->s.heap.get? T=none->h'.get? T=some oT->oT.data = .fields ts->ts[3]?=some (rawInt L)->T∉P ->
   Q () { s with heap:=h' }) (env':Env) (he':env'.frame=env.frame) :
  wpAny M A (do let a <-PySem.frameOf env';let pl <-entryPlaceOf L hadNext;let b <-EntryCells.newEntry head a .none (rawInt L) .none pl;setField (.ref e) 1 b) Q E s:=by
 revert M E s A env outer P L e oe vs head hadNext Q hfr hl hf hdP he hP hd hsz h env' he'
 intros M E s A env outer P L e oe vs head hadNext Q hfr hl hf hdP he hP hd hsz h env' he'
 have hl':s.heap.FunFrames {} (env::outer):=Yi fun e he=>let ⟨a,L,o,b,c,d,_⟩:=hl e he;⟨a,L,o,b,c,d⟩
 have memP:∀b∈(env::outer).filterMap (fun x=>x.frame),b∈P:=by
  intros b hb;obtain⟨x,hx,hxf⟩:_:=List.mem_filterMap.mp hb;obtain⟨_,L',o,q,_,_,hp⟩:_:=hl x hx;rw[hxf]at q;cases q;exact hp
 have hene:e∉(env::outer).filterMap (fun x=>x.frame):=fun hm=>hP (memP e hm)
 have fo:PySem.frameOf env'=PySem.frameOf env:=by unfold PySem.frameOf;rw[he']
 rw[fo];refine wpAny_bind (wpAny_frameOf_fun hfr hl' hf ?_);intros h1 hs1;refine wpAny_bind (wpAny_entryPlaceOf ?_);intros pl hpl;refine wpAny_bind (wpAny_newObj_type ?_ (hpl.sizeOk5 _ _ _ _ _));have he1:h1.get? e=some oe:=(hs1.2.1 e hene).trans he;have he₂:=Heap.get?_push_of_some (h:=h1) { cls:=.type "traceback",dict:=none,data:=.fields ([head,.ref L,.none,rawInt L,.none]++(if pl.isEmpty then List.replicate 6 Value.none else pl)).toArray } he1;refine wpAny_setField he₂ hd hsz ?_;have hTe:h1.objs.size≠e:=Nat.ne_of_gt (Heap.lt_size he1);have hd₃:=Obj.data_mapFields hd (·.setIfInBounds 1 (Value.ref h1.objs.size));have he₃:=Heap.get?_update_self (Obj.mapFields (·.setIfInBounds 1 (Value.ref h1.objs.size))) he₂ (Obj.isFreed_of_fields hd₃)
 have hT₃:=(Heap.get?_update_other (h1.push { cls:=.type "traceback",dict:=none,data:=.fields ([head,.ref L,.none,rawInt L,.none]++(if pl.isEmpty then List.replicate 6 Value.none else pl)).toArray })
  (Obj.mapFields (·.setIfInBounds 1 (Value.ref h1.objs.size))) (Ne.symm hTe)).trans (Heap.get?_push_size h1 rfl)
 have keep:∀b o,b≠e->h1.get? b=some o ->
   ((h1.push { cls:=.type "traceback",dict:=none,data:=.fields ([head,.ref L,.none,rawInt L,.none]++(if pl.isEmpty then List.replicate 6 Value.none else pl)).toArray }).update e (Obj.mapFields (·.setIfInBounds 1 (Value.ref h1.objs.size)))).get? b=some o :=
  fun b o hbe hb=>by
   rw[Heap.get?_update_other _ _ (Ne.symm hbe)];exact Heap.get?_push_of_some _ hb
 have newT:s.heap.get? h1.objs.size=none:=by
  rcases tF (s.heap.get? h1.objs.size)with q | w1_
  ·try rewrite[q]
   rfl
  ·obtain⟨o,q⟩:_:=w1_
   try rewrite[q]
   have:=Heap.lt_size q;rw[<-hs1.1]at this;exact absurd this (Nat.lt_irrefl _)
 have dictE:(Obj.mapFields (·.setIfInBounds 1 (Value.ref h1.objs.size)) oe).dict=oe.dict:=by
  obtain⟨c,d,dt,sl⟩:_:=oe
  cases dt<;>rfl
 refine h _ h1.objs.size _ _ _ ⟨fun b o hb hbS hbP=>?_,fun b o hb hbP hbS=>?_,fun b o hb hbS=>?_,fun b o hb=>?_⟩ he₃ (Obj.cls_mapFields _ _) dictE hd₃ newT hT₃ rfl (by first | (exact rfl;done) | (rcases hpl with rfl | ⟨_,_,_,_,_,_,_,rfl⟩<;>simp)) ?_
 ·exact keep b o (fun q=>hbS (List.mem_singleton.mpr q)) ((hs1.2.1 b fun q=>hbP (memP b q)).trans hb)
 ·obtain⟨sl,e'⟩:=hs1.2.2 b o hb;exact⟨sl,keep b _ (fun q=>hbS (List.mem_singleton.mpr q)) e'⟩
 ·obtain rfl:=List.mem_singleton.mp hbS;rw[he]at hb;cases hb;exact⟨vs,hd⟩
 ·by_cases q:b=e
  ·subst q;exact⟨_,he₃⟩
  ·obtain⟨sl,e'⟩:=hs1.2.2 b o hb;exact⟨_,keep b _ q e'⟩
 ·intros hq;obtain⟨o,ho⟩:_:=hdP _ hq;rw[newT]at ho;cases ho
theorem Cx.Ok.frs {c:Cx} (O:c.Ok n) (F:FR B nm nN s.heap φ c ρ):∃fenv outer,c.A.frames=some (fenv::outer)/\fenv.frame=some c.L /\
  ∀e∈fenv::outer,e.scope.kind ≠ .module /\ ∃L o,e.frame=some L/\s.heap.get? L=some o/\(∀vs,o.data ≠ .fields vs)/\L∈c.P:=by
 revert B nm nN n ρ s φ c O F
 intros B nm nN n ρ s φ c O F;obtain⟨fenv,outer,h1,h2,h3⟩:_:=O.frames;refine zV fenv outer h1 h2 ?_;intros e he;obtain⟨a,L,b,d⟩:_:=h3 e he;obtain⟨o,ho,hd⟩:_:=F.fo _ h1 e he L b;exact⟨a,L,o,b,ho,hd,d⟩
theorem xo.trans {S P:List Addr} {h1 h₂ h₃:Heap} (a:xo S P h1 h₂) (b:xo S P h₂ h₃):xo S P h1 h₃:=by
 refine⟨fun x o e hS hP=>b.keep x o (a.keep x o e hS hP) hS hP,fun x o e hP hS=>?_,a.recs,fun x o e=>?_⟩
 ·refine zX (a.prot x o e hP hS) fun sl e'=>?_;refine zX (b.prot x _ e' hP hS) fun sl' e''=>?_;exact⟨sl',e''⟩
 ·refine zX (a.dom x o e) fun o' e'=>?_;exact b.dom x o' e'
theorem XD {h:Heap} {P:List Addr} {a:Addr} {o:Obj} {vs:Array Value} {f:Array Value->Array Value} (ha:h.get? a=some o) (hd:o.data = .fields vs):xo [a] P h (h.update a (Obj.mapFields f)):=by
 have other:∀b,b≠a->(h.update a (Obj.mapFields f)).get? b=h.get? b:=fun b hb=>Heap.get?_update_other _ _ (Ne.symm hb);refine⟨fun b o' e hS y=>(other b (fun q=>hS (List.mem_singleton.mpr q))).trans e,fun b o' e y hS=>⟨o'.slots,(other b (fun q=>hS (List.mem_singleton.mpr q))).trans e⟩,fun b o' e hS=>?_,fun b o' e=>?_⟩
 ·obtain rfl:=List.mem_singleton.mp hS;rw[ha]at e;cases e;exact⟨vs,hd⟩
 ·by_cases q:b=a
  ·subst q;exact⟨_,Heap.get?_update_self _ ha (Obj.isFreed_of_fields (Obj.data_mapFields hd _))⟩
  ·exact⟨o',(other b q).trans e⟩
theorem xo.mono {S S' P:List Addr} {h h':Heap} (t:xo S P h h') (hs:∀b∈S,b∈S') (hr:∀b o,h.get? b=some o->b∈S'->∃ws,o.data = .fields ws):xo S' P h h' :=
 ⟨fun b o e q=>t.keep b o e fun z=>q (hs b z),fun b o e hP q=>t.prot b o e hP fun z=>q (hs b z),hr,t.dom⟩
theorem km {c:Cx} {h₀:Heap} {x:Value} {told:AV} {Q:Unit->Shared->Prop} (O:c.Ok n) (S:SR B s φ c.P st) (F:FR B nm nN s.heap φ c ρ) (ein:tL B h₀ s.heap φ c.P c.L x told) (hH:∀b,h₀.get? b=none->B.H₀.get? b=none) (hdom:∀b o,h₀.get? b=some o->∃o',s.heap.get? b=some o')
  (h:∀h' SS,xo SS c.P s.heap h'->(∀b∈SS,h₀.get? b=none)->x_ B h₀ h' φ c.P x told (some (rawInt c.L))->Q () { s with heap:=h' }):wpAny M c.A (noteFrame x c.env) Q E s:=by
 revert B nm nN n ρ st M E s φ c h₀ x told Q O S F ein hH hdom h
 intros B nm nN n ρ st M E s φ c h₀ x told Q O S F ein hH hdom h;obtain⟨fs,ex,hfs⟩:_:=ein.st;obtain⟨fenv,outer,hfr,hff,hl⟩:_:=O.frs F;obtain⟨e,oe,d,od,vs,v,rfl,⟨a1,a2,a3,a4,a5,a6,a7,a8,a9,a10,a11,a12,a13⟩,a14,a15⟩:_:=id ex
 have back:∀T,s.heap.get? T=none->h₀.get? T=none:=by
  intros T hT
  rcases tF (h₀.get? T)with q | w1_
  ·try rewrite[q]
   rfl
  ·obtain⟨o,q⟩:_:=w1_
   try rewrite[q]
   obtain⟨o',e'⟩:_:=hdom T o q;rw[hT]at e';cases e'
 have newφ:∀T,s.heap.get? T=none->T∉φ:=by
  intros T hT hm;obtain⟨o,e'⟩:_:=S.memDom hm;rw[hT]at e';cases e'
 have hd1:∀(h':Heap) (SS:List Addr),xo SS c.P s.heap h'->h'.get? d=some od:=fun h' SS t=>t.stays a10 a11 a8
 have sz:1<vs.size:=by
  rcases hfs with rfl | rfl | rfl
  ·exact(Array.getElem?_eq_some_iff.mp a15).1
  ·obtain⟨T,oT,ts,b1,_⟩:_:=a15;exact(Array.getElem?_eq_some_iff.mp b1).1
  ·obtain⟨T,oT,ts,b1,_⟩:_:=a15;exact(Array.getElem?_eq_some_iff.mp b1).1
 unfold noteFrame;simp only[O.frame]
 rcases hfs with rfl | rfl | rfl
 ·refine wpAny_bind (wpAny_field a4 a14 a15 ?_);rw[if_neg (by decide)];refine Zn hfr hl hff S.domP a4 a3 a14 sz (?_) c.env (O.frame.trans hff.symm);intros h' T oe' oT ts t he' hc hdi hd' hT hT' hts h3 hTP;refine h h' [e] t (by simpa using a1) (Qm e oe' d od _ v rfl ⟨a1,a2,a3,he',hc.trans a5,hdi.trans a6,a7,a8,a9,hd1 _ _ t,a11,a12,a13.turn t⟩ hd' ⟨T,oT,ts,by simp[sz],?_,back T hT,newφ T hT,hTP,hT',hts,h3⟩)
  rintro rfl;rw[hT]at a4;cases a4
 ·obtain⟨T,oT,ts,b1,b2,b3,b4,b5,b6,b7,b8⟩:_:=a15;refine wpAny_bind (wpAny_field a4 a14 b1 ?_);rw[if_pos (show (Value.ref T != Value.none)=true from by exact rfl)];refine wpAny_bind (wpAny_field b6 b7 b8 ?_);rw[if_neg (show ¬((Value.none==rawInt c.L)=true) from by exact nofun)];refine wpAny_bind (wpAny_setField b6 b7 (Array.getElem?_eq_some_iff.mp b8).1 ?_);have t1:xo [T] c.P s.heap (s.heap.update T (Obj.mapFields (fun x=>x.setIfInBounds 3 Value.none))):=XD b6 b7
  have S₁:SR B { s with heap:=s.heap.update T (Obj.mapFields (fun x=>x.setIfInBounds 3 Value.none)),toks:=s.toks } φ c.P st:=S.turnX t1 (fun b hb=>by
   obtain rfl:=List.mem_singleton.mp hb
   exact hH _ b3)
  have he1:(s.heap.update T (Obj.mapFields (fun x=>x.setIfInBounds 3 Value.none))).get? e=some oe:=(Heap.get?_update_other _ _ b2).trans a4;refine Zn (s:={ s with heap:=s.heap.update T (Obj.mapFields (fun x=>x.setIfInBounds 3 Value.none)) }) hfr (?_) hff S₁.domP he1 a3 a14 sz (?_) c.env (O.frame.trans hff.symm)
  ·intros env henv;obtain⟨k1,L,o,k2,k3,k4,k5⟩:_:=hl env henv;obtain⟨sl,e'⟩:_:=t1.slots k3 k4;exact⟨k1,L,_,k2,e',k4,k5⟩
  ·intros h' T' oe' oT' ts' t he' hc hdi hd' hT hT' hts h3 hTP
   have rec2:∀b o,s.heap.get? b=some o->b∈[e,T]->∃ws,o.data = .fields ws:=by
    intros b o e' hb
    rcases List.mem_cons.mp hb with rfl | hb
    ·rw[a4]at e';cases e';exact⟨_,a14⟩
    ·obtain rfl:=List.mem_singleton.mp hb;rw[b6]at e';cases e';exact⟨_,b7⟩
   have rec3:∀b o,(s.heap.update T (Obj.mapFields (fun x=>x.setIfInBounds 3 Value.none))).get? b=some o->b∈[e,T]->∃ws,o.data = .fields ws:=by
    intros b o e' hb
    rcases List.mem_cons.mp hb with rfl | hb
    ·rw[he1]at e';cases e';exact⟨_,a14⟩
    ·obtain rfl:=List.mem_singleton.mp hb;have q:=Heap.get?_update_self (Obj.mapFields (fun x=>x.setIfInBounds 3 Value.none)) b6 (Obj.isFreed_of_fields (Obj.data_mapFields b7 _));rw[q]at e';cases e';exact⟨_,Obj.data_mapFields b7 _⟩
   have t2:xo [e,T] c.P s.heap h':=(t1.mono (fun y h=>.tail _ h) rec2).trans (t.mono (fun i h=>(List.mem_singleton.mp h) ▸ .head _) rec3)
   have hTn:s.heap.get? T'=none:=by
    rcases tF (s.heap.get? T')with q | w2_
    ·try rewrite[q]
     rfl
    ·obtain⟨o,q⟩:_:=w2_
     try rewrite[q]
     obtain⟨o',e'⟩:_:=t1.dom T' o q;rw[hT]at e';cases e'
   refine h h' [e,T] t2 (by simp[a1,b3]) (Qm e oe' d od _ v rfl ⟨a1,a2,a3,he',hc.trans a5,hdi.trans a6,a7,a8,a9,hd1 _ _ t2,a11,a12,a13.turn t2⟩ hd' ⟨T',oT',ts',by simp[sz],?_,back T' hTn,newφ T' hTn,hTP,hT',hts,h3⟩)
   rintro rfl;rw[hTn]at a4;cases a4
 ·obtain⟨T,oT,ts,b1,b2,b3,b4,b5,b6,b7,b8⟩:_:=id a15;refine wpAny_bind (wpAny_field a4 a14 b1 ?_);rw[if_pos (show (Value.ref T != Value.none)=true from by exact rfl)];refine wpAny_bind (wpAny_field b6 b7 b8 ?_);rw[if_pos (show (rawInt c.L==rawInt c.L)=true from by exact if_pos rfl)];exact wpAny_pure (h s.heap [] xo.refl (nn) ex)
end
inductive Fl where
 | next | cont | ret (a:AV)
section
variable (B:Base) (nm:Nat->Str) (nN:Nat)
noncomputable def PoS (c:Cx) (h:Heap) (φ:List Addr) (R:Fl->Rho->St->Prop):Flow->Shared->Prop:=fun f s' =>
 ∃φ' st' ρ',SR B s' φ' c.P st'/\Go c.P c.own h φ s'.heap φ'/\FR B nm nN s'.heap φ' c ρ'/\match f with
  | .next=>R .next ρ' st'
  | .cont=>R .cont ρ' st'
  | .brk=>False
  | .ret v=>∃a,VR B s'.heap φ' c.P a v/\R (.ret a) ρ' st'
noncomputable def ExS (c:Cx) (h:Heap) (φ:List Addr) (X:AV->Rho->St->Prop):Value->Shared->Prop:=fun x s' =>
 ∃φ' st' ρ' told,SR B s' φ' c.P st'/\Go c.P c.own h φ s'.heap φ'/\FR B nm nN s'.heap φ' c ρ'/\tL B h s'.heap φ' c.P c.L x told/\X told ρ' st'
end
section
variable {B:Base} {nm:Nat->Str} {nN n:Nat} {ρ:Rho} {st:St} {M:Model} {E:Value->Shared->Prop} {s:Shared} {φ:List Addr}
theorem vq {A:Around} {P:List Addr} {h₀:Heap} {x:Value} {told:AV} {fl:Value} {f:Option Addr} {Q:Unit->Shared->Prop} (ex:x_ B h₀ s.heap φ P x told (some fl))
  (h:∀h' SS,xo SS P s.heap h'->(∀b∈SS,h₀.get? b=none)->x_ B h₀ h' φ P x told (some (f.elim .none fun f=>rawInt f))->Q () { s with heap:=h' }):wpAny M A (setFlight x f) Q E s:=by
 revert B M E s φ A P h₀ x told fl f Q ex h
 intros B M E s φ A P h₀ x told fl f Q ex h;obtain⟨e,oe,d,od,vs,v,rfl,⟨a1,a2,a3,a4,a5,a6,a7,a8,a9,a10,a11,a12,a13⟩,a14,T,oT,ts,b1,b2,b3,b4,b5,b6,b7,b8⟩:_:=id ex;refine wpAny_bind (wpAny_field a4 a14 b1 ?_);rw[if_pos (show (Value.ref T != Value.none)=true from by exact rfl)];have sz:=(Array.getElem?_eq_some_iff.mp b8).1;refine wpAny_setField b6 b7 sz ?_;have t:xo [T] P s.heap (s.heap.update T (Obj.mapFields (·.setIfInBounds 3 (f.elim Value.none fun f=>rawInt f)))):=XD b6 b7
 refine h _ [T] t (by simp[b3]) ⟨e,oe,d,od,vs,v,rfl,⟨a1,a2,a3,(Heap.get?_update_other _ _ b2).trans a4,a5,a6,a7,a8,a9,t.stays a10 a11 a8,a11,a12,a13.turn t⟩,a14,T,_,_,b1,b2,b3,b4,b5,
  Heap.get?_update_self _ b6 (Obj.isFreed_of_fields (Obj.data_mapFields b7 _)),Obj.data_mapFields b7 _,by simp[sz]⟩
theorem Zv {c:Cx} {h₀:Heap} {x:Value} {told:AV} {Q:Unit->Shared->Prop} (O:c.Ok n) (S:SR B s φ c.P st) (F:FR B nm nN s.heap φ c ρ) (ein:tL B h₀ s.heap φ c.P c.L x told) (hH:∀b,h₀.get? b=none->B.H₀.get? b=none) (hdom:∀b o,h₀.get? b=some o->∃o',s.heap.get? b=some o')
  (h:∀h' SS,xo SS c.P s.heap h'->(∀b∈SS,h₀.get? b=none)->x_ B h₀ h' φ c.P x told (some .none)->Q () { s with heap:=h' }):wpAny M c.A (leaving c.env x) Q E s:=by
 refine wpAny_bind (km O S F ein hH hdom fun h₁ SS t1 n1 e1=>?_);refine vq (s:={ s with heap:=h₁ }) e1 fun h₂ S₂ t2 n2 e2=>?_;have rec1:∀b o,s.heap.get? b=some o->b∈SS++S₂->(b∈SS->∃ws,o.data = .fields ws):=fun b o e z hb=>t1.recs b o e hb
 have t:xo (SS++S₂.filter fun b=>(s.heap.get? b).isSome) c.P s.heap h₂:=by
  refine⟨fun b o e hS hP=>?_,fun b o e hP hS=>?_,fun b o e hb=>?_,fun b o e=>?_⟩
  ·have h1:b∉SS:=fun q=>hS (List.mem_append_left _ q);have h2:b∉S₂:=fun q=>hS (List.mem_append_right _ (List.mem_filter.mpr ⟨q,by rw[e];rfl⟩));exact t2.keep b o (t1.keep b o e h1 hP) h2 hP
  ·have h1:b∉SS:=fun q=>hS (List.mem_append_left _ q);have h2:b∉S₂:=fun q=>hS (List.mem_append_right _ (List.mem_filter.mpr ⟨q,by rw[e];rfl⟩));obtain⟨sl,e'⟩:=t1.prot b o e hP h1;obtain⟨sl',e''⟩:=t2.prot b _ e' hP h2;exact⟨sl',e''⟩
  ·rcases List.mem_append.mp hb with hb | hb
   ·exact t1.recs b o e hb
   ·have hb:=(List.mem_filter.mp hb).1
    by_cases q:b∈SS
    ·exact t1.recs b o e q
    ·by_cases hP:b∈c.P
     ·obtain⟨sl,e'⟩:=t1.prot b o e hP q;obtain⟨ws,hw⟩:=t2.recs b _ e' hb;exact⟨ws,hw⟩
     ·exact t2.recs b o (t1.keep b o e q hP) hb
  ·obtain⟨o',e'⟩:=t1.dom b o e;exact t2.dom b o' e'
 exact h h₂ _ t (fun b hb=>by
  rcases List.mem_append.mp hb with hb | hb
  ·exact n1 b hb
  ·exact n2 b (List.mem_filter.mp hb).1) e2
theorem Z_ {c:Cx} {h₀:Heap} {x:Value} {told:AV} (O:c.Ok n) (ex:x_ B h₀ s.heap φ c.P x told (some (rawInt c.L)))
  (h:∀h' SS,xo SS c.P s.heap h'->(∀b∈SS,h₀.get? b=none)->x_ B h₀ h' φ c.P x told (some (rawInt c.L))->E x { s with heap:=h' }):cameBackBy M c.A c.env E x s:=by
 revert B n M E s φ c h₀ x told O ex h
 intros B n M E s φ c h₀ x told O ex h;obtain⟨e,oe,d,od,vs,v,rfl,⟨a1,a2,a3,a4,a5,a6,a7,a8,a9,a10,a11,a12,a13⟩,a14,T,oT,ts,b1,b2,b3,b4,b5,b6,b7,b8⟩:_:=id ex;refine wpAny_bind (wpAny_field a4 a14 b1 ?_);rw[if_neg (show ¬(Value.ref T==Value.none)=true from by exact nofun)];rw[O.frame];exact vq ex fun h' SS t hn e'=>h h' SS t hn e'
theorem tQ {c:Cx} {h:Heap} {X:AV->Rho->St->Prop} {x:Value} (O:c.Ok n) (hH:∀b o,B.H₀.get? b=some o->∃o',h.get? b=some o') (e:ExS B nm nN c h φ X x s) :
  notedBy M c.A c.env (cameBackBy M c.A c.env (ExS B nm nN c h φ X)) x s:=by
 revert B nm nN n M s φ c h X x O hH e
 intros B nm nN n M s φ c h X x O hH e;obtain⟨φ',st',r',told,S,g,F,ein,hX⟩:_:=e
 have hH':∀b,h.get? b=none->B.H₀.get? b=none:=by
  intros b hb
  rcases tF (B.H₀.get? b)with q | w1_
  ·try rewrite[q]
   rfl
  ·obtain⟨o,q⟩:_:=w1_
   try rewrite[q]
   obtain⟨o',e'⟩:_:=hH b o q;rw[hb]at e';cases e'
 refine km O S F ein hH' g.dom ?_;intros h1 S₁ t1 n1 e1;refine Z_ (s:={ s with heap:=h1 }) O e1 ?_;intros h₂ S₂ t2 n2 e2;have X₁:SR B { s with heap:=h1,toks:=s.toks } φ' c.P st':=S.turnX t1 fun b hb=>hH' b (n1 b hb);have X₂:SR B { s with heap:=h₂,toks:=s.toks } φ' c.P st':=X₁.turnX t2 fun b hb=>hH' b (n2 b hb);exact Uz φ' st' r' told X₂ ((g.turnX t1 n1).turnX t2 n2) ((F.turnX t1).turnX t2) (e2.in (.inr (.inr rfl))) hX
end
structure Cx.OkL (n:Nat) (c:Cx):Prop extends Cx.Ok n c where
 cellsNe:∀x b,c.env.cells.lookup x=some b->b≠c.env.locals
structure Cx.OkF (n:Nat) (c:Cx):Prop extends Cx.OkL n c where
 ownCells:∀x b,c.env.cells.lookup x=some b->b∈c.own
 cellsInj:∀x y b,c.env.cells.lookup x=some b->c.env.cells.lookup y=some b->x=y
 cellsAll:∀x,c.env.kindOf x=some .cell->(c.env.cells.lookup x).isSome=true
structure WS (B:Base) (nm:Nat->Str) (nN n:Nat) (sc:Scope) (p:Stmt) (ρ:Rho) (R:Fl->Rho->St->Prop) (X:AV->Rho->St->Prop) (st:St):Prop where
 run:∀(c:Cx) (s:Shared) (φ:List Addr),c.OkF n->c.env.scope=sc->SR B s φ c.P st->FR B nm nN s.heap φ c ρ ->
  wpAny (model B.prog B.w) c.A (exec p c.env) (PoS B nm nN c s.heap φ R) (ExS B nm nN c s.heap φ X) s
structure WSs (B:Base) (nm:Nat->Str) (nN n:Nat) (sc:Scope) (ps:List Stmt) (ρ:Rho) (R:Fl->Rho->St->Prop) (X:AV->Rho->St->Prop) (st:St):Prop where
 run:∀(c:Cx) (s:Shared) (φ:List Addr),c.OkF n->c.env.scope=sc->SR B s φ c.P st->FR B nm nN s.heap φ c ρ ->
  wpAny (model B.prog B.w) c.A (execs ps c.env) (PoS B nm nN c s.heap φ R) (ExS B nm nN c s.heap φ X) s
section
variable {B:Base} {nm:Nat->Str} {nN n:Nat} {sc:Scope} {ρ:Rho} {R:Fl->Rho->St->Prop} {X:AV->Rho->St->Prop} {st:St}
theorem Go.weak {P ex:List Addr} {h h':Heap} {φ φ':List Addr} (g:Go P [] h φ h' φ'):Go P ex h φ h' φ':=g.mono (nn)
theorem xG {c:Cx} {h:Heap} {φ:List Addr} {x:Value} {s:Shared} (O:c.Ok n) (F:FR B nm nN h φ c ρ) (e:Exc B c.P h φ c.L (fun t st=>X t ρ st) x s):ExS B nm nN c h φ X x s:=by
 revert B nm nN n ρ X c h φ x s O F e
 intros B nm nN n ρ X c h φ x s O F e;obtain⟨φ',st',told,S,g,e,hX⟩:_:=e;exact Uz φ' st' ρ told S g.weak (F.go O g) e hX
theorem ExS.after {c:Cx} {h h1:Heap} {φ φ₁:List Addr} {x:Value} {s:Shared} (g:Go c.P c.own h φ h1 φ₁) (e:ExS B nm nN c h1 φ₁ X x s):ExS B nm nN c h φ X x s:=by
 revert B nm nN X c h h1 φ φ₁ x s g e
 intros B nm nN X c h h1 φ φ₁ x s g e;obtain⟨φ',st',r',told,S,g',F,e,hX⟩:_:=e;exact Uz φ' st' r' told S (g.trans g') F (e.born g.dom) hX
theorem PoS.after {c:Cx} {h h1:Heap} {φ φ₁:List Addr} {f:Flow} {s:Shared} (g:Go c.P c.own h φ h1 φ₁) (e:PoS B nm nN c h1 φ₁ R f s):PoS B nm nN c h φ R f s:=by
 revert B nm nN R c h h1 φ φ₁ f s g e
 intros B nm nN R c h h1 φ φ₁ f s g e;obtain⟨φ',st',r',S,g',F,hR⟩:_:=e;exact yD φ' st' r' S (g.trans g') F hR
theorem zd (h:R .next ρ st):WSs B nm nN n sc [] ρ R X st:=⟨fun c s φ O hs S F=>wpAny_execs_nil (yD φ st ρ S (Go.refl ..) F h)⟩
theorem za {p:Stmt} {ps:List Stmt} (h:WS B nm nN n sc p ρ (fun f r' st'=>match f with | .next=>WSs B nm nN n sc ps r' R X st' | f=>R f r' st') X st):WSs B nm nN n sc (p::ps) ρ R X st:=by
 revert B nm nN n sc ρ R X st p ps h
 intros B nm nN n sc ρ R X st p ps h;refine⟨?_⟩;intros c s φ O hs S F;refine wpAny_execs_cons (wpAny_mono (h.run c s φ O hs S F) ?_ fun z z y=>y);intros f s₁ p1_;obtain⟨φ₁,st₁,r1,S₁,g₁,F₁,h1⟩:_:=p1_
 cases f with
 | next=>exact wpAny_mono (h1.run c s₁ φ₁ O hs S₁ F₁) (fun z z y=>y.after g₁) fun z z y=>y.after g₁
 | cont=>exact yD φ₁ st₁ r1 S₁ g₁ F₁ h1
 | brk=>exact yD φ₁ st₁ r1 S₁ g₁ F₁ h1
 | ret v=>exact yD φ₁ st₁ r1 S₁ g₁ F₁ h1
theorem qA {pos:Pos} (h:R .cont ρ st):WS B nm nN n sc (.Continue pos) ρ R X st:=⟨fun c s φ O hs S F =>
 wpAny_bind (wpAny_standAt (wpAny_pure (yD φ st ρ S (Go.refl ..) F h)))⟩
theorem ZC {pos:Pos} (h:R (.ret .none) ρ st):WS B nm nN n sc (.Return none pos) ρ R X st:=⟨fun c s φ O hs S F =>
 wpAny_Return_none (yD φ st ρ S (Go.refl ..) F ⟨.none,rfl,h⟩)⟩
theorem zq {e:Expr} {pos:Pos} (h:WE B nm nN n sc e ρ (fun a st'=>R (.ret a) ρ st') (fun t st'=>X t ρ st') st):WS B nm nN n sc (.Return (some e) pos) ρ R X st:=by
 revert B nm nN n sc ρ R X st e pos h
 intros B nm nN n sc ρ R X st e pos h;refine⟨?_⟩;intros c s φ O hs S F;refine wpAny_Return_some (wpAny_mono (h.run c s φ O.toOk hs S F) ?_ fun z z y=>xG O.toOk F y);intros v s₁ p1_;obtain⟨φ₁,st₁,S₁,g₁,a,ra,h1⟩:_:=p1_;exact yD φ₁ st₁ ρ S₁ g₁.weak (F.go O.toOk g₁) ⟨a,ra,h1⟩
theorem z7 {t:Expr} {a b:List Stmt} {pos:Pos} (h:WT B nm nN n sc t ρ (fun d st'=>if d then WSs B nm nN n sc a ρ R X st' else WSs B nm nN n sc b ρ R X st') (fun t st'=>X t ρ st') st):WS B nm nN n sc (.If t a b pos) ρ R X st:=by
 revert B nm nN n sc ρ R X st t a b pos h
 intros B nm nN n sc ρ R X st t a b pos h;refine⟨?_⟩;intros c s φ O hs S F;refine wpAny_If (wpAny_mono (h.run c s φ O.toOk hs S F) ?_ fun z z y=>xG O.toOk F y);intros d s₁ p1_;obtain⟨φ₁,st₁,S₁,g₁,h1⟩:_:=p1_
 cases d with
 | true=>exact wpAny_mono (h1.run c s₁ φ₁ O hs S₁ (F.go O.toOk g₁)) (fun z z y=>y.after g₁.weak) fun z z y=>y.after g₁.weak
 | false=>exact wpAny_mono (h1.run c s₁ φ₁ O hs S₁ (F.go O.toOk g₁)) (fun z z y=>y.after g₁.weak) fun z z y=>y.after g₁.weak
theorem sF {t:Expr} {body:List Stmt} {pos:Pos} (I:Nat->Rho->St->Prop)
  (turn:∀m ρ st,I m ρ st->WT B nm nN n sc t ρ (fun d st'=>if d then WSs B nm nN n sc body ρ (fun f r'' st''=>match f with
    | .next | .cont=>∃m',m'<m/\I m' r'' st''
    | .ret a=>R (.ret a) r'' st'') X st' else R .next ρ st') (fun t st'=>X t ρ st') st)
  (m:Nat) (h:I m ρ st):WS B nm nN n sc (.While t body [] pos) ρ R X st:=by
 revert B nm nN n sc ρ R X st t body pos I turn m h
 intros B nm nN n sc ρ R X st t body pos I turn m h;refine⟨?_⟩;intros c s φ O hs S F;have hH:∀b o,B.H₀.get? b=some o->∃o',s.heap.get? b=some o':=fun b o e=>⟨o,S.base b o e⟩;refine wpAny_While (codeAny_whileLoop (fun m s'=>∃φ' st' r',SR B s' φ' c.P st'/\Go c.P c.own s.heap φ s'.heap φ'/\FR B nm nN s'.heap φ' c r'/\I m r' st') ?_ m (yD φ st ρ S (Go.refl ..) F h));intros m s₁ p1_;obtain⟨φ₁,st₁,r1,S₁,g₁,F₁,h1⟩:_:=p1_;refine wpAny_mono ((turn m r1 st₁ h1).run c s₁ φ₁ O.toOk hs S₁ F₁) ?_ fun x s' y=>tQ O.toOk hH ((xG O.toOk F₁ y).after g₁);intros d s₂ p2_;obtain⟨φ₂,st2,S₂,g₂,h₂⟩:_:=p2_;have F₂:=F₁.go O.toOk g₂
 cases d with
 | true =>
  refine wpAny_mono (h₂.run c s₂ φ₂ O hs S₂ F₂) ?_ fun x s' y=>tQ O.toOk hH (y.after (g₁.trans g₂.weak));intros f s₃ p3_;obtain⟨φ₃,st₃,ρ₃,S₃,g₃,F₃,h₃⟩:_:=p3_;have g:=(g₁.trans g₂.weak).trans g₃
  cases f with
  | next=>obtain⟨m',hm,hI⟩:=h₃;exact zw m' hm ⟨φ₃,st₃,ρ₃,S₃,g,F₃,hI⟩
  | cont=>obtain⟨m',hm,hI⟩:=h₃;exact zw m' hm ⟨φ₃,st₃,ρ₃,S₃,g,F₃,hI⟩
  | brk=>exact h₃.elim
  | ret v=>exact yD φ₃ st₃ ρ₃ S₃ g F₃ h₃
 | false=>exact wpAny_execs_nil (yD φ₂ st2 r1 S₂ (g₁.trans g₂.weak) F₂ h₂)
end
noncomputable instance:Nonempty Fl:=⟨.next⟩
noncomputable def u3 (nm:Nat->Str) (nN:Nat):Prop:=∀i j,i<nN->j<nN->nm i=nm j->i=j
section
variable {B:Base} {nm:Nat->Str} {nN n:Nat} {sc:Scope} {ρ:Rho} {R:Fl->Rho->St->Prop} {X:AV->Rho->St->Prop} {st:St} {M:Model} {A:Around} {E:Value->Shared->Prop} {s:Shared} {φ:List Addr}
theorem ZQ {c:Cx} {h h':Heap} {b:Addr} (S:SR B s φ c.P st) (hs:Heap.SameBut b s.heap h') (hb:b∈c.own) (he:∃o,h'.get? b=some o):Go c.P c.own s.heap φ h' φ:=by
 refine⟨fun x o e f hP=>(hs.2 x fun q=>hP (List.mem_append_left _ (q▸hb))).trans e,fun x o e f hx=>⟨o.slots,(hs.2 x fun q=>hx (q▸hb)).trans e⟩,fun x o e=>?_,[],(List.append_nil _).symm,nn⟩
 by_cases q:x=b
 ·subst q;exact he
 ·exact⟨o,(hs.2 x q).trans e⟩
theorem Wu {c:Cx} {h':Heap} {b:Addr} {t:Nat} (S:SR B s φ c.P st) (hs:Heap.SameBut b s.heap h') (hb:b∈c.own) (he:∃o,h'.get? b=some o):SR B { s with heap:=h',toks:=t } φ c.P st :=
 S.go_same (ZQ S hs hb he (h:=s.heap)) fun a ha=>hs.2 a fun q=>S.apart a ha (List.mem_append_left _ (q▸hb))
theorem kj {env:Env} {name:Str} (hl:env.kindOf name=some .cell) (hk:env.scope.kind = .function) (v:Value):storeName env name v=(do cellSet (<-cellOf env name) (some v)):=by
 revert env name hl hk v
 intros env name hl hk v;have e1:(some NameKind.cell==some NameKind.globalImplicit)=false:=rfl;have e2:(ScopeKind.function==ScopeKind.class)=false:=rfl;simp only[storeName,hl,hk,e1,e2,Bool.false_and,Bool.false_eq_true,if_false]
noncomputable def VS (n:Nat) (c:Cx) (x:Str):Prop:=c.env.kindOf x=some .local\/(c.env.kindOf x=some .cell/\c.OkF n)
theorem wV {c:Cx} {Q:Unit->Shared->Prop} (hinj:u3 nm nN) (O:c.OkL n) (S:SR B s φ c.P st) (F:FR B nm nN s.heap φ c ρ) {i:Nat} {a:AV} {v:Value} (hi:i<nN)
  (hk:VS n c (nm i)) (ra:VR B s.heap φ c.P a v)
  (h:∀h' t,SR B { s with heap:=h',toks:=t } φ c.P st->Go c.P c.own s.heap φ h' φ->FR B nm nN h' φ c (ρ.set i a)->Q () { s with heap:=h',toks:=t }) :
  wpAny M A (storeName c.env (nm i) v) Q E s:=by
 revert B nm nN n ρ st M A E s φ c Q hinj O S F i a v hi hk ra h
 intros B nm nN n ρ st M A E s φ c Q hinj O S F i a v hi hk ra h;obtain⟨m,hn,hv⟩:_:=F.ns
 have hp:(c.env.scope.kind == .class||(c.env.scope.kind == .module&&c.env.locals != c.env.globals))=false:=by rw[O.kind];rfl
 rcases hk with hk | y1_
 ·refine wpAny_storeName_local hk hn (?_) hp;intros h' hn' hs;obtain⟨oL,es,ep,eL,eLd,_⟩:_:=id hn';have he:∃o,h'.get? c.env.locals=some o:=⟨oL,eL⟩;have g:=ZQ (h:=s.heap) S hs O.locals he;refine h h' _ (Wu S hs O.locals he) g ⟨(zw _ hn' ?_),?_,?_⟩
  ·intros j b e;rw[Rho.get_set]at e
   by_cases q:j=i
   ·subst q;rw[if_pos rfl]at e;cases e;refine⟨hi,?_⟩;rw[hk];exact zw v (if_pos rfl) (ra.go g)
   ·rw[if_neg q]at e;obtain⟨hj,z⟩:_:=hv j b e;refine⟨hj,?_⟩;have hne:nm j≠nm i:=fun w=>q (hinj j i hj hi w)
    rcases tF (c.env.kindOf (nm j))with hkj | w2_
    ·try rewrite[hkj]
     rw[hkj]at z;exact z
    ·obtain⟨k,hkj⟩:_:=w2_
     try rewrite[hkj]
     rw[hkj]at z
     cases k<;>first
      | exact z
      | (obtain⟨u,hm,r⟩:=z;exact⟨u,(if_neg hne).trans hm,r.go g⟩)
      | (obtain⟨x,o,u,hx,ho,hd,r⟩:=z;exact(yD x o u hx ((hs.2 x (O.cellsNe _ _ hx)).trans ho) hd (r.go g)))
  ·intros x b e;obtain⟨o,u,ho,hd⟩:_:=F.cellObj x b e;exact wm o u ((hs.2 b (O.cellsNe _ _ e)).trans ho) hd
  ·intros fr hf e' he' L hL;obtain⟨o,ho,hd⟩:_:=F.fo fr hf e' he' L hL
   by_cases q:L=c.env.locals
   ·subst q;exact zw oL eL (fun vs w=>by rw[eLd]at w;cases w)
   ·exact zw o ((hs.2 L q).trans ho) hd
 ·obtain⟨hk,O⟩:_:=y1_;obtain⟨b,hb⟩:_:=Option.isSome_iff_exists.mp (O.cellsAll _ hk);rw[kj hk O.kind];refine wpAny_bind (wpAny_of_eq (a:=b) (by unfold cellOf;rw[hb]) ?_);obtain⟨o,u,ho,hd⟩:_:=F.cellObj _ b hb;refine wpAny_bind (wpAny_load ho ?_);rw[hd];refine wpAny_update ho ?_;have hf:({ o with data:=.cell (some v) }:Obj).isFreed=false:=rfl;have eb:=Heap.get?_update_self (fun o=>{ o with data:=.cell (some v) }) ho hf;have hs:Heap.SameBut b s.heap (s.heap.update b fun o=>{ o with data:=.cell (some v) }):=Heap.SameBut.update ..;have bo:=O.ownCells _ _ hb;have he:∃o,(s.heap.update b fun o=>{ o with data:=.cell (some v) }).get? b=some o:=⟨_,eb⟩;have g:=ZQ (h:=s.heap) S hs bo he;refine h _ s.toks (Wu S hs bo he) g ⟨(zw m (hn.sameBut hs (Ne.symm (O.cellsNe _ _ hb))) ?_),?_,?_⟩
  ·intros j d e;rw[Rho.get_set]at e
   by_cases q:j=i
   ·subst q;rw[if_pos rfl]at e;cases e;refine⟨hi,?_⟩;rw[hk];exact yD b _ v hb eb rfl (ra.go g)
   ·rw[if_neg q]at e;obtain⟨hj,z⟩:_:=hv j d e;refine⟨hj,?_⟩;have hne:nm j≠nm i:=fun w=>q (hinj j i hj hi w)
    rcases tF (c.env.kindOf (nm j))with hkj | w3_
    ·try rewrite[hkj]
     rw[hkj]at z;exact z
    ·obtain⟨k,hkj⟩:_:=w3_
     try rewrite[hkj]
     rw[hkj]at z
     cases k<;>first
      | exact z
      | (obtain⟨u,hm,r⟩:=z;exact⟨u,hm,r.go g⟩)
      | (obtain⟨x,o,u,hx,ho,hd,r⟩:=z;exact(yD x o u hx ((hs.2 x (fun w=>hne (O.cellsInj _ _ x hx (w▸hb)))).trans ho) hd (r.go g)))
  ·intros x y e
   by_cases q:y=b
   ·subst q;exact wm _ (some v) eb rfl
   ·obtain⟨o,u,ho,hd⟩:_:=F.cellObj x y e;exact wm o u ((hs.2 y q).trans ho) hd
  ·intros fr hf e' he' L hL
   by_cases q:L=b
   ·subst q;exact zw _ eb (fun vs w=>by cases w)
   ·obtain⟨o,ho,hd⟩:_:=F.fo fr hf e' he' L hL;exact zw o ((hs.2 L q).trans ho) hd
noncomputable def wH (sc:Scope) (x:Str):Prop:=sc.names.lookup x=some .local\/sc.names.lookup x=some .cell
theorem wH.can {c:Cx} {x:Str} (h:wH sc x) (O:c.OkF n) (hs:c.env.scope=sc):VS n c x:=by
 unfold VS Env.kindOf;rw[hs]
 rcases h with h | h
 ·exact .inl h
 ·exact .inr ⟨h,O⟩
theorem qd {i:Nat} {px pos:Pos} {e:Expr} (hinj:u3 nm nN) (hi:i<nN) (hst:wH sc (nm i)) (hv:∀env t l,swapsWith e t l env=pure false)
  (h:WE B nm nN n sc e ρ (fun a st'=>R .next (ρ.set i a) st') (fun t st'=>X t ρ st') st):WS B nm nN n sc (.Assign [.Name (nm i) px] e pos) ρ R X st:=by
 revert B nm nN n sc ρ R X st i px pos e hinj hi hst hv h
 intros B nm nN n sc ρ R X st i px pos e hinj hi hst hv h;refine⟨?_⟩;intros c s φ O hs S F;refine wpAny_Assign_Name ?_ (hv ..);refine wpAny_mono (h.run c s φ O.toOk hs S F) ?_ fun f f y=>xG O.toOk F y;intros v s₁ p1_;obtain⟨φ₁,st₁,S₁,g₁,a,ra,h1⟩:_:=p1_;refine wV hinj O.toOkL S₁ (F.go O.toOk g₁) hi (hst.can O hs) ra ?_;intros h' t S₂ g₂ F₂;exact yD φ₁ st₁ _ S₂ (g₁.weak.trans g₂) F₂ h1
theorem ul {e:Expr} {pos:Pos} (hm:sc.kind = .function) (hv:∀env t l,swapsWith e t l env=pure false)
  (h:WE B nm nN n sc e ρ (fun a st'=>a = .none/\R .next ρ st') (fun t st'=>X t ρ st') st):WS B nm nN n sc (.Expr e pos) ρ R X st:=by
 revert B nm nN n sc ρ R X st e pos hm hv h
 intros B nm nN n sc ρ R X st e pos hm hv h;refine⟨?_⟩;intros c s φ O hs S F
 have hi:interactive c.env=false:=by unfold interactive;rw[O.kind];rfl
 refine wpAny_Expr ?_ hi (hv ..);refine wpAny_mono (h.run c s φ O.toOk hs S F) ?_ fun f f y=>xG O.toOk F y;intros v s₁ p1_;obtain⟨φ₁,st₁,S₁,g₁,a,ra,rfl,h1⟩:_:=p1_;subst ra;exact yD φ₁ st₁ ρ S₁ g₁.weak (F.go O.toOk g₁) h1
noncomputable def Rho.sets:Rho->List Nat->List AV->Rho
 | ρ,i::is,a::as=>Rho.sets (ρ.set i a) is as
 | ρ,_,_=>ρ
theorem Rho.sets_1:∀(x:Rho) (i:Nat) (is:List Nat) (a:AV) (as:List AV),Rho.sets x (i::is) (a::as)=Rho.sets (Rho.set x i a) is as:=fun a a a a a=>rfl
theorem Rho.sets_2:∀(x:Rho),Rho.sets x [] []=x:=fun a=>rfl
inductive VY {α β:Type} (r:α->β->Prop):List α->List β->Prop
 | nil:VY r [] []
 | cons {a b l m}:r a b->VY r l m->VY r (a::l) (b::m)
theorem Z2 {c:Cx} (hinj:u3 nm nN) (O:c.OkL n) {is:List Nat} {ts:List (Value->Sem Unit)} (hd:VY (fun i t=>∀v Q s,wpAny M A (storeName c.env (nm i) v) Q E s->wpAny M A (t v) Q E s) is ts):∀{as:List AV} {vs:List Value} {s:Shared} {ρ:Rho} {φ:List Addr} {st:St} {Q:Unit->Shared->Prop},
  (∀i∈is,i<nN/\VS n c (nm i))->is.length=as.length->SR B s φ c.P st->FR B nm nN s.heap φ c ρ->VRs B s.heap φ c.P as vs ->
  (∀s',SR B s' φ c.P st->Go c.P c.own s.heap φ s'.heap φ->FR B nm nN s'.heap φ c (ρ.sets is as)->Q () s') ->
  wpAny M A (assignInOrder ts vs) Q E s:=by
 induction hd with
 | nil =>
  intro as vs s ρ φ st Q hi hl S F rv h
  cases as with
  | nil=>cases rv;exact wpAny_pure (h s S (Go.refl ..) F)
  | cons a r=>cases hl
 | @cons i u is ts h1 h2 ih =>
  intro as vs s ρ φ st Q hi hl S F rv h
  cases as with
  | nil=>cases hl
  | cons a as =>
   refine xH (rv) fun v t e ra rt=>?_;rw[e];show wpAny M A (do holding t (u v);assignInOrder ts t) Q E s;refine wpAny_bind (wpAny_holding (h1 _ _ _ ?_));refine wV hinj O S F (hi i (.head _)).1 (hi i (.head _)).2 ra fun h' tk S₁ g₁ F₁=>?_;exact ih (fun j hj=>hi j (.tail _ hj)) (Nat.succ.inj hl) S₁ F₁ (rt.go g₁) fun s' S₂ g₂ F₂=>h s' S₂ (g₁.trans g₂) F₂
theorem Se {h h':Heap} (he:Heap.ExtBut h.objs.size h h'):∀b o,h.get? b=some o->h'.get? b=some o :=
 fun b o e=>he b o (Nat.ne_of_lt (Heap.lt_size e)) e
theorem VRs.append {h:Heap} {P:List Addr}:∀{l l':List AV} {vs vs':List Value},VRs B h φ P l vs->VRs B h φ P l' vs'->VRs B h φ P (l++l') (vs++vs')
 | [],_,_,_,e,e'=>by subst e;exact e'
 | _::_,_,_,_,e,e'=>by
  obtain⟨v,t,rfl,ra,rt⟩:=e;exact⟨v,_,rfl,ra,rt.append e'⟩
theorem VRs.reverse {h:Heap} {P:List Addr}:∀{l:List AV} {vs:List Value},VRs B h φ P l vs->VRs B h φ P l.reverse vs.reverse
 | [],_,e=>by subst e;exact rfl
 | a::r,_,e=>by
  obtain⟨v,t,rfl,ra,rt⟩:=e;rw[List.reverse_cons,List.reverse_cons];refine rt.reverse.append ?_;exact⟨v,[],rfl,ra,rfl⟩
noncomputable def tgs (nm:Nat->Str) (is:List Nat) (ps:List Pos):List Expr:=(is.zip ps).map fun p=>.Name (nm p.1) p.2
theorem Xg {env:Env}:∀{is:List Nat} {ps:List Pos},is.length=ps.length ->
  VY (fun i (t:Value->Sem Unit)=>∀v Q s,wpAny M A (storeName env (nm i) v) Q E s->wpAny M A (t v) Q E s) is ((assignEach (tgs nm is ps) env).map (fun x=>x.2))
 | [],[],_=>.nil
 | [],_::_,hl=>by exact nomatch hl
 | _::_,[],hl=>by exact nomatch hl
 | i::is,p::ps,hl=>.cons (fun v Q s h=>by
   show wpAny M A (do standAt p;bindName env (nm i) v) Q E s
   exact wpAny_bind (wpAny_standAt (wpAny_bindName h))) (Xg (by simpa using hl))
theorem VT {env:Env}:∀{is:List Nat},VY (fun i (t:Value->Sem Unit)=>∀v Q s,wpAny M A (storeName env (nm i) v) Q E s->wpAny M A (t v) Q E s) is (is.map fun i=>bindName env (nm i)):=by
 intro l_
 induction l_ with
 | nil =>
  exact .nil
 | cons i is ih_ =>
  exact .cons (fun v Q s h=>wpAny_bindName h) ih_
theorem jM (env:Env):∀(is:List Nat) (ps:List Pos),(assignEach (tgs nm is ps) env).findIdx? (fun x=>x.1)=none
 | [],_=>rfl
 | _::_,[]=>rfl
 | i::is,p::ps=>by
  show ((false,_)::assignEach (tgs nm is ps) env).findIdx? (fun x=>x.1)=none;rw[List.findIdx?_cons,jM env is ps];rfl
theorem VE (env:Env):∀(is:List Nat) (ps:List Pos),is.length=ps.length->(assignEach (tgs nm is ps) env).length=is.length
 | [],_,_=>rfl
 | _::_,[],h=>by exact h.symm
 | i::is,p::ps,h=>by
  show (assignEach (tgs nm is ps) env).length+1=_;rw[VE env is ps (by simpa using h)];rfl
theorem jK {c:Cx} {prog:Program} {w:World} {Q:Unit->Shared->Prop} {E:Value->Shared->Prop} (hinj:u3 nm nN) (O:c.OkL n) {is:List Nat} {ps:List Pos} {as:List AV} {v:Value}
  (hi:∀i∈is,i<nN/\VS n c (nm i)) (hp:is.length=ps.length) (hl:is.length=as.length) (S:SR B s φ c.P st) (F:FR B nm nN s.heap φ c ρ) (rv:VR B s.heap φ c.P (.tup as) v)
  (h:∀s',SR B s' φ c.P st->Go c.P c.own s.heap φ s'.heap φ->FR B nm nN s'.heap φ c (ρ.sets is as)->Q () s') {k:Nat} {tp:Pos} :
  wpAny (model prog w) c.A (assign (.Tuple (tgs nm is ps) k tp) c.env v) Q E s:=by
 refine Sr (rv) fun a vs q4z h1 h2 h3 rs=>?_;try clear rv;subst q4z;show wpAny _ _ (do standAt tp;unpack (.ref a) (assignEach (tgs nm is ps) c.env)) Q E s;refine wpAny_bind (wpAny_standAt ?_);unfold unpack;rw[jM,VE _ _ _ hp]
 have hz:is.length=vs.toArray.size:=by rw[List.size_toArray,rs.length,hl]
 rw[hz];refine wpAny_bind (wpAny_holding (unpackItems_tuple O.handled h3 fun h' he=>?_));have hk:=Se he;have g:Go c.P c.own s.heap φ h' φ:=Go.of_keep hk;have S':SR B { s with heap:=h',toks:=s.toks } φ c.P st:=S.grow hk;exact Z2 hinj O (Xg hp) hi hl S' (F.go O.toOk (Go.of_keep hk)) (rs.go g) fun s' S₂ g₂ F₂=>h s' S₂ (g.trans g₂) F₂
theorem Z9 {is:List Nat} {ps:List Pos} {k:Nat} {tp pos:Pos} {e:Expr} (hinj:u3 nm nN) (hi:∀i∈is,i<nN/\wH sc (nm i)) (hp:is.length=ps.length)
  (hv:∀env l,swapsWithSole [.Tuple (tgs nm is ps) k tp] e l env=pure false) (hw:∀env:Env,env.scope=sc->swappedStores [.Tuple (tgs nm is ps) k tp] e env=pure none)
  (h:WE B nm nN n sc e ρ (fun a st'=>∃as,a = .tup as/\is.length=as.length/\R .next (ρ.sets is as) st') (fun t st'=>X t ρ st') st):WS B nm nN n sc (.Assign [.Tuple (tgs nm is ps) k tp] e pos) ρ R X st:=by
 revert B nm nN n sc ρ R X st is ps k tp pos e hinj hi hp hv hw h
 intros B nm nN n sc ρ R X st is ps k tp pos e hinj hi hp hv hw h;refine⟨?_⟩;intros c s φ O hs S F;refine Assign_Tuple ?_ (hv ..) (hw _ hs);refine wpAny_mono (h.run c s φ O.toOk hs S F) ?_ fun f f y=>xG O.toOk F y;intros v s₁ p1_;obtain⟨φ₁,st₁,S₁,g₁,a,ra,as,rfl,hl,h1⟩:_:=p1_;exact jK hinj O.toOkL (fun i q=>⟨(hi i q).1,(hi i q).2.can O hs⟩) hp hl S₁ (F.go O.toOk g₁) ra fun s' S₂ g₂ F₂=>⟨φ₁,st₁,_,S₂,g₁.weak.trans g₂,F₂,h1⟩
theorem V3 {is:List Nat} {ps:List Pos} {k:Nat} {tp pos:Pos} {e:Expr} (hinj:u3 nm nN) (hi:∀i∈is,i<nN/\wH sc (nm i)) (hp:is.length=ps.length)
  (hv:∀env l,swapsWithSole [.Tuple (tgs nm is ps) k tp] e l env=pure false) (hw:∀env:Env,env.scope=sc->swappedStores [.Tuple (tgs nm is ps) k tp] e env=pure (some (is.map nm)))
  (h:WE B nm nN n sc e ρ (fun a st'=>∃as,a = .tup as/\is.length=as.length/\R .next (ρ.sets is.reverse as.reverse) st') (fun t st'=>X t ρ st') st):WS B nm nN n sc (.Assign [.Tuple (tgs nm is ps) k tp] e pos) ρ R X st:=by
 revert B nm nN n sc ρ R X st is ps k tp pos e hinj hi hp hv hw h
 intros B nm nN n sc ρ R X st is ps k tp pos e hinj hi hp hv hw h;refine⟨?_⟩;intros c s φ O hs S F;refine Assign_Tuple_swapped ?_ (hv ..) (hw _ hs);refine wpAny_mono (h.run c s φ O.toOk hs S F) ?_ fun f f y=>xG O.toOk F y;intros v s₁ p1_;obtain⟨φ₁,st₁,S₁,g₁,a,ra,as,rfl,hl,h₁⟩:_:=p1_;obtain⟨a,vs,rfl,h1,h2,h3,rs⟩:_:=ra
 have hz:(is.map nm).length=vs.toArray.size:=by rw[List.size_toArray,rs.length,<-hl,List.length_map]
 rw[hz];refine unpackItems_tuple O.handled h3 ?_;intros h' he;have hk:=Se he;have g:Go c.P c.own s₁.heap φ₁ h' φ₁:=Go.of_keep hk;have S':SR B { s₁ with heap:=h',toks:=s₁.toks } φ₁ c.P st₁:=S₁.grow hk
 have em:(is.map nm).reverse.map (fun n=>bindName c.env n)=is.reverse.map fun i=>bindName c.env (nm i):=by
  rw[<-List.map_reverse,List.map_map];rfl
 rw[em];refine Z2 hinj O.toOkL VT (fun i hi'=>⟨(hi i (List.mem_reverse.mp hi')).1,(hi i (List.mem_reverse.mp hi')).2.can O hs⟩) (by simpa using hl) S' ((F.go O.toOk g₁).go O.toOk (Go.of_keep hk)) (VRs.reverse (rs.go g)) ?_;intros s' S₂ g₂ F₂;exact yD φ₁ st₁ _ S₂ ((g₁.weak.trans g).trans g₂) F₂ h₁
end
structure WEs (B:Base) (nm:Nat->Str) (nN n:Nat) (sc:Scope) (es:List Expr) (ρ:Rho) (Q:List AV->St->Prop) (X:AV->St->Prop) (st:St):Prop where
 run:∀(c:Cx) (s:Shared) (φ:List Addr) (pos:Pos),c.Ok n->c.env.scope=sc->SR B s φ c.P st->FR B nm nN s.heap φ c ρ ->
  wpAny (model B.prog B.w) c.A (spliced (backTo pos (starEach es c.env))) (Po B c.P s.heap φ (Pi B c.P Q)) (Exc B c.P s.heap φ c.L X) s
noncomputable def xl (B:Base) (x:Str) (f:Value):Prop :=
 ∀h:Heap,(∀b o,B.H₀.get? b=some o->h.get? b=some o)->∃mg,h.Ns mainGlobals mg/\(mg x=some f\/(mg x=none /\ ∃mb,h.Ns builtinsNs mb/\mb x=some f))
section
variable {B:Base} {nm:Nat->Str} {nN n:Nat} {sc:Scope} {ρ:Rho} {Q X:AV->St->Prop} {QL:List AV->St->Prop} {st:St}
theorem zA (h:QL [] st):WEs B nm nN n sc [] ρ QL X st:=⟨fun c s φ pos O hs S F=>Calls.spliced_nil (z8 S (zw ([]) (rfl) h))⟩
theorem zM {e:Expr} {es:List Expr} (he:∀env,starEach (e::es) env=(false,eval e env)::starEach es env)
  (h:WE B nm nN n sc e ρ (fun a st₁=>WEs B nm nN n sc es ρ (fun as st2=>QL (a::as) st2) X st₁) X st):WEs B nm nN n sc (e::es) ρ QL X st:=by
 revert B nm nN n sc ρ X QL st e es he h
 intros B nm nN n sc ρ X QL st e es he h;refine⟨?_⟩;intros c s φ pos O hs S F;rw[he];refine Calls.spliced_cons (wpAny_mono (h.run c s φ O hs S F) ?_ fun z z y=>y);intros v s₁ p4_;obtain⟨φ₁,st₁,S₁,g₁,a,ra,h1⟩:_:=p4_;refine wpAny_mono (h1.run c s₁ φ₁ pos O hs S₁ (F.go O g₁)) ?_ fun z z y=>y.after g₁;intros vs s₂ p5_;obtain⟨φ₂,st2,S₂,g₂,as,ras,h₂⟩:_:=p5_;exact⟨φ₂,st2,S₂,g₁.trans g₂,a::as,by exact⟨v,vs,rfl,ra.go g₂,ras⟩,h₂⟩
theorem SR.glob {s:Shared} {φ P:List Addr} {x:Str} {f:Value} (S:SR B s φ P st) (h:xl B x f):∃mg,s.heap.Ns mainGlobals mg/\(mg x=some f\/(mg x=none /\ ∃mb,s.heap.Ns builtinsNs mb/\mb x=some f)):=h _ S.base
theorem wS {A:Around} {c:Cx} {s:Shared} {φ:List Addr} {x:Str} {pos:Pos} {f:Value} {R:Value->Shared->Prop} {E:Value->Shared->Prop} {M:Model} (O:c.Ok n) (S:SR B s φ c.P st) (hk:c.env.kindOf x=some .globalImplicit)
  (hd:(x==("__debug__":Str))=false) (hg:xl B x f) (h:R f s):wpAny M A (eval (.Name x pos) c.env) R E s:=by
 refine Calls.Name_function_global O.kind hk ?_ hd;refine zn (S.glob hg) fun mg h1 h2=>?_;rw[<-O.globals]at h1
 rcases h2 with h2 | ⟨h2,mb,h3,h4⟩
 ·exact Calls.loadGlobal_global h1 h2 h
 ·rw[<-O.builtins]at h3;exact Calls.loadGlobal_builtin h1 h2 h3 h4 h
theorem Rr {x:Str} {pos:Pos} {a:AV} {f:Value} (hk:sc.names.lookup x=some .globalImplicit) (hd:(x==("__debug__":Str))=false) (hg:xl B x f)
  (ha:∀(s:Shared) (φ P:List Addr) (st:St),SR B s φ P st->VR B s.heap φ P a f) (h:Q a st):WE B nm nN n sc (.Name x pos) ρ Q X st :=
 ⟨fun c s φ O hs S F=>wS O S (by unfold Env.kindOf;rw[hs];exact hk) hd hg (z8 S (zw a (ha s φ _ st S) h))⟩
noncomputable def jI (B:Base) (nm:Nat->Str) (nN n:Nat) (f:Value) (as:List AV) (Q X:AV->St->Prop) (st:St):Prop :=
 ∀(c:Cx) (s:Shared) (φ:List Addr) (ρ:Rho) (vs:List Value),c.Ok n->SR B s φ c.P st->FR B nm nN s.heap φ c ρ->VRs B s.heap φ c.P as vs ->
  wpAny (model B.prog B.w) c.A (PySem.call f vs) (Po B c.P s.heap φ (Val B c.P Q)) (Exc B c.P s.heap φ c.L X) s
noncomputable def sM (B:Base) (f:Value):Prop:=∀(M:Model) (h:Heap),(∀b o,B.H₀.get? b=some o->h.get? b=some o)->∃k,(k=Keeper.frame\/k=Keeper.machine\/k=Keeper.boundFrame)/\Looks M h (keeperOf f) k
theorem kept_builtin (id:String):sM B (.builtin id):=fun M h z=>(zw (.machine) (.inr (.inl rfl)) (Looks.of_pure rfl))
theorem kept_type (id:String):sM B (.type id):=fun M h z=>(zw (.machine) (.inr (.inl rfl)) (Looks.of_pure rfl))
theorem Vi {f:Value} (X:B.K.In B.H₀) (hk:keepIn B.K f=true):sM B f:=fun M h k=>keeps_K hk h (X.keeps k)
theorem ve {env:Env} {pos:Pos} {es:List Expr} (he:∀env,(starEach es env).any (fun x=>x.1)=false):(backTo pos (starEach es env)).any (fun x=>x.1)=false:=by
 have:=he env;unfold backTo;rw[List.any_map];exact this
theorem v0 {M:Model} {A:Around} {E:Value->Shared->Prop} {s:Shared} {f:Value} {args:List (Bool×Sem Value)} {R:Args->Shared->Prop} (hp:args.any (fun x=>x.1)=false)
  (h:wpAny M A (spliced args) (fun vs s'=>R ⟨vs,[]⟩ s') E s):wpAny M A (evalArgs f true args []) R E s:=by
 cases args with
 | nil =>
  refine wpAny_bind (wpAny_mono h (fun vs s' h'=>?_) fun z z y=>y);refine wpAny_bind (wpAny_pure (wpAny_holding ?_));exact wpAny_bind (wpAny_pure (wpAny_bind (wpAny_pure (wpAny_pure h'))))
 | cons p r =>
  obtain⟨b,x⟩:=p
  cases b with
  | true=>exact nomatch hp
  | false=>exact Calls.evalArgs_plain h
theorem qX {x:Str} {px pos:Pos} {es:List Expr} {f:Value} (hk:sc.names.lookup x=some .globalImplicit) (hd:(x==("__debug__":Str))=false) (hg:xl B x f) (hK:sM B f)
  (he:∀env,(starEach es env).any (fun x=>x.1)=false) (h:WEs B nm nN n sc es ρ (fun as st'=>jI B nm nN n f as Q X st') X st) :
  WE B nm nN n sc (.Call (.Name x px) es [] pos) ρ Q X st:=by
 revert B nm nN n sc ρ Q X st x px pos es f hk hd hg hK he h
 intros B nm nN n sc ρ Q X st x px pos es f hk hd hg hK he h;refine⟨?_⟩;intros c s φ O hs S F;refine wpAny_Call_Name_kw (wS O S (by unfold Env.kindOf;rw[hs];exact hk) hd hg ?_);refine callWith_of (P:=fun h=>∀b o,B.H₀.get? b=some o->h.get? b=some o) (by rw[ve he];rfl) (fun h hP=>hK _ h hP) ?_
 have done:wpAny (model B.prog B.w) c.A (spliced (backTo pos (starEach es c.env))) (fun vs s₁=>(∀b o,B.H₀.get? b=some o->s₁.heap.get? b=some o) /\
   wpAny (model B.prog B.w) c.A (PySem.call f ([]++vs)) (Po B c.P s.heap φ (Val B c.P Q)) (Exc B c.P s.heap φ c.L X) s₁) (Exc B c.P s.heap φ c.L X) s:=by
  refine wpAny_mono (h.run c s φ pos O hs S F) ?_ fun z z y=>y;intros vs s₁ p6_;obtain⟨φ₁,st₁,S₁,g₁,as,ras,h1⟩:_:=p6_;exact⟨S₁.base,after g₁ (h1 c s₁ φ₁ ρ vs O S₁ (F.go O g₁) ras)⟩
 exact v0 (ve he) done
end
noncomputable def ExF (B:Base) (P:List Addr) (h:Heap) (φ:List Addr) (X:AV->St->Prop):Value->Shared->Prop :=
 fun x s'=>∃φ' st' told,SR B s' φ' P st'/\Go P [] h φ s'.heap φ'/\x_ B h s'.heap φ' P x told (some .none)/\X told st'
noncomputable def Spec (B:Base) (n:Nat) (f:Value) (as:List AV) (st:St) (Q X:AV->St->Prop):Prop :=
 ∀(A:Around) (P:List Addr) (s:Shared) (φ:List Addr) (vs:List Value) (fr:List Env),A.handled=none->A.depth+4*n<=900->A.units+100*n+100<=cLine->A.frames=some fr ->
  (∀e∈fr,e.scope.kind ≠ .module /\ ∃L,e.frame=some L/\L∈P /\ ∃o,s.heap.get? L=some o /\ ∀ws,o.data ≠ .fields ws)->SR B s φ P st->VRs B s.heap φ P as vs ->
  codeAny (model B.prog B.w) A (.call f ⟨vs,[]⟩) (fun r s'=>match r with
   | .ok (.ret v)=>Po B P s.heap φ (Val B P Q) v s'
   | .ok _=>False
   | .error x=>ExF B P s.heap φ X x s') s
section
variable {B:Base} {nm:Nat->Str} {nN n:Nat} {sc:Scope} {ρ:Rho} {Q X:AV->St->Prop} {st:St}
theorem ExF.exc {P:List Addr} {h:Heap} {φ:List Addr} {L:Addr} {x:Value} {s:Shared} (e:ExF B P h φ X x s):Exc B P h φ L X x s:=by
 revert B X P h φ L x s e
 intros B X P h φ L x s e;obtain⟨φ',st',told,S,g,e,hX⟩:_:=e;exact yD φ' st' told S g (e.in (.inr (.inl rfl))) hX
theorem Spec.mono {f:Value} {as:List AV} {Q' X':AV->St->Prop} (h:Spec B n f as st Q X) (hQ:∀a st,Q a st->Q' a st) (hX:∀a st,X a st->X' a st):Spec B n f as st Q' X':=by
 revert B n Q X st f as Q' X' h hQ hX
 intros B n Q X st f as Q' X' h hQ hX;intros A P s φ vs fr a1 a2 a3 a4 a5 a6 a7;refine codeAny_mono (h A P s φ vs fr a1 a2 a3 a4 a5 a6 a7) ?_;intros r s' hr
 rcases r with x | f
 ·refine X9 (hr) fun φ' st' told S g e h=>?_;try clear hr;exact yD φ' st' told S g e (hX _ _ h)
 ·cases f with
  | ret v =>
   refine xH (hr) fun φ' st' S g n3z=>?_;try clear hr;refine zn (n3z) fun a ra h=>?_;try clear n3z;exact zV φ' st' S g ⟨a,ra,hQ _ _ h⟩
  | _=>exact hr
theorem WR {f:Value} {as:List AV} (h:Spec B n f as st Q X):jI B nm nN n f as Q X st:=by
 revert B nm nN n Q X st f as h
 intros B nm nN n Q X st f as h;intros c s φ ρ vs O S F ras;obtain⟨fenv,outer,hfr,hff,hl⟩:_:=O.frs F;refine wpAny_call ?_;refine codeAny_mono (h c.A c.P s φ vs (fenv::outer) O.handled O.depth O.units hfr (?_) S ras) ?_
 ·intros e he;obtain⟨k1,L,o,k2,k3,k4,k5⟩:_:=hl e he;exact⟨k1,L,k2,k5,o,k3,k4⟩
 ·intros r s' hr
  rcases r with x | f
  ·exact hr.exc
  ·cases f<;>exact hr
structure XR (B:Base) (f:Addr) (fd:FuncData) (body:List Stmt):Prop where
 at_:∃o,B.H₀.get? f=some o/\o.data = .func fd
 code:B.H₀.CodeRec fd.code fd.qualname
 globals:fd.globals=mainGlobals
 builtins:fd.builtins=builtinsNs
 closure:fd.closure=[]
 body:fd.body = .stmts body
 co:fd.scope.isCoroutine=false
 gen:fd.scope.isGenerator=false
 kind:fd.scope.kind = .function
noncomputable def Rho.of (is:List Nat) (as:List AV):Rho:=is.zip as
theorem Rho.of_get {i:Nat} {a:AV}:∀{is:List Nat} {as:List AV},(Rho.of is as).get i=some a->∃k:Nat,is[k]?=some i/\as[k]?=some a /\ ∀j:Nat,j<k->is[j]?≠some i
 | [],_,e=>by exact nomatch e
 | _::_,[],e=>by exact nomatch e
 | j::is,b::as,e=>by
  have e':(match Nat.beq j i with | true=>some b | false=>(Rho.of is as).get i)=some a:=e
  cases h:Nat.beq j i with
  | true =>
   rw[h]at e';have:=Nat.eq_of_beq_eq_true h;subst this;cases e';exact⟨0,rfl,rfl,fun j hj=>absurd hj (Nat.not_lt_zero _)⟩
  | false =>
   rw[h]at e';obtain⟨k,h1,h2,h3⟩:=Rho.of_get (is:=is) (as:=as) e';refine⟨k+1,h1,h2,fun l hl=>?_⟩
   cases l with
   | zero=>intro q;exact Nat.ne_of_beq_eq_false h (Option.some.inj q)
   | succ l=>exact h3 l (F1 hl)
theorem VRs.at {h:Heap} {φ P:List Addr}:∀{as:List AV} {vs:List Value} {k:Nat} {a:AV},VRs B h φ P as vs->as[k]?=some a->∃v,vs[k]?=some v/\VR B h φ P a v
 | [],_,_,_,_,e=>by exact nomatch e
 | b::r,_,0,a,e,ek=>by
  obtain⟨v,t,rfl,ra,rt⟩:=e;cases ek;exact⟨v,rfl,ra⟩
 | b::r,_,k+1,a,e,ek=>by
  obtain⟨v,t,rfl,ra,rt⟩:=e;exact rt.at (k:=k) ek
theorem tU {x:Str} {k:NameKind}:∀{l:List (Str×NameKind)},l.lookup x=some k->(x,k)∈l
 | [],e=>by cases e
 | (y,k')::r,e=>by
  rw[List.lookup_cons]at e
  split at e
  ·rename_i hy;cases e;rw[eq_of_beq hy];exact .head _
  ·exact .tail _ (tU e)
theorem Zx (nm:Nat->Str):∀{is:List Nat} {vs:List Value} {k i:Nat} {v:Value},is.Nodup->(∀i∈is,∀j∈is,nm i=nm j->i=j)->is[k]?=some i->vs[k]?=some v->((is.map nm).zip vs).reverse.lookup (nm i)=some v
 | [],_,_,_,_,_,_,e,_=>by exact nomatch e
 | _::_,[],_,_,_,_,_,_,e=>by exact e
 | j::is,u::vs,0,i,v,hnd,hinj,e1,e2=>by
  cases e1;cases e2;rw[List.nodup_cons]at hnd;show List.lookup (nm j) (((nm j,u)::((is.map nm).zip vs)).reverse)=some u;rw[List.reverse_cons,List.lookup_append]
  have:(((is.map nm).zip vs).reverse).lookup (nm j)=none:=by
   rw[List.lookup_eq_none_iff];intro p hp;have hp:=List.mem_reverse.mp hp;have hm:p.1∈is.map nm:=(List.of_mem_zip hp).1;obtain⟨x,hx,hx'⟩:=List.mem_map.mp hm;have:x≠j:=fun q=>hnd.1 (q▸hx);simp only[bne_iff_ne,ne_eq,beq_iff_eq]
   first
    | exact fun q=>this (hinj x (.tail _ hx) j (.head _) (hx'.trans q.symm))
    | exact bne_iff_ne.mpr fun q=>this (hinj x (.tail _ hx) j (.head _) (hx'.trans q.symm))
    | (have hq:nm j≠p.1:=fun q=>this (hinj x (.tail _ hx) j (.head _) (hx'.trans q.symm));simpa using hq)
  rw[this];simp
 | j::is,u::vs,k+1,i,v,hnd,hinj,e1,e2=>by
  rw[List.nodup_cons]at hnd;show List.lookup (nm i) (((nm j,u)::((is.map nm).zip vs)).reverse)=some v;rw[List.reverse_cons,List.lookup_append,Zx nm (k:=k) hnd.2 (fun a ha b hb=>hinj a (.tail _ ha) b (.tail _ hb)) e1 e2]
  rfl
theorem Go.frame {h h1:Heap} {φ P:List Addr} (hk:∀b o,h.get? b=some o->h1.get? b=some o):Go P [] h φ h1 φ:=Go.of_keep hk
theorem VA {f:Addr} {fd:FuncData} {body:List Stmt} {is:List Nat} {as:List AV} (hf:XR B f fd body) (hlim:B.H₀.NoLimit)
  (hinj:u3 nm nN) (hi:∀i∈is,i<nN) (hnd:is.Nodup) (hl:is.length=as.length)
  (hb:∀vs:List Value,vs.length=is.length->bindArgs fd ⟨vs,[]⟩=pure ((is.map nm).zip vs)) (hloc:∀i∈is,fd.scope.names.lookup (nm i)=some .local) (hcell:∀x∈fd.scope.names,x.2 ≠ .cell)
  (h:WSs B nm nN n fd.scope body (Rho.of is as) (fun fl ρ st'=>match fl with | .ret a=>Q a st' | .next=>Q .none st' | .cont=>False) (fun t ρ st'=>X t st') st):Spec B (n+1) (.ref f) as st Q X:=by
 revert B nm nN n Q X st f fd body is as hf hlim hinj hi hnd hl hb hloc hcell h
 intros B nm nN n Q X st f fd body is as hf hlim hinj hi hnd hl hb hloc hcell h;intros A P s φ vs fr a1 a2 a3 a4 a5 S ras;obtain⟨o,ho,hd⟩:_:=hf.at_
 have hvl:vs.length=is.length:=by rw[ras.length,hl]
 have hbinds:∀x∈(is.map nm).zip vs,fd.scope.names.lookup x.1=some .local:=fun x hx=>by
  refine zn (List.mem_map.mp (List.of_mem_zip hx).1) fun i hi' e=>?_;rw[<-e];exact hloc i hi'
 refine codeAny_call_def (binds:=(is.map nm).zip vs) (by unfold recursionLimit;exact F1 a2) (S.base _ _ ho) hd (hlim.keeps S.base) (hf.code.keeps S.base) hf.body (BindsTo.of_eq (hb vs hvl)) hcell hbinds (?_) hf.co hf.gen hf.kind;intros h₁ hns hk;generalize hL:s.heap.objs.size=L at hns;have eL:L=s.heap.objs.size:=hL.symm;subst eL
 have fresh:s.heap.get? s.heap.objs.size=none:=by
  cases q:s.heap.get? s.heap.objs.size with
  | none=>rfl
  | some o=>exact absurd (Heap.lt_size q) (Nat.lt_irrefl _)
 have hX:∀b∈[s.heap.objs.size],s.heap.get? b=none:=by simpa using fresh
 obtain⟨oL,es,ep,eoL,edL,_⟩:_:=id hns
 let c:Cx:=⟨A.deeper (callEnv fd s.heap.objs.size f),callEnv fd s.heap.objs.size f,s.heap.objs.size,[s.heap.objs.size],P⟩
 have env_cells:(callEnv fd s.heap.objs.size f).cells=[]:=hf.closure
 have O:c.OkF n:=by
  refine⟨⟨⟨a1,?_,?_,(zV (callEnv fd s.heap.objs.size f) fr (Around.frames_deeper a4) rfl (fun e he=>?_)),hf.kind,hf.globals,hf.builtins,rfl,List.mem_singleton.mpr rfl,fun x b e=>?_,fun b hb hp=>?_⟩,fun x b e=>?_⟩,fun x b e=>?_,fun x y b e=>?_,fun x e=>?_⟩
  ·show A.depth+1+4*n<=900;exact F1 a2
  ·show A.units+3+100*n+100<=cLine;exact F1 a3
  ·rcases List.mem_cons.mp he with rfl | he
   ·exact⟨(by rw[show (callEnv fd s.heap.objs.size f).scope=fd.scope from rfl,hf.kind];intro q;exact nomatch q),s.heap.objs.size,rfl,by simp[c,Cx.P]⟩
   ·refine xn (a5 e he) fun k n6z=>?_;refine yY (n6z) fun L k1 k2 z=>?_;try clear n6z;exact⟨k,L,k1,List.mem_append_right _ k2⟩
  ·have:List.lookup x (callEnv fd s.heap.objs.size f).cells=some b:=e;rw[env_cells]at this;cases this
  ·rw[List.mem_singleton.mp hb]at hp;refine zX (S.domP _ hp) fun o' e'=>?_;rw[fresh]at e';cases e'
  ·have:List.lookup x (callEnv fd s.heap.objs.size f).cells=some b:=e;rw[env_cells]at this;cases this
  ·have:List.lookup x (callEnv fd s.heap.objs.size f).cells=some b:=e;rw[env_cells]at this;cases this
  ·have:List.lookup x (callEnv fd s.heap.objs.size f).cells=some b:=e;rw[env_cells]at this;cases this
  ·exfalso
   have e:fd.scope.names.lookup x=some .cell:=e;have hm:=tU e;exact hcell _ hm rfl
 have S₁:SR B { s with heap:=h₁,toks:=s.toks+((is.map nm).zip vs).length } φ c.P st:=S.wider hk hX (fun b hb=>by rw[List.mem_singleton.mp hb];exact⟨oL,eoL⟩);have g₀:Go P [] s.heap φ h₁ φ:=Go.of_keep hk;have ras1:VRs B h₁ φ c.P as vs:=(ras.wider hX).go (Go.of_keep (ex:=[]) hk)
 have F₁:FR B nm nN h₁ φ c (Rho.of is as):=by
  refine⟨(zw _ hns (fun i a e=>?_)),fun x b e=>?_,fun fr' hf' e he L hL'=>?_⟩
  ·refine yY (Rho.of_get (is:=is) (as:=as) e) fun k h1 h2 z=>?_;have hm:=List.mem_of_getElem? h1;refine⟨hi i hm,?_⟩;have hk':c.env.kindOf (nm i)=some .local:=hloc i hm;rw[hk'];refine zn (ras1.at h2) fun v hv rv=>?_;exact zw v (Zx nm hnd (fun a ha b hb q=>hinj a b (hi a ha) (hi b hb) q) h1 hv) rv
  ·have:List.lookup x (callEnv fd s.heap.objs.size f).cells=some b:=e;rw[env_cells]at this;cases this
  ·have e':some (callEnv fd s.heap.objs.size f::fr)=some fr':=by rw[<-hf'];exact(Around.frames_deeper a4).symm
   cases e'
   rcases List.mem_cons.mp he with rfl | he
   ·cases hL';exact zw oL eoL (fun ws q=>by rw[edL]at q;cases q)
   ·refine xn (a5 e he) fun z n7z=>?_;refine yY (n7z) fun L'' k1 k2 n10z=>?_;try clear n7z;refine zn (n10z) fun o' k3 k4=>?_;try clear n10z;rw[hL']at k1;cases k1;exact zw o' (hk _ _ k3) k4
 have narrow:∀{h':Heap} {φ':List Addr},Go c.P c.own h₁ φ h' φ'->Go P [] s.heap φ h' φ':=fun g=>Go.narrower (X:=[s.heap.objs.size]) g hk hX (by simp[c]);refine wpAny_mono (h.run c _ φ O rfl S₁ F₁) ?_ ?_
 ·intro fl s' p1z;refine X9 (p1z) fun φ' st' r' S' g' F' hR=>?_;try clear p1z;have mk:∀{a:AV} {v:Value},VR B s'.heap φ' c.P a v->Q a st'->Po B P s.heap φ (Val B P Q) v s':=fun ra hq=>(zV φ' st' S'.narrower (narrow g') ⟨_,ra.narrower,hq⟩)
  cases fl with
  | next=>exact mk (a:=.none) (rfl) hR
  | cont=>exact hR.elim
  | brk=>exact hR.elim
  | ret v=>obtain⟨a,ra,hq⟩:=hR;exact mk ra hq
 ·intro x s' p2z;refine R_ (p2z) fun φ' st' r' told S' g' F' ein hX'=>?_;try clear p2z
  have hH':∀b,h₁.get? b=none->B.H₀.get? b=none:=fun b hb=>by
   cases q:B.H₀.get? b with
   | none=>rfl
   | some o'=>have:=hk b o' (S.base b o' q);rw[hb]at this;cases this
  refine Zv O.toOk S' F' ein hH' g'.dom fun h₂ SS t hn e2=>?_;have S₂:SR B { s' with heap:=h₂,toks:=s'.toks } φ' c.P st':=S'.turnX t fun b hb=>hH' b (hn b hb);have e3:x_ B s.heap h₂ φ' P x told (some .none):=e2.nar (X:=c.own) fun b o q=>⟨o,hk b o q⟩;exact yD φ' st' told S₂.narrower (narrow (g'.turnX t hn)) e3 hX'
end
section
variable {B:Base} {Q:AV->St->Prop} {st:St} {s:Shared} {φ P:List Addr}
theorem zS {h:Heap} {i:Int} {v:Value} (e:VR B h φ P (.int i) v):∃t,v = .int i t:=by exact e
theorem xb {h:Heap} {i:List Nat} {v:Value} (e:VR B h φ P (.str i) v):∃t,v = .str (mkS i) t:=by exact e
theorem zF {h:Heap} {i:List UInt8} {v:Value} (e:VR B h φ P (.bytes i) v):∃t,v = .bytes i.toArray t:=by exact e
theorem jc {h:Heap} {i:Bool} {v:Value} (e:VR B h φ P (.bool i) v):v = .bool i:=by exact e
theorem jb {h:Heap} {v:Value} (e:VR B h φ P .none v):v = .none:=by exact e
theorem zJ {h:Heap} {n:Nat} {v:Value} (e:VR B h φ P (.ref n) v):∃a,φ[n]?=some a/\v = .ref a:=by exact e
theorem yG {h:Heap} {i:Int} {t:Tok}:VR B h φ P (.int i) (.int i t):=by exact⟨t,rfl⟩
theorem u4 {h:Heap} {i:List Nat} {t:Tok}:VR B h φ P (.str i) (.str (mkS i) t):=by exact⟨t,rfl⟩
theorem yV {h:Heap} {i:List UInt8} {t:Tok}:VR B h φ P (.bytes i) (.bytes i.toArray t):=by exact⟨t,rfl⟩
theorem ya {h:Heap} {i:Bool}:VR B h φ P (.bool i) (.bool i):=by exact rfl
theorem vx {h:Heap}:VR B h φ P .none .none:=by exact rfl
theorem SR.listAt (S:SR B s φ P st) {n:Nat} {a:Addr} {xs:List AV} (hn:φ[n]?=some a) (hx:st[n]?=some (.list xs)) :
  ∃vs k,s.heap.get? a=some { cls:=.type "list",dict:=none,data:=.seq vs.toArray k,slots:=#[] }/\VRs B s.heap φ P xs vs:=S.objs n a _ hn hx
theorem zj {i j:Int} (h:Q (.int (i+j)) st):yl B (binaryOp .Add) (.int i) (.int j) Q st:=by
 intro A P s φ v w hh hu S rv rw_
 apply zO (zS rv);intro t
 apply zO (zS rw_);intro u
 exact add_int (zE S (zw _ yG h))
theorem w8 {i j:Int} (h:Q (.int (i-j)) st):yl B (binaryOp .Sub) (.int i) (.int j) Q st:=by
 intro A P s φ v w hh hu S rv rw_
 apply zO (zS rv);intro t
 apply zO (zS rw_);intro u
 exact sub_int (zE S (zw _ yG h))
theorem vB {i j:Int} (hi:-(2 ^ 63)<=i/\i<2 ^ 63) (h:Q (.int (i*j)) st):yl B (binaryOp .Mult) (.int i) (.int j) Q st:=by
 intro A P s φ v w hh hu S rv rw_
 apply zO (zS rv);intro t
 apply zO (zS rw_);intro u
 exact mul_int (zE S ⟨_,yG,h⟩) (IntMulOk.of_left (intBits_le_64 (Int.lt_of_lt_of_le (by decide) hi.1) (Int.lt_trans hi.2 (by decide))))
theorem TM {i j:Int} (hj:0<j):i.fdiv j=i/j:=Int.fdiv_eq_ediv_of_nonneg _ (Int.le_of_lt hj)
theorem S4 {i j:Int} (hj:0<j):i.fmod j=i%j:=Int.fmod_eq_emod_of_nonneg _ (Int.le_of_lt hj)
theorem yx {i j:Int} (hj:0<j) (hj':j<1073741824) (h:Q (.int (i/j)) st):yl B (binaryOp .FloorDiv) (.int i) (.int j) Q st:=by
 intro A P s φ v w hh hu S rv rw_
 apply zO (zS rv);intro t
 apply zO (zS rw_);intro u
 have hp:Builtin.divisionGoesByPylong i j=false\/PylongRoom (model B.prog B.w) A s:=.inl (PyProof.noPylong_small (iT (Int.lt_of_le_of_lt (Int.le_of_eq (Int.natAbs_of_nonneg (Int.le_of_lt hj))) hj')));refine floordiv_int (Int.ne_of_gt hj) ?_;rw[TM hj];exact zE S ⟨_,yG,h⟩
theorem zB {i j:Int} (hj:0<j) (h:Q (.int (i%j)) st):yl B (binaryOp .Mod) (.int i) (.int j) Q st:=by
 intro A P s φ v w hh hu S rv rw_
 apply zO (zS rv);intro t
 apply zO (zS rw_);intro u
 refine PyProof.Rows.mod_int (Int.ne_of_gt hj) ?_;rw[S4 hj];exact zE S ⟨_,yG,h⟩
theorem vw {i j:Int} (h:Q (.int (Builtin.bitAnd i j)) st):yl B (binaryOp .BitAnd) (.int i) (.int j) Q st:=by
 intro A P s φ v w hh hu S rv rw_
 apply zO (zS rv);intro t
 apply zO (zS rw_);intro u
 exact and_int (zE S (zw _ yG h))
theorem vn {i:Int} (h:Q (.int (-i)) st):R6 B (unaryOp .USub) (.int i) Q st:=by
 intro A P s φ v hh hu S rv
 apply zO (zS rv);intro t
 exact neg_int (zE S (zw _ yG h))
noncomputable def P7:CmpOp->Int->Int->Option Bool
 | .Eq,i,j=>some (decide (i=j))
 | .NotEq,i,j=>some (!decide (i=j))
 | .Lt,i,j=>some (decide (i<j))
 | .LtE,i,j=>some (decide (i<=j))
 | .Gt,i,j=>some (decide (j<i))
 | .GtE,i,j=>some (decide (j<=i))
 | _,_,_=>none
theorem z6 {op:CmpOp} {i j:Int} {b:Bool} (e:P7 op i j=some b) (h:Q (.bool b) st):yl B (compareOp op) (.int i) (.int j) Q st:=by
 intro A P s φ v w hh hu S rv rw_
 apply zO (zS rv);intro t
 apply zO (zS rw_);intro u
 have done:Po B P s.heap φ (Val B P Q) (.bool b) s:=z8 S ⟨_,ya,h⟩
 cases op<;>first | (have e:=Option.some.inj e) | cases e
 ·refine eq_int ?_;rw[show (i==j)=b from by rw[<-e];by_cases q:i=j<;>simp[q]];exact done
 ·refine ne_int ?_;rw[show (i != j)=b from by rw[<-e];by_cases q:i=j<;>simp[q]];exact done
 ·exact lt_int (by rw[e];exact done)
 ·exact le_int (by rw[e];exact done)
 ·exact gt_int (by rw[e];exact done)
 ·exact ge_int (by rw[e];exact done)
noncomputable def yT:AV->Bool
 | .none=>true
 | _=>false
theorem Zp {h:Heap} {a:AV} {v:Value} (e:VR B h φ P a v):(v == .none)=yT a:=by
 cases a with
 | none=>subst e;rfl
 | bool=>subst e;rfl
 | int=>apply zO (e);intro t;rfl
 | str=>apply zO (e);intro t;rfl
 | bytes=>apply zO (e);intro t;rfl
 | tup=>apply ZJ (e);intro t _ _;rfl
 | info=>apply ZJ (e);intro t _ _;rfl
 | clist=>apply ZJ (e);intro t _ _;rfl
 | ref=>obtain⟨t,_,rfl⟩:=e;rfl
theorem w9 {a:AV} (h:Q (.bool (yT a)) st):yl B (compareOp .Is) a .none Q st:=by
 intro A P s φ v w hh hu S rv rw_;subst rw_;refine PySem.is_none ?_;rw[Zp rv];exact z8 S (zw _ ya h)
theorem xO {a:AV} (h:Q (.bool (!yT a)) st):yl B (compareOp .IsNot) a .none Q st:=by
 intro A P s φ v w hh hu S rv rw_;subst rw_;refine PySem.isNot_none ?_;rw[Zp rv];exact z8 S (zw _ ya h)
theorem z_ (x:List Nat):(mkS x).length=x.length:=by unfold mkS Str.length;exact rfl
theorem Wn (x y:List Nat):mkS x++mkS y=mkS (x++y):=by
 show (⟨(mkS x).cps++(mkS y).cps⟩:Str)=_;unfold mkS;simp
theorem z9 {x y:List Nat} (hz:x.length+y.length<=16777216) (h:Q (.str (x++y)) st):yl B (binaryOp .Add) (.str x) (.str y) Q st:=by
 intro A P s φ v w hh hu S rv rw_
 apply zO (xb rv);intro t
 apply zO (xb rw_);intro u
 refine add_str (fun t' tk=>?_) (by rw[z_,z_,sizeLine_eq];exact hz);rw[Wn];exact zE S (zw _ u4 h)
theorem zZ {x y:List UInt8} (hz:x.length+y.length<=16777216) (h:Q (.bytes (x++y)) st):yl B (binaryOp .Add) (.bytes x) (.bytes y) Q st:=by
 intro A P s φ v w hh hu S rv rw_
 apply zO (zF rv);intro t
 apply zO (zF rw_);intro u
 refine PySem.W.KBy.add_bytes (hz) (fun t' tk=>?_);rw[List.append_toArray];exact zE S (zw _ yV h)
theorem zU {x y:List UInt8} (h:Q (.bool (decide (x=y))) st):yl B (compareOp .Eq) (.bytes x) (.bytes y) Q st:=by
 intro A P s φ v w hh hu S rv rw_
 apply zO (zF rv);intro t
 apply zO (zF rw_);intro u
 refine eq_bytes ?_;rw[show (x.toArray.toList==y.toArray.toList)=decide (x=y) from by by_cases q:x=y<;>simp[q]];exact z8 S ⟨_,ya,h⟩
theorem sU {x y:List UInt8} (h:Q (.bool (!decide (x=y))) st):yl B (compareOp .NotEq) (.bytes x) (.bytes y) Q st:=by
 intro A P s φ v w hh hu S rv rw_
 apply zO (zF rv);intro t
 apply zO (zF rw_);intro u
 refine ne_bytes ?_;rw[show (x.toArray.toList != y.toArray.toList)=!decide (x=y) from by by_cases q:x=y<;>simp[q]];exact z8 S ⟨_,ya,h⟩
theorem wZ {x y:List Nat} (h:Q (.bool (decide (x=y))) st):yl B (compareOp .Eq) (.str x) (.str y) Q st:=by
 intro A P s φ v w hh hu S rv rw_
 apply zO (xb rv);intro t
 apply zO (xb rw_);intro u
 refine eq_str ?_
 have:(mkS x==mkS y)=decide (x=y):=by
  by_cases q:x=y
  ·subst q;simp
  ·have:mkS x≠mkS y:=fun e=>q (V5 e);simp[q,this]
 rw[this];exact z8 S (zw _ ya h)
theorem IsList.of_plain {h:Heap} {a:Addr} {vs:Array Value} {k:Nat} (e:h.get? a=some { cls:=.type "list",dict:=none,data:=.seq vs k,slots:=#[] }):h.IsList a vs:=uG _ e rfl ⟨k,rfl⟩
theorem yA {m n:Nat} {xs ys:List AV} (hm:st[m]?=some (.list xs)) (hn:st[n]?=some (.list ys)) (hz:xs.length+ys.length<=16777216) (h:Q (.ref st.length) (st++[.list (xs++ys)])) :
  yl B (binaryOp .Add) (.ref m) (.ref n) Q st:=by
 revert B Q st m n xs ys hm hn hz h
 intros B Q st m n xs ys hm hn hz h;intros A P s φ v w hh hu S rv rw_;obtain⟨a,ha,rfl⟩:_:=zJ rv;obtain⟨b,hb,rfl⟩:_:=zJ rw_;obtain⟨vs,k,e1,r1⟩:_:=S.listAt ha hm;obtain⟨ws,l,e2,r2⟩:_:=S.listAt hb hn;refine PySem.P.add_list e1 e2 ?_ (by rw[List.size_toArray,List.size_toArray,r1.length,r2.length,sizeLine_eq];exact hz);have hk:∀b ob,s.heap.get? b=some ob->(s.heap.push { cls:=.type "list",data:=.seq (vs.toArray++ws.toArray) }).get? b=some ob:=fun b ob e=>Heap.get?_push_of_some _ e;obtain⟨S',g⟩:_:=S.more (o:=default) (o':=.list (xs++ys)) (t:=s.toks) hk ⟨_,Heap.get?_push_size _ rfl⟩ fun g=>(wm (vs++ws) 0 (by rw[<-List.append_toArray];exact Heap.get?_push_size _ rfl) ((r1.go g).append (r2.go g)));refine zV _ _ S' g ⟨.ref st.length,?_,h⟩;exact zw _ (by rw[<-S.len];exact gn) rfl
end
structure Adv (W:List Addr) (h h':Heap):Prop where
 keep:∀b o,b∉W->h.get? b=some o->h'.get? b=some o
 recs:∀b o,h.get? b=some o->b∈W->∃ws,o.data = .fields ws
 dom:∀b o,h.get? b=some o->∃o',h'.get? b=some o'
structure TX (W:List Addr) (h h':Heap):Prop where
 keep:∀b o,b∉W->h.get? b=some o->h'.get? b=some o
 recs:∀b o,h.get? b=some o->b∈W->∃ws,o.data = .fields ws
theorem TX.turn {W P:List Addr} {h h':Heap} (a:TX W h h'):w3 W P h h' :=
 ⟨fun b o e hb z=>a.keep b o hb e,fun b o e hb hn=>⟨o.slots,a.keep b o hn e⟩,a.recs⟩
theorem Adv.turn {W P:List Addr} {h h':Heap} (a:Adv W h h') (hP:∀b∈W,b∉P):xo W P h h' :=
 ⟨fun b o e hb z=>a.keep b o hb e,fun b o e hb hn=>⟨o.slots,a.keep b o hn e⟩,a.recs,a.dom⟩
theorem Adv.trans {W:List Addr} {h1 h₂ h₃:Heap} (a:Adv W h1 h₂) (b:Adv W h₂ h₃):Adv W h1 h₃ :=
 ⟨fun x o hx e=>b.keep x o hx (a.keep x o hx e),a.recs,fun x o e=>zX (a.dom x o e) fun o' e'=>b.dom x o' e'⟩
theorem Adv.of_sameBut {W:List Addr} {h h':Heap} {it:Addr} (hs:Heap.SameBut it h h') (hit:it∈W) (hW:∀b o,h.get? b=some o->b∈W->∃ws,o.data = .fields ws) (hd:∃o,h'.get? it=some o):Adv W h h' :=
 ⟨fun b o hb e=>(hs.2 b fun q=>hb (q▸hit)).trans e,hW,fun b o e=>by
  by_cases q:b=it
  ·subst q;exact hd
  ·exact⟨o,(hs.2 b q).trans e⟩⟩
structure sm (B:Base) (tg:Expr) (it:Value) (W:List Addr) (J:Nat->Heap->Prop) (src:AV) (sv:Value) (items:List AV) (guard:St->Prop):Prop where
 frame:∀i h h',J i h->(∀b∈W,∀o,h.get? b=some o->h'.get? b=some o)->J i h'
 live:∀i h,J i h->∀b∈W,∃o,h.get? b=some o
 self:∀i (A:Around) (s:Shared) (Q:Value->Shared->Prop) (E:Value->Shared->Prop),J i s.heap->Q it s->wpAny (model B.prog B.w) A (pyIter it) Q E s
 draw:∀i (A:Around) (P:List Addr) (s:Shared) (φ:List Addr) (st:St) (Q:Value->Shared->Prop) (N:Shared->Prop) (E:Value->Shared->Prop),A.handled=none->A.units+100<=cLine->SR B s φ P st->guard st->VR B s.heap φ P src sv->J i s.heap ->
  (∀b∈W,b∉φ/\b∉P) ->
  (∀v a h' tk,items[i]?=some a->VR B h' φ P a v->J (i+1) h'->Adv W s.heap h'->Q v { s with heap:=h',toks:=tk }) ->
  (∀h' tk,items[i]?=none->TX W s.heap h'->N { s with heap:=h',toks:=tk }) ->
  wpAny (model B.prog B.w) A (pyNext it) (fun r s₁=>match r with
   | none=>N s₁
   | some v=>wpAny (model B.prog B.w) A (letOwnedTupleGo tg it v) (fun z s₂=>Q v s₂) E s₁) E s
noncomputable def kN (B:Base) (P:List Addr) (tg:Expr) (h₀:Heap) (Q:List AV->(St->Prop)->St->Prop):Value->Heap->List Addr->St->Prop:=fun it h φ st =>
 ∃W J src sv items guard,sm B tg it W J src sv items guard/\J 0 h/\VR B h φ P src sv/\(∀b∈W,h₀.get? b=none/\b∉φ/\b∉P)/\Q items guard st
structure WI (B:Base) (nm:Nat->Str) (nN n:Nat) (sc:Scope) (tg e:Expr) (ρ:Rho) (Q:List AV->(St->Prop)->St->Prop) (X:AV->St->Prop) (st:St):Prop where
 run:∀(c:Cx) (s:Shared) (φ:List Addr),c.Ok n->c.env.scope=sc->SR B s φ c.P st->FR B nm nN s.heap φ c ρ ->
  wpAny (model B.prog B.w) c.A (eval e c.env) (fun x s₁=>wpAny (model B.prog B.w) c.A (pyIter x) (Po B c.P s.heap φ (kN B c.P tg s.heap Q)) (Exc B c.P s.heap φ c.L X) s₁) (Exc B c.P s.heap φ c.L X) s
inductive Tg where
 | one (i:Nat) | tup (is:List Nat)
noncomputable def Tg.bind:Tg->AV->Rho->Option Rho
 | .one i,a,ρ=>some (ρ.set i a)
 | .tup is,.tup as,ρ=>bif Nat.beq is.length as.length then some (ρ.sets is as) else none
 | _,_,_=>none
theorem Tg.bind_1:∀(a:AV) (ρ:Rho) (i:Nat),Tg.bind (Tg.one i) a ρ=some (Rho.set ρ i a):=fun a a a=>rfl
theorem Tg.bind_2:∀(ρ:Rho) (is:List Nat) (as:List AV),Tg.bind (Tg.tup is) (AV.tup as) ρ=bif Nat.beq (List.length is) (List.length as) then some (Rho.sets ρ is as) else none:=fun a a a=>rfl
inductive ZS (nm:Nat->Str):Tg->Expr->Prop
 | one {i p}:ZS nm (.one i) (.Name (nm i) p)
 | tup {is ps k tp}:is.length=ps.length->ZS nm (.tup is) (.Tuple (tgs nm is ps) k tp)
noncomputable def Tg.names:Tg->List Nat
 | .one i=>[i]
 | .tup is=>is
section
variable {B:Base} {nm:Nat->Str} {nN n:Nat} {sc:Scope} {ρ:Rho} {R:Fl->Rho->St->Prop} {X:AV->Rho->St->Prop} {st:St} {s:Shared} {φ:List Addr}
set_option tactic.hygienic true in
theorem Zl {c:Cx} {prog:Program} {w:World} {Q:Unit->Shared->Prop} {E:Value->Shared->Prop} (hinj:u3 nm nN) (O:c.OkL n) {t:Tg} {tg:Expr} (ht:ZS nm t tg) (hi:∀i∈t.names,i<nN/\VS n c (nm i))
  {a:AV} {v:Value} {r':Rho} (hb:t.bind a ρ=some r') (S:SR B s φ c.P st) (F:FR B nm nN s.heap φ c ρ) (rv:VR B s.heap φ c.P a v)
  (h:∀s',SR B s' φ c.P st->Go c.P c.own s.heap φ s'.heap φ->FR B nm nN s'.heap φ c r'->Q () s') :
  wpAny (model prog w) c.A (assign tg c.env v) Q E s:=by
 cases ht with
 | @one i p =>
  simp only[Tg.bind_1,Option.some.injEq]at hb;subst hb;have hi:=hi i (.head _);exact wpAny_assign_Name (wV hinj O S F hi.1 hi.2 rv fun h' t S' g F'=>h _ S' g F')
 | @tup is ps k tp hp =>
  cases a<;>first
   | (cases hb;done)
   | skip
  rename_i as;simp only[Tg.bind_2]at hb
  cases hq:Nat.beq is.length as.length with
  | false=>rw[hq]at hb;cases hb
  | true =>
   rw[hq]at hb;cases hb;exact jK hinj O (fun i q=>hi i q) hp (Nat.eq_of_beq_eq_true hq) S F rv h
theorem Go.adv {P ex W:List Addr} {h₀ h h':Heap} {φ₀ φ:List Addr} (g:Go P ex h₀ φ₀ h φ) (a:Adv W h h') (hW:∀b∈W,h₀.get? b=none/\b∉φ/\b∉P):Go P ex h₀ φ₀ h' φ :=
 g.turnX (a.turn fun b hb=>(hW b hb).2.2) fun b hb=>(hW b hb).1
noncomputable def LpI (B:Base) (nm:Nat->Str) (nN:Nat) (c:Cx) (h₀:Heap) (φ:List Addr) (W:List Addr) (J:Nat->Heap->Prop) (src:AV) (sv:Value) (items:List AV) (I:List AV->Rho->St->Prop) (m:Nat) (s':Shared):Prop :=
 ∃φ' st' ρ' i,SR B s' φ' c.P st'/\Go c.P c.own h₀ φ s'.heap φ'/\FR B nm nN s'.heap φ' c ρ'/\J i s'.heap/\VR B s'.heap φ' c.P src sv/\(∀b∈W,h₀.get? b=none/\b∉φ'/\b∉c.P) /\
   I (items.drop i) ρ' st'/\m=items.length+1-i/\i<=items.length
noncomputable def LpX (B:Base) (nm:Nat->Str) (nN:Nat) (c:Cx) (s:Shared) (φ:List Addr) (X:AV->Rho->St->Prop):Value->Shared->Prop:=notedBy (model B.prog B.w) c.A c.env (cameBackBy (model B.prog B.w) c.A c.env (ExS B nm nN c s.heap φ X))
noncomputable def LpF (B:Base) (nm:Nat->Str) (nN:Nat) (c:Cx) (s:Shared) (φ:List Addr) (R:Fl->Rho->St->Prop) (K:Nat->Shared->Prop) (k:Nat) (f:Flow) (s₆:Shared):Prop:=match f with
 | .next | .cont=>∃m,m<k/\K m s₆
 | .brk=>PoS B nm nN c s.heap φ R .next s₆
 | .ret v=>PoS B nm nN c s.heap φ R (.ret v) s₆
noncomputable def LpQ (B:Base) (nm:Nat->Str) (nN:Nat) (c:Cx) (s:Shared) (φ:List Addr) (R:Fl->Rho->St->Prop) (X:AV->Rho->St->Prop) (K:Nat->Shared->Prop) (tg:Expr) (body:List Stmt) (k:Nat) (v:Value) (s₄:Shared):Prop :=
 wpAny (model B.prog B.w) c.A (assign tg c.env v) (fun z s₅=>wpAny (model B.prog B.w) c.A (execs body c.env) (LpF B nm nN c s φ R K k) (LpX B nm nN c s φ X) s₅) (LpX B nm nN c s φ X) s₄
noncomputable def LpN (guard:St->Prop) (R:Fl->Rho->St->Prop) (I:List AV->Rho->St->Prop):Prop:=∀ρ' st',I [] ρ' st'->guard st'/\R .next ρ' st'
noncomputable def LpB (B:Base) (nm:Nat->Str) (nN n:Nat) (sc:Scope) (body:List Stmt) (t:Tg) (guard:St->Prop) (R:Fl->Rho->St->Prop) (X:AV->Rho->St->Prop) (I:List AV->Rho->St->Prop):Prop :=
 ∀a rest ρ' st',I (a::rest) ρ' st'->guard st' /\ ∃ρ'',t.bind a ρ'=some ρ''/\WSs B nm nN n sc body ρ'' (fun f ρ₃ st₃=>match f with
    | .next | .cont=>I rest ρ₃ st₃
    | .ret v=>R (.ret v) ρ₃ st₃) X st'
section
variable {W:List Addr} {J:Nat->Heap->Prop} {src:AV} {sv it:Value} {items:List AV} {guard:St->Prop} {I:List AV->Rho->St->Prop} {c:Cx} {t:Tg} {tg:Expr} {body:List Stmt} {s₃:Shared} {φ₃:List Addr} {st₃:St} {ρ₃:Rho} {i:Nat}
theorem XC {h':Heap} {s₆:Shared} {φ₆:List Addr} {st6:St} {r6:Rho} (hit:sm B tg it W J src sv items guard) (hl:i<items.length) (hJ':J (i+1) h') (hsrc:VR B h' φ₃ c.P src sv)
  (hW3:∀b∈W,s.heap.get? b=none/\b∉φ₃/\b∉c.P) (gB:Go c.P c.own h' φ₃ s₆.heap φ₆) (S₆:SR B s₆ φ₆ c.P st6) (gg:Go c.P c.own s.heap φ s₆.heap φ₆) (F₆:FR B nm nN s₆.heap φ₆ c r6) (hI':I (items.drop (i+1)) r6 st6) :
  ∃m,m<items.length+1-i/\LpI B nm nN c s.heap φ W J src sv items I m s₆:=by
 refine zw (items.length+1-(i+1)) (s6 hl) ⟨φ₆,st6,r6,i+1,S₆,gg,F₆,hit.frame _ _ _ hJ' (fun b hb o e=>gB.keep b o e (hW3 b hb).2.1 (hW3 b hb).2.2),hsrc.go gB,fun b hb=>?_,hI',rfl,hl⟩;refine zX (hit.live _ _ hJ' b hb) fun o ho=>?_;exact d3_ ((hW3 b hb).1) (gB.notMem (hW3 b hb).2.1 ho) ((hW3 b hb).2.2)
theorem SY {v:Value} {a:AV} {h':Heap} {tk:Nat} (hinj:u3 nm nN) (O:c.OkF n) (hs:c.env.scope=sc) (ht:ZS nm t tg) (hi:∀i∈t.names,i<nN/\wH sc (nm i)) (hit:sm B tg it W J src sv items guard) (hH:∀b o,B.H₀.get? b=some o->∃o',s.heap.get? b=some o') (hWH:∀b∈W,B.H₀.get? b=none)
  (hstep:LpB B nm nN n sc body t guard R X I) (S₃:SR B s₃ φ₃ c.P st₃) (g₃:Go c.P c.own s.heap φ s₃.heap φ₃) (F₃:FR B nm nN s₃.heap φ₃ c ρ₃) (hsrc3:VR B s₃.heap φ₃ c.P src sv) (hW3:∀b∈W,s.heap.get? b=none/\b∉φ₃/\b∉c.P) (hI:I (items.drop i) ρ₃ st₃)
  (hia:items[i]?=some a) (ra:VR B h' φ₃ c.P a v) (hJ':J (i+1) h') (adv:Adv W s₃.heap h') :
  LpQ B nm nN c s φ R X (LpI B nm nN c s.heap φ W J src sv items I) tg body (items.length+1-i) v { s₃ with heap:=h',toks:=tk }:=by
 have T:=adv.turn fun b hb=>(hW3 b hb).2.2;have S₄:SR B { s₃ with heap:=h',toks:=tk } φ₃ c.P st₃:=S₃.turnX T hWH;have F₄:=F₃.turnX T;have g₄:=g₃.adv adv hW3;refine zX (List.getElem?_eq_some_iff.mp hia) fun hl hget=>?_
 have hd:items.drop i=a::items.drop (i+1):=by rw[List.drop_eq_getElem_cons hl,hget]
 rw[hd]at hI;refine xn (hstep _ _ _ _ hI) fun z n3z=>?_;refine zn (n3z) fun r'' hb hbody=>?_;try clear n3z;refine Zl hinj O.toOkL ht (fun i q=>⟨(hi i q).1,(hi i q).2.can O hs⟩) hb S₄ F₄ ra fun s₅ S₅ g₅ F₅=>?_;refine wpAny_mono (hbody.run c s₅ φ₃ O hs S₅ F₅) ?_ fun x s' y=>tQ O.toOk hH (y.after (g₄.trans g₅));intro f s₆ p1z;refine X9 (p1z) fun φ₆ st6 r6 S₆ g₆ F₆ h6=>?_;try clear p1z;have gg:=(g₄.trans g₅).trans g₆;have gB:=g₅.trans g₆;have sB:=hsrc3.turn T
 cases f with
 | next=>exact XC hit hl hJ' sB hW3 gB S₆ gg F₆ h6
 | cont=>exact XC hit hl hJ' sB hW3 gB S₆ gg F₆ h6
 | brk=>exact h6.elim
 | ret v=>exact yD φ₆ st6 r6 S₆ gg F₆ h6
theorem RZ {h':Heap} {tk:Nat} (hWH:∀b∈W,B.H₀.get? b=none) (hnil:LpN guard R I)
  (S₃:SR B s₃ φ₃ c.P st₃) (g₃:Go c.P c.own s.heap φ s₃.heap φ₃) (F₃:FR B nm nN s₃.heap φ₃ c ρ₃) (hW3:∀b∈W,s.heap.get? b=none/\b∉φ₃/\b∉c.P) (hI:I (items.drop i) ρ₃ st₃) (hia:items[i]?=none) (adv:TX W s₃.heap h') :
  wpAny (model B.prog B.w) c.A (execs [] c.env) (PoS B nm nN c s.heap φ R) (LpX B nm nN c s φ X) { s₃ with heap:=h',toks:=tk }:=by
 rw[List.drop_eq_nil_iff.mpr (List.getElem?_eq_none_iff.mp hia)]at hI;have T:w3 W c.P s₃.heap h':=adv.turn;have S₄:SR B { s₃ with heap:=h',toks:=tk } φ₃ c.P st₃:=S₃.turnW T (fun a ha o e=>⟨o,adv.keep a o (fun q=>(hW3 a q).2.2 ha) e⟩) hWH;exact wpAny_execs_nil (yD φ₃ st₃ ρ₃ S₄ (g₃.turnW T (fun b o e q=>⟨o,adv.keep b o q e⟩) fun b hb=>(hW3 b hb).1) (F₃.turnW T) ((hnil _ _ hI).2))
theorem S6 {m:Nat} (hinj:u3 nm nN) (O:c.OkF n) (hs:c.env.scope=sc) (ht:ZS nm t tg) (hi:∀i∈t.names,i<nN/\wH sc (nm i)) (hit:sm B tg it W J src sv items guard) (hH:∀b o,B.H₀.get? b=some o->∃o',s.heap.get? b=some o')
  (hnil:LpN guard R I) (hstep:LpB B nm nN n sc body t guard R X I) (h:LpI B nm nN c s.heap φ W J src sv items I m s₃) :
  wpAny (model B.prog B.w) c.A (pyNext it) (fun r s₁=>match r with
   | none=>wpAny (model B.prog B.w) c.A (execs [] c.env) (PoS B nm nN c s.heap φ R) (LpX B nm nN c s φ X) s₁
   | some v=>wpAny (model B.prog B.w) c.A (letOwnedTupleGo tg it v) (fun z s₂=>LpQ B nm nN c s φ R X (LpI B nm nN c s.heap φ W J src sv items I) tg body m v s₂) (LpX B nm nN c s φ X) s₁) (LpX B nm nN c s φ X) s₃:=by
 refine P3 (h) fun φ₃ st₃ ρ₃ i S₃ g₃ F₃ hJ3 hsrc3 hW3 hI e hle=>?_;try clear h;subst e
 have hWH:∀b∈W,B.H₀.get? b=none:=fun b hb=>by
  cases q:B.H₀.get? b with
  | none=>rfl
  | some o=>obtain⟨o',e'⟩:=hH b o q;rw[(hW3 b hb).1]at e';cases e'
 have hg:guard st₃:=by
  cases hd:items.drop i with
  | nil=>rw[hd]at hI;exact(hnil _ _ hI).1
  | cons a r=>rw[hd]at hI;exact(hstep _ _ _ _ hI).1
 exact hit.draw i c.A c.P s₃ φ₃ st₃ _ _ _ O.handled O.toOk.room S₃ hg hsrc3 hJ3 (fun b hb=>(hW3 b hb).2)
  (fun v a h' tk hia ra hJ' adv=>SY hinj O hs ht hi hit hH hWH hstep S₃ g₃ F₃ hsrc3 hW3 hI hia ra hJ' adv)
  fun h' tk hia adv=>RZ hWH hnil S₃ g₃ F₃ hW3 hI hia adv
end
theorem Ti {t:Tg} {tg e:Expr} {body:List Stmt} {pos:Pos} (hinj:u3 nm nN) (ht:ZS nm t tg) (hi:∀i∈t.names,i<nN/\wH sc (nm i)) (hf:∀env x,foldedSetIterable e env x=pure x)
  (h:WI B nm nN n sc tg e ρ (fun items guard st₁=>∃I:List AV->Rho->St->Prop,I items ρ st₁/\LpN guard R I/\LpB B nm nN n sc body t guard R X I) (fun x st'=>X x ρ st') st):WS B nm nN n sc (.For tg e body [] pos) ρ R X st:=by
 refine⟨fun c s φ O hs S F=>?_⟩;have hH:∀b o,B.H₀.get? b=some o->∃o',s.heap.get? b=some o':=fun b o e=>⟨o,S.base b o e⟩;refine wpAny_For ?_ (hf c.env);have toX:∀x s',Exc B c.P s.heap φ c.L (fun t st'=>X t ρ st') x s'->ExS B nm nN c s.heap φ X x s':=fun x s' y=>xG O.toOk F y;refine wpAny_mono (h.run c s φ O.toOk hs S F) (fun x s₁ h1=>wpAny_mono h1 ?_ toX) toX;intro it s₂ p2z;refine xH (p2z) fun φ₂ st2 S₂ g₂ n4z=>?_;try clear p2z;refine RP (n4z) fun W J src sv items guard hit hJ hsrc hW n5z=>?_;try clear n4z;refine yY (n5z) fun I h0 hnil hstep=>?_;try clear n5z
 refine codeAny_mono (codeAny_forLoop_any (LpI B nm nN c s.heap φ W J src sv items I) (R:=fun r s'=>match r with | .ok f=>PoS B nm nN c s.heap φ R f s' | .error e=>cameBackBy (model B.prog B.w) c.A c.env (ExS B nm nN c s.heap φ X) e s') ?_ (items.length+1)
  (Pe φ₂ st2 ρ 0 S₂ g₂.weak (F.go O.toOk g₂) hJ hsrc hW h0 rfl (wD))) fun r s' y=>by cases r<;>exact y
 intro m s₃ h₃;refine wpAny_mono (S6 hinj O hs ht hi hit hH hnil hstep h₃) (fun r s' y=>?_) fun z z y=>y
 cases r<;>exact y
end
noncomputable instance:Nonempty Tg:=⟨.one 0⟩
section
variable {B:Base} {tg:Expr} {A:Around} {P:List Addr} {s:Shared} {φ:List Addr} {st:St} {prog:Program} {w:World} {E:Value->Shared->Prop}
theorem vj {I:Addr} {o:Obj} {T:String} {v:Value} {Q:Unit->Shared->Prop} (ho:s.heap.get? I=some o) (hc:o.cls = .type T)
  (hT:(["enumerate","zip","dict_itemiterator","dict_reverseitemiterator","odict_iterator","itertools.zip_longest","itertools.pairwise"].contains T)=false) (hQ:Q () s) :
  wpAny (model prog w) A (letOwnedTupleGo tg (.ref I) v) Q E s:=by
 have key:wpAny (model prog w) A (do
   let (.ref r,.ref a):=(Value.ref I,v) | return
   let o <-load r
   match o.cls,o.data with
   | .type n,.fields vs =>
    if ["enumerate","zip","dict_itemiterator","dict_reverseitemiterator","odict_iterator","itertools.zip_longest","itertools.pairwise"].contains n&&vs[0]?==some (rawInt a) then
     rule "for.unpacks-the-owned-tuple"
     updateField r 0 .none
   | _,_=>pure ()) Q E s:=by
  cases v with
  | ref a =>
   refine wpAny_bind (wpAny_load ho ?_);rw[hc]
   cases hd:o.data with
   | fields vs =>
    simp only[hT,Bool.false_and,Bool.false_eq_true,if_false];exact wpAny_pure hQ
   | _=>exact wpAny_pure hQ
  | _=>exact wpAny_pure hQ
 cases tg with
 | Tuple=>exact key
 | List=>exact key
 | _=>exact wpAny_pure hQ
theorem tS {W:List Addr} {h h':Heap} {it:Addr} {o:Obj} {ws:Array Value} (hs:Heap.SameBut it h h') (hW:W=[it]) (ho:h.get? it=some o) (hd:o.data = .fields ws) (hd':∃o,h'.get? it=some o):Adv W h h':=by
 subst hW;refine Adv.of_sameBut hs (List.mem_singleton.mpr rfl) (fun b ob e hb=>?_) hd';obtain rfl:=List.mem_singleton.mp hb;rw[ho]at e;cases e;exact⟨ws,hd⟩
theorem v7 {W:List Addr} {h h':Heap} {it:Addr} {o:Obj} {ws:Array Value} (hs:Heap.ExtBut it h h') (hW:W=[it]) (ho:h.get? it=some o) (hd:o.data = .fields ws):TX W h h':=by
 subst hW;refine⟨fun b o hb e=>hs b o (fun q=>hb (List.mem_singleton.mpr q)) e,fun b ob e hb=>?_⟩;obtain rfl:=List.mem_singleton.mp hb;rw[ho]at e;cases e;exact⟨ws,hd⟩
theorem VRs.get {h:Heap}:∀{l:List AV} {vs:List Value} {i:Nat} {v:Value},VRs B h φ P l vs->vs[i]?=some v->∃a,l[i]?=some a/\VR B h φ P a v
 | [],_,i,v,e,ev=>by subst e;exact nomatch ev
 | a::r,_,0,v,e,ev=>by
  obtain⟨u,t,rfl,ra,rt⟩:=e;simp -iota only[List.getElem?_cons_zero,Option.some.injEq]at ev;subst ev;exact⟨a,rfl,ra⟩
 | a::r,_,i+1,v,e,ev=>by
  obtain⟨u,t,rfl,ra,rt⟩:=e;obtain⟨b,hb,rb⟩:=rt.get (i:=i) (by simpa using ev);exact⟨b,by simpa using hb,rb⟩
theorem VRs.none {h:Heap} {l:List AV} {vs:List Value} {i:Nat} (e:VRs B h φ P l vs) (ev:vs[i]?=none):l[i]?=none:=by
 rw[List.getElem?_eq_none_iff]at ev ⊢;rw[<-e.length];exact ev
theorem UL {I ax:Addr} {src:AV} {sv:Value} {xs:List AV} {guard:St->Prop}
  (hsrc:∀(s:Shared) φ P st,SR B s φ P st->guard st->VR B s.heap φ P src sv->∃vs,s.heap.IsList ax vs.toArray/\VRs B s.heap φ P xs vs) :
  sm B tg (.ref I) [I] (fun i h=>h.IsListIter I ax i) src sv xs guard where
 frame:=fun i h h' hj hk=>hj.at fun o e=>hk I (.head _) o e
 live:=fun i h hj b hb=>by
  refine zn (hj) fun o ho z=>?_;try clear hj;exact⟨o,by rw[List.mem_singleton.mp hb];exact ho⟩
 self:=fun i A s Q E hj hQ=>wpAny_pyIter_listiter hj hQ
 draw:=fun i A P s φ st Q N E hh hu S hg hs hj hW hQ hN=>by
  refine zn (hsrc s φ P st S hg hs) fun vs hl rs=>?_;refine yY (id hj) fun o ho hc hd=>?_
  cases hv:vs[i]? with
  | none =>
   exact wpAny_pyNext_list_end hh hj hl (by simpa using hv) fun h' he=>hN h' s.toks (rs.none hv) (v7 he rfl ho hd)
  | some v =>
   refine zn (rs.get hv) fun a ha ra=>?_;refine wpAny_pyNext_list_item hj hl (by simpa using hv) fun h' hj' hsb=>?_;refine yY (id hj') fun o' ho' hc' hd'=>?_;have adv:=tS (W:=[I]) hsb rfl ho hd ⟨o',ho'⟩;exact vj (s:={ s with heap:=h' }) ho' hc' (by decide) (hQ v a h' s.toks ha (ra.turn (adv.turn fun b hb=>(hW b hb).2)) hj' adv)
theorem TG {I ax:Addr} {src:AV} {sv:Value} {xs:List AV} {guard:St->Prop}
  (hsrc:∀(s:Shared) φ P st,SR B s φ P st->guard st->VR B s.heap φ P src sv->∃vs,s.heap.IsTuple ax vs.toArray/\VRs B s.heap φ P xs vs) :
  sm B tg (.ref I) [I] (fun i h=>h.IsTupleIter I ax i) src sv xs guard where
 frame:=fun i h h' hj hk=>zn (hj) fun o ho r=>⟨o,hk I (.head _) o ho,r⟩
 live:=fun i h hj b hb=>by
  refine zn (hj) fun o ho z=>?_;try clear hj;exact⟨o,by rw[List.mem_singleton.mp hb];exact ho⟩
 self:=fun i A s Q E hj hQ=>wpAny_pyIter_tupleiter hj hQ
 draw:=fun i A P s φ st Q N E hh hu S hg hs hj hW hQ hN=>by
  refine zn (hsrc s φ P st S hg hs) fun vs hl rs=>?_;refine yY (id hj) fun o ho hc hd=>?_
  cases hv:vs[i]? with
  | none =>
   exact wpAny_pyNext_tuple_end hh hj hl (by simpa using hv) fun h' he=>hN h' s.toks (rs.none hv) (v7 he rfl ho hd)
  | some v =>
   refine zn (rs.get hv) fun a ha ra=>?_;refine wpAny_pyNext_tuple_item hj hl (by simpa using hv) fun h' hj' hsb=>?_;refine yY (id hj') fun o' ho' hc' hd'=>?_;have adv:=tS (W:=[I]) hsb rfl ho hd ⟨o',ho'⟩;exact vj (s:={ s with heap:=h' }) ho' hc' (by decide) (hQ v a h' s.toks ha (ra.turn (adv.turn fun b hb=>(hW b hb).2)) hj' adv)
noncomputable def kM:Int->Nat->List AV
 | _,0=>[]
 | k,m+1=>.int k::kM (k+1) m
theorem T5:∀(x:Int) (m:Nat),kM x (m+1)=AV.int x::kM (x+1) m:=fun a a=>rfl
theorem Xe:∀(k:Int) (m i:Nat),i<m->(kM k m)[i]?=some (.int (k+i))
 | k,0,i,h=>absurd h (Nat.not_lt_zero _)
 | k,m+1,0,h=>by simp -iota [T5]
 | k,m+1,i+1,h=>by
  show (kM (k+1) m)[i]?=_;rw[Xe (k+1) m i (F1 h)]
  congr 2;exact i1
theorem Xk:∀(k:Int) (m:Nat),(kM k m).length=m:=by
 intro b0_ l_
 revert b0_
 induction l_ with
 | zero =>
  intro _;exact rfl
 | succ m ih_ =>
  intro k;simp -iota [T5,ih_ (k+1)]
theorem Wv {I:Addr} {m:Nat}:sm B tg (.ref I) [I] (fun i h=>i<=m/\IsRangeIter h I (i:Int) ((m:Int)-i) 1) .none .none (kM 0 m) (fun z=>True) where
 frame:=fun i h h' hj hk=>⟨hj.1,hk I (.head _) _ hj.2⟩
 live:=fun i h hj b hb=>by
  obtain rfl:=List.mem_singleton.mp hb;exact⟨_,hj.2⟩
 self:=fun i A s Q E hj hQ=>wpAny_pyIter_rangeiter hj.2 hQ
 draw:=fun i A P s φ st Q N E hh hu S hg hs hj hW hQ hN=>by
  obtain⟨hi,hit⟩:=hj
  by_cases hlt:i<m
  ·refine wpAny_pyNext_range_item hit (Int.sub_pos_of_lt (kT _ _ hlt)) fun h' hj' hsb=>?_;have adv:=tS (W:=[I]) hsb rfl hit rfl ⟨_,hj'⟩;refine vj (s:={ s with heap:=h',toks:=s.toks+1 }) hj' rfl (by decide) (hQ _ (.int i) h' _ (by rw[Xe 0 m i hlt];simp) yG ⟨hlt,?_⟩ adv)
   have e1:((i:Int)+1)=((i+1:Nat):Int):=by exact rfl
   have e2:((m:Int)-i-1)=((m:Int)-((i+1:Nat):Int)):=Int.sub_sub ..;rw[<-e1,<-(Int.sub_sub ..:((m:Int)-i-1)=(m:Int)-((i:Int)+1))];exact hj'
  ·refine wpAny_pyNext_range_end hh hit (Int.sub_nonpos_of_le (kL _ _ (Nat.le_of_not_lt hlt))) fun h' he=>hN h' s.toks (List.getElem?_eq_none (by rw[Xk];exact F1 (Nt hlt))) (v7 he rfl hit rfl)
noncomputable def ZL (b:List UInt8):List AV:=b.map fun c=>.int (c.toNat:Int)
theorem WL {I:Addr} {b:List UInt8} {t:Tok}:sm B tg (.ref I) [I] (fun i h=>KBw.IsBytesIter h I b.toArray t i) .none .none (ZL b) (fun z=>True) where
 frame:=fun i h h' hj hk=>zn (hj) fun o ho r=>⟨o,hk I (.head _) o ho,r⟩
 live:=fun i h hj c hb=>by
  refine zn (hj) fun o ho z=>?_;try clear hj;exact⟨o,by rw[List.mem_singleton.mp hb];exact ho⟩
 self:=fun i A s Q E hj hQ=>KBw.pyIter_self hj hQ
 draw:=fun i A P s φ st Q N E hh hu S hg hs hj hW hQ hN=>by
  refine yY (id hj) fun o ho hc hd=>?_
  cases hv:b[i]? with
  | none=>exact KBw.next_end hh hj (by simpa using hv) fun h' he=>hN h' s.toks (by simp -iota [ZL,hv]) (v7 he rfl ho hd)
  | some c =>
   refine KBw.next_item hj (c:=c) (by simpa using hv) fun h' hj' hsb=>?_;refine yY (id hj') fun o' ho' hc' hd'=>?_;have adv:=tS (W:=[I]) hsb rfl ho hd ⟨o',ho'⟩;exact vj (s:={ s with heap:=h',toks:=s.toks+1 }) ho' hc' (by decide) (hQ _ (.int c.toNat) h' _ (by simp -iota [ZL,hv]) yG hj' adv)
noncomputable def signs (b:List Nat):List AV:=b.map fun c=>.str [c]
theorem sw (b:List Nat) (i:Nat):(mkS b).cps[i]?=b[i]?:=by simp -iota [mkS]
theorem V_ {I:Addr} {b:List Nat} {t:Tok}:sm B tg (.ref I) [I] (fun i h=>h.IsStrIter I "str_ascii_iterator" (mkS b) t i) .none .none (signs b) (fun z=>True) where
 frame:=fun i h h' hj hk=>zn (hj) fun o ho r=>⟨o,hk I (.head _) o ho,r⟩
 live:=fun i h hj c hb=>by
  refine zn (hj) fun o ho z=>?_;try clear hj;exact⟨o,by rw[List.mem_singleton.mp hb];exact ho⟩
 self:=fun i A s Q E hj hQ=>wpAny_pyIter_striter_ascii hj hQ
 draw:=fun i A P s φ st Q N E hh hu S hg hs hj hW hQ hN=>by
  refine yY (id hj) fun o ho hc hd=>?_
  cases hv:b[i]? with
  | none=>exact wpAny_pyNext_ascii_end hh hj ((sw b i).trans hv) fun h' he=>hN h' s.toks (by simp -iota [signs,hv]) (v7 he rfl ho hd)
  | some c =>
   refine wpAny_pyNext_ascii_item hj (c:=c) ((sw b i).trans hv) fun h' hj' hsb=>?_;refine yY (id hj') fun o' ho' hc' hd'=>?_;have adv:=tS (W:=[I]) hsb rfl ho hd ⟨o',ho'⟩;exact vj (s:={ s with heap:=h',toks:=s.toks+1 }) ho' hc' (by decide) (hQ _ (.str [c]) h' _ (by simp -iota [signs,hv]) u4 hj' adv)
theorem UG {I:Addr} {b:List Nat} {t:Tok}:sm B tg (.ref I) [I] (fun i h=>h.IsStrIter I "str_iterator" (mkS b) t i) .none .none (signs b) (fun z=>True) where
 frame:=fun i h h' hj hk=>zn (hj) fun o ho r=>⟨o,hk I (.head _) o ho,r⟩
 live:=fun i h hj c hb=>by
  refine zn (hj) fun o ho z=>?_;try clear hj;exact⟨o,by rw[List.mem_singleton.mp hb];exact ho⟩
 self:=fun i A s Q E hj hQ=>wpAny_pyIter_striter_wide hj hQ
 draw:=fun i A P s φ st Q N E hh hu S hg hs hj hW hQ hN=>by
  refine yY (id hj) fun o ho hc hd=>?_
  cases hv:b[i]? with
  | none=>exact wpAny_pyNext_wide_end hh hj ((sw b i).trans hv) fun h' he=>hN h' s.toks (by simp -iota [signs,hv]) (v7 he rfl ho hd)
  | some c =>
   refine wpAny_pyNext_wide_item hj (c:=c) ((sw b i).trans hv) fun h' hj' hsb=>?_;refine yY (id hj') fun o' ho' hc' hd'=>?_;have adv:=tS (W:=[I]) hsb rfl ho hd ⟨o',ho'⟩;exact vj (s:={ s with heap:=h',toks:=s.toks+1 }) ho' hc' (by decide) (hQ _ (.str [c]) h' _ (by simp -iota [signs,hv]) u4 hj' adv)
end
section
variable {B:Base} {tg:Expr} {A:Around} {P:List Addr} {s:Shared} {φ:List Addr} {st:St} {prog:Program} {w:World} {E:Value->Shared->Prop}
theorem SR.out (S:SR B s φ P st) {T:Addr} (hT:s.heap.get? T=none):T∉φ/\T∉P:=by
 constructor
 ·intro hm;obtain⟨o,e⟩:=S.memDom hm;rw[hT]at e;cases e
 ·intro hm;obtain⟨o,e⟩:=S.domP _ hm;rw[hT]at e;cases e
theorem yz (h:Heap):h.get? h.objs.size=none:=by
 cases q:h.get? h.objs.size with
 | none=>rfl
 | some o=>exact absurd (Heap.lt_size q) (Nat.lt_irrefl _)
theorem Yj {α β:Type}:∀{l:List α} {m:List β} {i:Nat} {p:α×β},(l.zip m)[i]?=some p->l[i]?=some p.1/\m[i]?=some p.2
 | [],_,i,p,e=>by exact nomatch e
 | _::_,[],i,p,e=>by exact nomatch e
 | a::l,b::m,0,p,e=>by simp at e;subst e;exact⟨rfl,rfl⟩
 | a::l,b::m,i+1,p,e=>by
  have:=Yj (l:=l) (m:=m) (i:=i) (p:=p) (by simpa using e);simpa using this
theorem Y9 {α β:Type} {l:List α} {m:List β} {i:Nat} (hl:m.length=l.length) (e:(l.zip m)[i]?=none):l[i]?=none:=by
 rw[List.getElem?_eq_none_iff]at e ⊢;rw[List.length_zip,hl,Nat.min_self]at e;exact e
theorem Uf {I d:Addr} {n ep:Nat} {kvs:List (List UInt8×AV)}:sm B tg (.ref I) [I] (fun i h=>h.IsKeyIter I d i kvs.length ep) (.ref n) (.ref d) (kvs.map fun p=>.bytes p.1) (fun st=>st[n]?=some (.dictB ep kvs)) where
 frame:=fun i h h' hj hk=>zn (hj) fun o ho r=>⟨o,hk I (.head _) o ho,r⟩
 live:=fun i h hj c hb=>by
  refine zn (hj) fun o ho z=>?_;try clear hj;exact⟨o,by rw[List.mem_singleton.mp hb];exact ho⟩
 self:=fun i A s Q E hj hQ=>wpAny_pyIter_keyiter hj hQ
 draw:=fun i A P s φ st Q N E hh hu S hg hs hj hW hQ hN=>by
  refine zn (zJ hs) fun a ha e=>?_;cases e;refine zn (S.objs n d _ ha hg) fun ws hm rs=>?_
  have hlen:ws.length=kvs.length:=by rw[rs.length,List.length_map]
  have hlen':((kvs.map (fun x=>x.1)).zip ws).length=kvs.length:=by exact zl hlen
  have hj':s.heap.IsKeyIter I d i ((kvs.map (fun x=>x.1)).zip ws).length ep:=by rw[hlen'];exact hj
  refine yY (id hj) fun o ho hc hd=>?_
  cases hv:((kvs.map (fun x=>x.1)).zip ws)[i]? with
  | none =>
   have:=Y9 (by simp[hlen]) hv;exact wpAny_pyNext_dict_end hh hj' hm hv fun h' he=>hN h' s.toks (by rw[List.getElem?_map]at this ⊢;simpa using this) (v7 he rfl ho hd)
  | some p =>
   obtain⟨k,x⟩:=p;refine xn (Yj hv) fun h1 h2=>?_;refine wpAny_pyNext_dict_item hj' hm hv fun key h' hk hj2 hsb=>?_;refine zX (isBytes_shape hk) fun t q7z=>?_;subst q7z;rw[hlen']at hj2;refine yY (id hj2) fun o' ho' hc' hd'=>?_;have adv:=tS (W:=[I]) hsb rfl ho hd ⟨o',ho'⟩;refine vj (s:={ s with heap:=h' }) ho' hc' (by decide) (hQ _ (.bytes k) h' s.toks ?_ yV hj2 adv);rw[List.getElem?_map]at h1 ⊢
   cases hq:kvs[i]? with
   | none=>rw[hq]at h1;cases h1
   | some q=>rw[hq]at h1;simp at h1;exact h1▸rfl
theorem WZ {I d:Addr} {n ep:Nat} {kvs:List (List UInt8×AV)} {elts:List Expr} {kk:Nat} {pos:Pos} :
  sm B (.Tuple elts kk pos) (.ref I) [I] (fun i h=>∃ok ov,IsItemIter h I d i kvs.length ep ok ov) (.ref n) (.ref d) (kvs.map fun p=>.tup [.bytes p.1,p.2]) (fun st=>st[n]?=some (.dictB ep kvs)) where
 frame:=fun i h h' hj hk=>qP (hj) fun ok ov ho=>⟨ok,ov,hk I (.head _) _ ho⟩
 live:=fun i h hj c hb=>by
  refine qP (hj) fun ok ov ho=>?_;try clear hj;obtain rfl:=List.mem_singleton.mp hb;exact⟨_,ho⟩
 self:=fun i A s Q E hj hQ=>qP (hj) fun zy zy ho=>kcp_self ho hQ
 draw:=fun i A P s φ st Q N E hh hu S hg hs hj hW hQ hN=>by
  refine zn (zJ hs) fun a ha e=>?_;cases e;refine zn (S.objs n d _ ha hg) fun ws hm rs=>?_;refine qP (hj) fun ok ov hj=>?_
  have hlen:ws.length=kvs.length:=by rw[rs.length,List.length_map]
  have hlen':((kvs.map (fun x=>x.1)).zip ws).length=kvs.length:=by exact zl hlen
  have hj':IsItemIter s.heap I d i ((kvs.map (fun x=>x.1)).zip ws).length ep ok ov:=by rw[hlen'];exact hj
  have fields:∀b ob,s.heap.get? b=some ob->b∈[I]->∃ws,ob.data = .fields ws:=fun b ob e hb=>by
   obtain rfl:=List.mem_singleton.mp hb;rw[hj]at e;cases e;exact⟨_,rfl⟩
  cases hv:((kvs.map (fun x=>x.1)).zip ws)[i]? with
  | none =>
   have:=Y9 (by simp[hlen]) hv;exact wpAny_pyNext_items_end hh hj' hm hv fun h' he=>hN h' s.toks (by rw[List.getElem?_map]at this ⊢;simpa using this) (v7 he rfl hj rfl)
  | some p =>
   obtain⟨k,x⟩:=p;refine xn (Yj hv) fun h1 h2=>?_;refine zn (rs.get h2) fun y hy ry=>?_;refine wpAny_pyNext_items_item hj' hm hv fun key h' hk ho hT hsz hkeep=>?_;refine zX (isBytes_shape hk) fun t q8z=>?_;subst q8z;rw[hlen']at ho;refine wpAny_letOwnedTupleGo_items (s:={ s with heap:=h',toks:=s.toks }) ho fun h₂ ho2 hs2=>?_;have hTI:s.heap.objs.size≠I:=Nat.ne_of_gt (Heap.lt_size hj)
   have adv:Adv [I] s.heap h₂:=⟨fun b ob hb e=>(hs2.2 b fun q=>hb (List.mem_singleton.mpr q)).trans (hkeep b ob (fun q=>hb (List.mem_singleton.mpr q)) e),fields,fun b ob e=>by
    by_cases q:b=I
    ·subst q;exact⟨_,ho2⟩
    ·exact⟨ob,(hs2.2 b q).trans (hkeep b ob q e)⟩⟩
   refine hQ _ (.tup [.bytes k,y]) h₂ s.toks ?_ ?_ ⟨_,_,ho2⟩ adv
   ·rw[List.getElem?_map]at h1 hy ⊢
    cases hq:kvs[i]? with
    | none=>rw[hq]at h1;cases h1
    | some q=>rw[hq]at h1 hy;simp at h1 hy;simp[h1,hy]
   ·refine xn (S.out (yz s.heap)) fun o1 o2=>?_;refine⟨_,[_,x],rfl,o1,o2,⟨_,(hs2.2 _ hTI).trans hT,rfl,_,rfl⟩,?_⟩;refine⟨_,[x],rfl,yV,?_⟩;exact⟨x,[],rfl,ry.turn (adv.turn fun b hb=>(hW b hb).2),rfl⟩
noncomputable def tJ:Int->List AV->List AV
 | _,[]=>[]
 | k,a::r=>.tup [.int k,a]::tJ (k+1) r
theorem SP:∀(x:Int) (a:AV) (r:List AV),tJ x (a::r)=AV.tup [AV.int x,a]::tJ (x+1) r:=fun a a a=>rfl
theorem qo:∀(k:Int) (l:List AV) (i:Nat),(tJ k l)[i]?=(l[i]?).map fun a=>.tup [.int (k+i),a]
 | k,[],i=>by exact rfl
 | k,a::r,0=>by simp[SP]
 | k,a::r,i+1=>by
  show (tJ (k+1) r)[i]?=_;rw[qo (k+1) r i,List.getElem?_cons_succ]
  congr 2;funext a;congr 3;exact i1
structure Tt (B:Base) (it:Addr) (J:Nat->Heap->Prop) (src:AV) (sv:Value) (items:List AV) (guard:St->Prop):Prop where
 frame:∀i h h',J i h->(∀o,h.get? it=some o->h'.get? it=some o)->J i h'
 live:∀i h,J i h->∃o ws,h.get? it=some o/\o.data = .fields ws
 draws:∀i (A:Around) (P:List Addr) (s:Shared) (φ:List Addr) (st:St) (e:Addr),A.handled=none->SR B s φ P st->guard st->VR B s.heap φ P src sv->J i s.heap->e∉φ->(∃oe ws,s.heap.get? e=some oe/\oe.data = .fields ws)->e≠it->(it∉φ) ->
  ∃fp n Pr St,Draws B.prog B.w A it fp n Pr St/\e∉fp/\St i s.heap/\(i<n->(∀h,St (i+1) h->J (i+1) h) /\ ∃a,items[i]?=some a /\ ∀v h',Pr i v->(∀b o,b≠it->b≠e->s.heap.get? b=some o->h'.get? b=some o)->it∉P->e∉P->VR B h' φ P a v)/\(¬i<n->items[i]?=none/\St n s.heap)
theorem Ze {e it:Addr} {J:Nat->Heap->Prop} {src:AV} {sv:Value} {items:List AV} {guard:St->Prop} {elts:List Expr} {kk:Nat} {pos:Pos} (U:Tt B it J src sv items guard) (hne:e≠it) :
  sm B (.Tuple elts kk pos) (.ref e) [e,it] (fun i h=>(∃old,IsEnum h e it i old)/\J i h) src sv (tJ 0 items) guard where
 frame:=fun i h h' hj hk=>let ⟨⟨old,ho⟩,hj⟩:=hj;⟨⟨old,hk e (.head _) _ ho⟩,U.frame _ _ _ hj fun o x=>hk it (.tail _ (.head _)) o x⟩
 live:=fun i h hj c hb=>by
  obtain⟨⟨old,ho⟩,hj⟩:=hj
  rcases List.mem_cons.mp hb with rfl | hb
  ·exact⟨_,ho⟩
  ·obtain rfl:=List.mem_singleton.mp hb;obtain⟨o,_,ho,_⟩:=U.live _ _ hj;exact⟨o,ho⟩
 self:=fun i A s Q E hj hQ=>let ⟨⟨_,ho⟩,_⟩:=hj;wpAny_pyIter_enum ho hQ
 draw:=fun i A P s φ st Q N E hh hu S hg hs hj hW hQ hN=>by
  obtain⟨⟨old,he⟩,hj⟩:=hj;have we:=hW e (.head _);have wi:=hW it (.tail _ (.head _));obtain⟨fp,n,Pr,Stt,D,hef,hst,hitem,hend⟩:=U.draws i A.in1 P s φ st e hh S hg hs hj we.1 ⟨_,_,he,rfl⟩ hne wi.1
  have fields:∀b ob,s.heap.get? b=some ob->b∈[e,it]->∃ws,ob.data = .fields ws:=fun b ob x hb=>by
   rcases List.mem_cons.mp hb with rfl | hb
   ·rw[he]at x;cases x;exact⟨_,rfl⟩
   ·obtain rfl:=List.mem_singleton.mp hb;obtain⟨o,ws,ho,hd⟩:=U.live _ _ hj;rw[ho]at x;cases x;exact⟨ws,hd⟩
  by_cases hlt:i<n
  ·obtain⟨hJ,a,ha,hva⟩:=hitem hlt;refine wpAny_pyNext_enum_itemD D he hst hlt hne hef fun x h' tk hP ho hst' hT hsz hkeep=>?_;refine wpAny_letOwnedTupleGo_enum (s:={ s with heap:=h',toks:=tk+1 }) ho fun h₂ ho2 hs2=>?_;have hj2:J (i+1) h₂:=U.frame _ _ _ (hJ _ hst') fun o x=>(hs2.2 it (Ne.symm hne)).trans x;have kk2:∀b o,b≠it->b≠e->s.heap.get? b=some o->h₂.get? b=some o:=fun b o h1 h2 x=>(hs2.2 b h2).trans (hkeep b o h2 h1 x)
   have adv:Adv [e,it] s.heap h₂:=⟨fun b ob hb x=>kk2 b ob (fun q=>hb (.tail _ (List.mem_singleton.mpr q))) (fun q=>hb (q ▸ .head _)) x,fields,fun b ob x=>by
    by_cases q:b=e
    ·subst q;exact⟨_,ho2⟩
    ·by_cases q':b=it
     ·subst q';obtain⟨o,_,ho,_⟩:=U.live _ _ hj2;exact⟨o,ho⟩
     ·exact⟨ob,kk2 b ob q' q x⟩⟩
   refine hQ _ (.tup [.int i,a]) h₂ (tk+1) (by rw[qo,ha];simp) ?_ ⟨⟨x,by simpa using ho2⟩,hj2⟩ adv;obtain⟨o1,o2⟩:=S.out (yz s.heap);refine⟨_,[_,x],rfl,o1,o2,⟨_,(hs2.2 _ (Nat.ne_of_gt (Heap.lt_size he))).trans hT,rfl,_,rfl⟩,?_⟩;refine⟨_,[x],rfl,yG,?_⟩;exact⟨x,[],rfl,hva x h₂ hP kk2 wi.2 we.2,rfl⟩
  ·obtain⟨hnone,hstn⟩:=hend hlt;refine wpAny_pyNext_enum_endD D he hstn fun h' hx=>?_;exact hN h' s.toks (by rw[qo,hnone];rfl) ⟨fun b o hb x=>hx b o (fun q=>hb (.tail _ (List.mem_singleton.mpr q))) x,fields⟩
theorem VRs.at' {h:Heap} {l:List AV} {vs:List Value} {i:Nat} (e:VRs B h φ P l vs) (hi:i<vs.length):∃a,l[i]?=some a/\VR B h φ P a vs[i]:=e.get (List.getElem?_eq_getElem hi)
theorem WK {it ax:Addr} {n:Nat} {xs:List AV}:Tt B it (fun i h=>i<=xs.length/\h.IsListIter it ax i) (.ref n) (.ref ax) xs (fun st=>st[n]?=some (.list xs)) where
 frame:=fun i h h' hj hk=>⟨hj.1,hj.2.at hk⟩
 live:=fun i h hj=>let ⟨_,o,ho,_,hd⟩:=hj;(wm o _ ho hd)
 draws:=fun i A P s φ st e hh S hg hs hj he hoe hne hit=>by
  refine zn (zJ hs) fun a ha q=>?_;cases q;refine wL (S.listAt ha hg) fun vs k hl rs=>?_;have mx:=List.mem_of_getElem? ha;have hL:s.heap.IsList ax vs.toArray:=IsList.of_plain hl
  obtain⟨oi,wi,hoi,hdi⟩:∃o ws,s.heap.get? it=some o/\o.data = .fields ws:=let ⟨_,o,ho,_,hd⟩:=hj;(wm o _ ho hd)
  have hai:ax≠it:=fun q=>hit (q▸mx);refine Uz _ _ _ _ (Draws.list hh it ax hai vs.toArray) ?_ ⟨hj.2,hL⟩ (fun hlt=>⟨fun h x=>⟨(by rw[<-rs.length];exact hlt:i<xs.length),x.1⟩,?_⟩) (fun hlt=>?_)
  ·intro q
   rcases List.mem_cons.mp q with q | q
   ·exact hne q
   ·exact he (List.mem_singleton.mp q▸mx)
  ·have hlt':i<vs.length:=by exact hlt
   refine zn (rs.at' hlt') fun a hxa ra=>?_;refine zw a hxa (fun v h' hv hk hiP heP=>?_)
   have hv':vs[i]?=some v:=by simpa using hv
   have:vs[i]=v:=by rw[List.getElem?_eq_getElem hlt']at hv';exact Option.some.inj hv'
   rw[this]at ra;refine wL (hoe) fun oe we hoe hde=>?_
   exact ra.turnW (S:=[it,e]) ⟨fun b o x hb z=>hk b o (fun q=>hb (q ▸ .head _)) (fun q=>hb (.tail _ (List.mem_singleton.mpr q))) x,fun b o x hb hn=>⟨o.slots,hk b o (fun q=>hn (q ▸ .head _)) (fun q=>hn (.tail _ (List.mem_singleton.mpr q))) x⟩,fun b o x hb=>by
    rcases List.mem_cons.mp hb with rfl | hb
    ·rw[hoi]at x;cases x;exact⟨wi,hdi⟩
    ·obtain rfl:=List.mem_singleton.mp hb
     rw[hoe]at x;cases x;exact⟨we,hde⟩⟩
  ·have hi:vs.length<=i:=by simpa using hlt
   have hle:xs.length<=i:=by rw[<-rs.length];exact hi
   have he:i=vs.toArray.size:=by
    have h1:=hj.1;have h2:=rs.length;simp;exact AS (F2 hj.1 (Re h2)) (F2 (Le h2) hle)
   exact⟨List.getElem?_eq_none hle,he▸⟨hj.2,hL⟩⟩
theorem sQ {it:Addr} {b:Array UInt8} {t:Tok} {i:Nat} {c:UInt8} {Q:Value->Shared->Prop} (hit:KBw.IsBytesIter s.heap it b t i) (hx:b[i]?=some c)
  (hQ:∀h',KBw.IsBytesIter h' it b t (i+1)->Heap.SameBut it s.heap h'->Q (.int (c.toNat:Int) s.toks) { s with heap:=h',toks:=s.toks+1 }) :
  wpAny (model prog w) A (Builtin.SmallTypes.nextOf (.ref it)) Q E s:=by
 revert A s prog w E it b t i c Q hit hx hQ
 intros A s prog w E it b t i c Q hit hx hQ;obtain⟨o,ho,hc,hd⟩:_:=id hit
 refine wpAny_bind (wpAny_callSpecial?_slot (name:=PySem.Str.ofString "__next__") (KBw.iter_typeIs hit) KBw.slot_next
  (wpAny_call_entry KBw.slot_next (KBw.iter_typeIs hit) KBw.entry_next ?_ (KBw.args_next _)))
 show wpAny _ _ (field (.ref it) 0 >>= _) _ _ s;refine wpAny_bind (wpAny_field ho hd (x:=.bytes b t) rfl ?_);rw[if_neg (show ¬((Value.bytes b t==Value.none)=true) from Bool.false_ne_true)];refine wpAny_bind (wpAny_field ho hd (x:=.int i 0) rfl ?_);refine wpAny_bind (wpAny_of_eq (a:=b) rfl ?_);simp only[Int.toNat_natCast,hx];refine wpAny_bind (wpAny_setField ho hd (wC) (wpAny_bind (wpAny_mkInt (wpAny_pure ⟨_,rfl,wpAny_pure (hQ _ ?_ (Heap.SameBut.update ..))⟩))))
 exact⟨_,Heap.get?_update_self _ ho (Obj.isFreed_of_fields (Obj.data_mapFields hd _)),(Obj.cls_mapFields ..).trans hc,by
  rw[Obj.data_mapFields hd];exact rfl⟩
theorem qv {it:Addr} {b:Array UInt8} {t:Tok} {i:Nat} {Q:Value->Shared->Prop} (hh:A.handled=none) (hit:KBw.IsBytesIter s.heap it b t i) (hx:b[i]?=none)
  (hE:∀h' e,Heap.ExtBut it s.heap h'->(∃o,h'.get? e=some o/\o.cls = .type "StopIteration")->E (.ref e) { s with heap:=h' }) :
  wpAny (model prog w) A (Builtin.SmallTypes.nextOf (.ref it)) Q E s:=by
 revert A s prog w E it b t i Q hh hit hx hE
 intros A s prog w E it b t i Q hh hit hx hE;obtain⟨o,ho,hc,hd⟩:_:=id hit
 refine wpAny_bind (wpAny_callSpecial?_slot (name:=PySem.Str.ofString "__next__") (KBw.iter_typeIs hit) KBw.slot_next
  (wpAny_call_entry KBw.slot_next (KBw.iter_typeIs hit) KBw.entry_next ?_ (KBw.args_next _)))
 show wpAny _ _ (field (.ref it) 0 >>= _) _ _ s;refine wpAny_bind (wpAny_field ho hd (x:=.bytes b t) rfl ?_);rw[if_neg (show ¬((Value.bytes b t==Value.none)=true) from Bool.false_ne_true)];refine wpAny_bind (wpAny_field ho hd (x:=.int i 0) rfl ?_);refine wpAny_bind (wpAny_of_eq (a:=b) rfl ?_);simp only[Int.toNat_natCast,hx];refine wpAny_bind (wpAny_rule (wpAny_bind (wpAny_setField ho hd (wB) ?_)));refine wpAny_bind ?_;simp only[newExc,newTuple];refine wpAny_bind (wpAny_newObj_type ?_ (by size_fits));refine wpAny_bind (m:=firstArgMember _ _) (wpAny_of_eq (a:=Value.none) (by first | rfl | (simp only[firstArgMember];rfl)) ?_);refine wpAny_newObj_type ?_ (by size_fits)
 delta raiseNew
 dsimp only;refine wpAny_bind (wpAny_handled ?_);rw[show A.in1.handled=none from hh];refine wpAny_bind (wpAny_pure (wpAny_throw ?_));exact hE _ _ (((Heap.SameBut.update ..).extBut.push _).push _) ⟨_,Heap.get?_push_size _ rfl,rfl⟩
theorem YM (hh:A.handled=none) (it:Addr) (b:Array UInt8) (t:Tok) :
  Draws prog w A it [it] b.size (fun i v=>∃c u,b[i]?=some c/\v = .int (c.toNat:Int) u) (fun i h=>KBw.IsBytesIter h it b t i) where
 live:=fun z z st=>zn (st) fun o ho zy=>⟨o,ho⟩
 frame:=fun z z z st hk=>zn (st) fun o ho r=>⟨o,hk it (.head _) o ho,r⟩
 item:=fun i s Q E hi st hQ=>by
  refine sQ st (c:=b[i]) (by simp[hi]) fun h' hit' hs'=>?_;exact hQ _ h' (s.toks+1) (wm _ _ (by simp[hi]) rfl) hit' hs'
 done:=fun s Q E st hQ=>qv hh st (by simp) hQ
theorem XB {it:Addr} {b:List UInt8} {t:Tok}:Tt B it (fun i h=>i<=b.length/\KBw.IsBytesIter h it b.toArray t i) .none .none (ZL b) (fun z=>True) where
 frame:=fun i h h' hj hk=>⟨hj.1,zn (hj.2) fun o ho r=>⟨o,hk o ho,r⟩⟩
 live:=fun i h hj=>let ⟨_,o,ho,_,hd⟩:=hj;(wm o _ ho hd)
 draws:=fun i A P s φ st e hh S hg hs hj he hoe hne hit=>by
  refine Uz _ _ _ _ (YM hh it b.toArray t) (by simpa using hne) hj.2 (fun hlt=>⟨fun h x=>⟨(hlt:i<b.length),x⟩,?_⟩) (fun hlt=>?_)
  ·have hlt':i<b.length:=by exact hlt
   refine zw (.int (b[i].toNat:Int)) (by simp[ZL,hlt']) (fun v h' hv hk z z=>?_);refine wL (hv) fun c u hc q9z=>?_;try clear hv;subst q9z
   have:c=b[i]:=by
    have hc':b[i]?=some c:=by simpa using hc
    rw[List.getElem?_eq_getElem hlt']at hc';exact(Option.some.inj hc').symm
   rw[this];exact yG
  ·have hle:b.length<=i:=by simpa using hlt
   have he:i=b.toArray.size:=by have:=hj.1;simp;exact AS (F1 hj.1) (F1 hle)
   exact⟨List.getElem?_eq_none (lm hle),he▸hj.2⟩
theorem stk {M:Model} {A:Around} {f:List (Code×Pos)->Bool} {K:Bool->Shared->Prop} {E:Value->Shared->Prop} {s:Shared} (h:∀b,K b s):wpAny M A stack (fun a s'=>wpAny M A (pure (f a)) K E s') E s:=wpAny_stack_any fun z=>wpAny_pure (h _)
set_option maxHeartbeats 1000000 in
theorem uM (x:Array UInt8) (t:Tok) :
  Meets (Builtin.«enumerate.__new__» ⟨[.type "enumerate",.bytes x t],[]⟩) (fun z R s =>
   R (.ok (.ret (.ref (s.heap.push { cls:=.type "bytes_iterator",data:=.fields #[.bytes x t,.int 0 0] }).objs.size)))
    { s with heap:=(s.heap.push { cls:=.type "bytes_iterator",data:=.fields #[.bytes x t,.int 0 0] }).push { cls:=.type "enumerate",data:=.fields #[.none,.bool false,.ref s.heap.objs.size,rawInt 0,.none,.none] } }) :=
 .of_wp fun prog w A R s h=>by
  obtain⟨hp,g,d,tk,os⟩:=s;have hsub:=sub_enumerate
  wp_walk
  refine stk fun b=>?_
  cases b<;>(wp_walk using KBw.pyIter_bytes;exact⟨_,rfl,h⟩)
theorem uS {x:Array UInt8} {t:Tok} {Q:Value->Shared->Prop}
  (h:∀h',IsEnum h' (s.heap.objs.size+1) s.heap.objs.size 0 .none->KBw.IsBytesIter h' s.heap.objs.size x t 0->h'.objs.size=s.heap.objs.size+2 ->
   (∀b o,s.heap.get? b=some o->h'.get? b=some o)->Q (.ref (s.heap.objs.size+1)) { s with heap:=h' }) :
  wpAny (model prog w) A (call (.type "enumerate") [.bytes x t]) Q E s:=by
 refine callType_new F.called_enumerate (by decide) (F.typeCall_enumerate_1 _) (F.newCall_enumerate_1 _) (fun obj=>F.args_object_init_2 obj _) F.entry_enumerate_new
  (uM x t) ?_
 have hz:(s.heap.push { cls:=.type "bytes_iterator",data:=.fields #[.bytes x t,.int 0 0] }).objs.size=s.heap.objs.size+1:=Heap.size_push ..;rw[hz]
 have he:IsEnum ((s.heap.push { cls:=.type "bytes_iterator",data:=.fields #[.bytes x t,.int 0 0] }).push
   { cls:=.type "enumerate",data:=.fields #[.none,.bool false,.ref s.heap.objs.size,rawInt 0,.none,.none] }) (s.heap.objs.size+1) s.heap.objs.size 0 .none:=by
  have:=Heap.get?_push_size (s.heap.push { cls:=.type "bytes_iterator",data:=.fields #[.bytes x t,.int 0 0] })
   (o:={ cls:=.type "enumerate",data:=.fields #[.none,.bool false,.ref s.heap.objs.size,rawInt 0,.none,.none] }) rfl
  rw[hz]at this;exact this
 refine⟨(zw _ he rfl),h _ he (uG _ (Heap.get?_push_of_some _ (Heap.get?_push_size _ rfl)) rfl rfl) (by rw[Heap.size_push,hz]) fun b o y=>Heap.get?_push_of_some _ (Heap.get?_push_of_some _ y)⟩
end
structure BOk (B:Base):Prop where
 sys:∃o,B.H₀.get? sysModules=some o
 nolimit:B.H₀.NoLimit
section
variable {B:Base} {nm:Nat->Str} {nN n:Nat} {sc:Scope} {tg:Expr} {ρ:Rho} {A:Around} {P:List Addr} {s:Shared} {φ:List Addr} {st:St} {prog:Program} {w:World} {E:Value->Shared->Prop}
theorem SR.notSys (hB:BOk B) (S:SR B s φ P st) {a:Addr} (ha:a∈φ):(a==sysModules)=false:=by
 refine zX (hB.sys) fun o e=>?_
 cases q:a==sysModules with
 | false=>rfl
 | true =>
  have:=eq_of_beq q;subst this;rw[S.newφ _ ha]at e;cases e
noncomputable def Zq (B:Base) (tg:Expr) (a:AV) (Q:List AV->(St->Prop)->St->Prop) (st:St):Prop :=
 ∀(A:Around) (P:List Addr) (s:Shared) (φ:List Addr) (v:Value),A.handled=none->A.units+100<=cLine->SR B s φ P st->VR B s.heap φ P a v ->
  wpAny (model B.prog B.w) A (pyIter v) (Po B P s.heap φ (kN B P tg s.heap Q)) (fun z z=>False) s
noncomputable def tX (B:Base) (tg:Expr) (f:Value) (a:AV) (Q:List AV->(St->Prop)->St->Prop) (st:St):Prop :=
 ∀(A:Around) (P:List Addr) (s:Shared) (φ:List Addr) (v:Value),A.handled=none->A.units+100<=cLine->SR B s φ P st->VR B s.heap φ P a v ->
  wpAny (model B.prog B.w) A (PySem.call f [v]) (fun x s₁=>wpAny (model B.prog B.w) A (pyIter x) (Po B P s.heap φ (kN B P tg s.heap Q)) (fun z z=>False) s₁) (fun z z=>False) s
theorem kN.after {h h1:Heap} {Q:List AV->(St->Prop)->St->Prop} {it:Value} {h':Heap} {φ':List Addr} (g:Go P [] h φ h1 φ') {p'':List Addr} {st':St} (i:kN B P tg h1 Q it h' p'' st'):kN B P tg h Q it h' p'' st':=by
 revert B tg P φ h h1 Q it h' φ' g p'' st' i
 intros B tg P φ h h1 Q it h' φ' g p'' st' i;obtain⟨W,J,src,sv,items,guard,a1,a2,a3,a4,a5⟩:_:=i;refine QJ W J src sv items guard a1 a2 a3 ?_ a5;intros b hb;refine⟨?_,(a4 b hb).2⟩
 cases q:h.get? b with
 | none=>rfl
 | some o=>obtain⟨o',e'⟩:=g.dom b o q;rw[(a4 b hb).1]at e';cases e'
theorem X8 {L:Addr} {h:Heap} {s₁:Shared} {φ₁:List Addr} {Q:List AV->(St->Prop)->St->Prop} {X:AV->St->Prop} {m:Sem Value} (g:Go P [] h φ s₁.heap φ₁)
  (x:wpAny (model B.prog B.w) A m (Po B P s₁.heap φ₁ (kN B P tg s₁.heap Q)) (fun z z=>False) s₁):wpAny (model B.prog B.w) A m (Po B P h φ (kN B P tg h Q)) (Exc B P h φ L X) s₁:=by
 refine wpAny_mono x ?_ fun z z y=>y.elim;intro it s₂ p1z;refine xH (p1z) fun φ₂ st2 S₂ g₂ i=>?_;try clear p1z;exact zV φ₂ st2 S₂ (g.trans g₂) (i.after g)
theorem yj {e:Expr} {Q:List AV->(St->Prop)->St->Prop} {X:AV->St->Prop} (h:WE B nm nN n sc e ρ (fun a st'=>Zq B tg a Q st') X st):WI B nm nN n sc tg e ρ Q X st:=by
 revert B nm nN n sc tg ρ st e Q X h
 intros B nm nN n sc tg ρ st e Q X h;refine⟨?_⟩;intros c s φ O hs S F;refine wpAny_mono (h.run c s φ O hs S F) ?_ fun z z y=>y;intros v s₁ p5_;obtain⟨φ₁,st₁,S₁,g₁,a,ra,h1⟩:_:=p5_;exact X8 g₁ (h1 c.A c.P s₁ φ₁ v O.handled O.room S₁ ra)
theorem Zh {c:Cx} {x:Str} {px pos:Pos} {es:List Expr} {f:Value} {QL:List AV->St->Prop} {X:AV->St->Prop} {R:Value->Shared->Prop} (O:c.Ok n) (hs:c.env.scope=sc) (S:SR B s φ c.P st) (F:FR B nm nN s.heap φ c ρ)
  (hk:sc.names.lookup x=some .globalImplicit) (hd:(x==("__debug__":Str))=false) (hg:xl B x f) (hK:sM B f)
  (he:∀env,(starEach es env).any (fun x=>x.1)=false) (h:WEs B nm nN n sc es ρ QL X st)
  (k:∀vs as s₁ φ₁ st₁,SR B s₁ φ₁ c.P st₁->Go c.P [] s.heap φ s₁.heap φ₁->VRs B s₁.heap φ₁ c.P as vs->QL as st₁->wpAny (model B.prog B.w) c.A (PySem.call f vs) R (Exc B c.P s.heap φ c.L X) s₁) :
  wpAny (model B.prog B.w) c.A (eval (.Call (.Name x px) es [] pos) c.env) R (Exc B c.P s.heap φ c.L X) s:=by
 refine wpAny_Call_Name_kw (wS O S (by unfold Env.kindOf;rw[hs];exact hk) hd hg ?_);refine callWith_of (P:=fun h=>∀b o,B.H₀.get? b=some o->h.get? b=some o) (by rw[ve he];rfl) (fun h hP=>hK _ h hP) ?_
 have done:wpAny (model B.prog B.w) c.A (spliced (backTo pos (starEach es c.env))) (fun vs s₁=>(∀b o,B.H₀.get? b=some o->s₁.heap.get? b=some o) /\
   wpAny (model B.prog B.w) c.A (PySem.call f ([]++vs)) R (Exc B c.P s.heap φ c.L X) s₁) (Exc B c.P s.heap φ c.L X) s:=by
  refine wpAny_mono (h.run c s φ pos O hs S F) ?_ fun z z y=>y;intro vs s₁ p2z;refine xH (p2z) fun φ₁ st₁ S₁ g₁ n4z=>?_;try clear p2z;refine zn (n4z) fun as ras h1=>?_;try clear n4z;exact⟨S₁.base,k vs as s₁ φ₁ st₁ S₁ g₁ ras h1⟩
 exact v0 (ve he) done
theorem yQ {h:Heap} {a:AV} {vs:List Value} (e:VRs B h φ P [a] vs):∃v,vs=[v]/\VR B h φ P a v:=by
 apply uL (e);intro v t ra rt
 try clear e;subst rt;exact zw v rfl ra
theorem xw {h:Heap} {a b:AV} {vs:List Value} (e:VRs B h φ P [a,b] vs):∃u v,vs=[u,v]/\VR B h φ P a u/\VR B h φ P b v:=by
 revert B P φ h a b vs e
 intros B P φ h a b vs e;obtain⟨v,t,rfl,ra,rt⟩:_:=e;obtain⟨u,rfl,rb⟩:_:=yQ rt;exact zV v u rfl ra rb
theorem Rh {x:Str} {px pos:Pos} {e:Expr} {f:Value} {Q:List AV->(St->Prop)->St->Prop} {X:AV->St->Prop} (hk:sc.names.lookup x=some .globalImplicit) (hd:(x==("__debug__":Str))=false) (hg:xl B x f) (hK:sM B f)
  (he:∀env,starEach [e] env=[(false,eval e env)]) (h:WE B nm nN n sc e ρ (fun a st'=>tX B tg f a Q st') X st):WI B nm nN n sc tg (.Call (.Name x px) [e] [] pos) ρ Q X st:=by
 refine⟨fun c s φ O hs S F=>?_⟩;refine Zh O hs S F hk hd hg hK (fun env=>by rw[he];rfl) (QL:=fun as st'=>∃a,as=[a]/\tX B tg f a Q st') (zM he ?_) ?_
 ·refine⟨fun c s φ O hs S F=>?_⟩;refine v9 (h.run c s φ O hs S F) (fun v h φ st zz=>zn zz fun a ra hc=>⟨a,ra,zA ⟨a,rfl,hc⟩⟩) fun z z y=>y
 ·intro vs as s₁ φ₁ st₁ S₁ g₁ ras p3z;refine zn (p3z) fun a q6z hc=>?_;try clear p3z;subst q6z
  apply jB (yQ ras);intro v ra
  refine wpAny_mono (hc c.A c.P s₁ φ₁ v O.handled O.room S₁ ra) ?_ fun z z y=>y.elim;intro x' s₂ h₂;exact wpAny_mono h₂ (fun it s₃ zz=>xH zz fun φ₃ st₃ S₃ g₃ i=>⟨φ₃,st₃,S₃,g₁.trans g₃,i.after g₁⟩) fun z z y=>y.elim
theorem vL {W:List Addr} {J:Nat->Heap->Prop} {src:AV} {sv:Value} {items:List AV} {guard:St->Prop} {Q:List AV->(St->Prop)->St->Prop} {it:Value} {h':Heap} {t:Tok} (S:SR B s φ P st) (hit:sm B tg it W J src sv items guard)
  (hk:∀b o,s.heap.get? b=some o->h'.get? b=some o) (hJ:J 0 h') (hsrc:VR B s.heap φ P src sv) (hW:∀b∈W,s.heap.get? b=none) (hQ:Q items guard st):Po B P s.heap φ (kN B P tg s.heap Q) it { s with heap:=h',toks:=t }:=by
 have g:Go P [] s.heap φ h' φ:=Go.of_keep hk;exact zV φ st (S.grow hk) g ⟨W,J,src,sv,items,guard,hit,hJ,hsrc.go g,fun b hb=>⟨hW b hb,S.out (hW b hb)⟩,hQ⟩
variable {Q:List AV->(St->Prop)->St->Prop}
theorem yg {m:Nat} {xs:List AV} (hm:st[m]?=some (.list xs)) (h:Q xs (fun st'=>st'[m]?=some (.list xs)) st):Zq B tg (.ref m) Q st:=by
 intro A P s φ v hh hu S ra;refine zn (zJ ra) fun a ha q8z=>?_;subst q8z;refine wL (S.listAt ha hm) fun vs k hl rs=>?_;refine wpAny_pyIter_list (IsList.of_plain hl) ?_;refine vL (t:=s.toks) S (UL (ax:=a) (src:=.ref m) (sv:=.ref a) (xs:=xs) fun s φ P st S hg hs=>?_) (fun b o e=>Heap.get?_push_of_some _ e) (uG _ (Heap.get?_push_size _ rfl) rfl rfl) ra (by intro b hb;rw[List.mem_singleton.mp hb];exact yz _) h;refine zn (zJ hs) fun a' ha' q=>?_;cases q;refine wL (S.listAt ha' hg) fun vs k hl rs=>?_;exact zw vs (IsList.of_plain hl) rs
theorem sb {xs:List AV} (h:Q xs (fun z=>True) st):Zq B tg (.tup xs) Q st:=by
 intro A P s φ v hh hu S ra
 obtain⟨a,vs,rfl,h1,h2,hl,rs⟩:∃a vs,v = .ref a/\a∉φ/\a∉P/\IsTup s.heap a vs.toArray/\VRs B s.heap φ P xs vs:=by exact ra
 refine wpAny_pyIter_tuple hl ?_;refine vL (t:=s.toks) S (TG (ax:=a) (src:=.tup xs) (sv:=.ref a) (xs:=xs) fun s φ P st S hg hs=>?_) (fun b o e=>Heap.get?_push_of_some _ e) (uG _ (Heap.get?_push_size _ rfl) rfl rfl) ra (by intro b hb;rw[List.mem_singleton.mp hb];exact yz _) h;refine Sr (hs) fun a' vs' q z z hl' rs'=>?_;try clear hs;cases q;exact zw vs' hl' rs'
theorem YE {b:List UInt8} (h:Q (ZL b) (fun z=>True) st):Zq B tg (.bytes b) Q st:=by
 intro A P s φ v hh hu S ra
 apply zO (zF ra);intro t
 refine KBw.pyIter_bytes ?_;exact vL (t:=s.toks) S (WL (b:=b) (t:=t)) (fun b o e=>Heap.get?_push_of_some _ e) (uG _ (Heap.get?_push_size _ rfl) rfl rfl) vx (by intro b hb;rw[List.mem_singleton.mp hb];exact yz _) h
theorem TN {b:List Nat} (h:Q (signs b) (fun z=>True) st):Zq B tg (.str b) Q st:=by
 intro A P s φ v hh hu S ra
 apply zO (xb ra);intro t
 cases ha:(mkS b).cps.all (fun x=>x<128)
 ·refine wpAny_pyIter_wide ha ?_;exact vL (t:=s.toks) S (UG (b:=b) (t:=t)) (fun b o e=>Heap.get?_push_of_some _ e) (uG _ (Heap.get?_push_size _ rfl) rfl rfl) vx (by intro b hb;rw[List.mem_singleton.mp hb];exact yz _) h
 ·refine wpAny_pyIter_ascii ha ?_;exact vL (t:=s.toks) S (V_ (b:=b) (t:=t)) (fun b o e=>Heap.get?_push_of_some _ e) (uG _ (Heap.get?_push_size _ rfl) rfl rfl) vx (by intro b hb;rw[List.mem_singleton.mp hb];exact yz _) h
theorem ZH (hB:BOk B) {m ep:Nat} {kvs:List (List UInt8×AV)} (hm:st[m]?=some (.dictB ep kvs)) (h:Q (kvs.map fun p=>.bytes p.1) (fun st'=>st'[m]?=some (.dictB ep kvs)) st):Zq B tg (.ref m) Q st:=by
 intro A P s φ v hh hu S ra;refine zn (zJ ra) fun a ha q11z=>?_;subst q11z;refine zn (S.objs m a _ ha hm) fun ws hd rs=>?_
 have hlen:((kvs.map (fun x=>x.1)).zip ws).length=kvs.length:=by simp[rs.length]
 refine wpAny_pyIter_dict (S.notSys hB (List.mem_of_getElem? ha)) hd ?_;rw[hlen];exact vL (t:=s.toks) S (Uf (d:=a) (n:=m) (ep:=ep) (kvs:=kvs)) (fun b o e=>Heap.get?_push_of_some _ e) (uG _ (Heap.get?_push_size _ rfl) rfl rfl) ra (by intro b hb;rw[List.mem_singleton.mp hb];exact yz _) h
theorem jV {m:Nat} (hm:(m:Int)<2 ^ 62) (h:Q (kM 0 m) (fun z=>True) st):tX B tg (.type "range") (.int m) Q st:=by
 revert B tg st Q m hm h
 intros B tg st Q m hm h;intros A P s φ v hh hu S ra;obtain⟨t,rfl⟩:_:=zS ra;refine call_range_1 ?_;refine wpAny_pyIter_range (IsRange.new ..) (small_one (by decide) (by decide) (Int.le_trans (by decide) (Int.natCast_nonneg m)) hm) ?_;rw[rangeSize_one]
 have e0:(if (0:Int)<(m:Int) then (m:Int)-0 else 0)=(m:Int):=by
  by_cases h:(0:Int)<m
  ·rw[if_pos h,Int.sub_zero]
  ·rw[if_neg h];exact Int.le_antisymm (Int.natCast_nonneg m) (Int.not_lt.mp h)
 rw[e0];have hne:∀(h:Heap) (o:Obj),(h.push o).objs.size=h.objs.size+1:=fun h o=>Heap.size_push ..;refine vL (s:=s) S (Wv (m:=m)) (fun b o e=>Heap.get?_push_of_some _ (Heap.get?_push_of_some _ e)) ⟨wD,?_⟩ vx ?_ h
 ·have:=Heap.get?_push_size (s.heap.push { cls:=.type "range",data:=.fields #[.int 0 s.toks,.int m t,.int 1 (s.toks+1)] }) (o:={ cls:=.type "range_iterator",data:=.fields #[rawInt 0,rawInt m,rawInt 1] }) rfl;exact this
 ·intros b hb;rw[List.mem_singleton.mp hb,hne]
  cases q:s.heap.get? (s.heap.objs.size+1)with
  | none=>rfl
  | some o=>exact absurd (Heap.lt_size q) (Nat.not_lt.mpr (Nat.le_succ _))
theorem sV {i:Int} (h0:0<=i) (hm:i<2 ^ 62) (h:Q (kM 0 i.toNat) (fun z=>True) st):tX B tg (.type "range") (.int i) Q st:=by
 have e:i=((i.toNat:Nat):Int):=(Int.toNat_of_nonneg h0).symm;rw[e];exact jV (Int.lt_of_le_of_lt (Int.le_of_eq e.symm) hm) (by simpa using h)
variable {elts:List Expr} {kk:Nat} {tp:Pos}
theorem sS {m:Nat} {xs:List AV} (hm:st[m]?=some (.list xs)) (h:Q (tJ 0 xs) (fun st'=>st'[m]?=some (.list xs)) st):tX B (.Tuple elts kk tp) (.type "enumerate") (.ref m) Q st:=by
 intro A P s φ v hh hu S ra;refine zn (zJ ra) fun a ha q12z=>?_;subst q12z;refine wL (S.listAt ha hm) fun vs k hl rs=>?_;refine call_enumerate_list (IsList.of_plain hl) fun h' he hi hsz hk=>?_;refine wpAny_pyIter_enum (s:={ s with heap:=h',toks:=s.toks }) he ?_;refine vL (t:=s.toks) S (Ze (WK (ax:=a) (n:=m) (xs:=xs)) (Nat.ne_of_gt (Nat.lt_succ_self _))) hk ⟨⟨_,he⟩,wD,hi⟩ ra ?_ h;intro b hb
 rcases List.mem_cons.mp hb with rfl | hb
 ·cases q:s.heap.get? (s.heap.objs.size+1)with
  | none=>rfl
  | some o=>exact absurd (Heap.lt_size q) (Nat.not_lt.mpr (Nat.le_succ _))
 ·rw[List.mem_singleton.mp hb];exact yz _
theorem tI {b:List UInt8} (h:Q (tJ 0 (ZL b)) (fun z=>True) st):tX B (.Tuple elts kk tp) (.type "enumerate") (.bytes b) Q st:=by
 intro A P s φ v hh hu S ra
 apply zO (zF ra);intro t
 refine uS fun h' he hi hsz hk=>?_;refine wpAny_pyIter_enum (s:={ s with heap:=h',toks:=s.toks }) he ?_;refine vL (t:=s.toks) S (Ze (XB (b:=b) (t:=t)) (Nat.ne_of_gt (Nat.lt_succ_self _))) hk ⟨⟨_,he⟩,wD,hi⟩ vx ?_ h;intro b hb
 rcases List.mem_cons.mp hb with rfl | hb
 ·cases q:s.heap.get? (s.heap.objs.size+1)with
  | none=>rfl
  | some o=>exact absurd (Heap.lt_size q) (Nat.not_lt.mpr (Nat.le_succ _))
 ·rw[List.mem_singleton.mp hb];exact yz _
end
noncomputable def vS (B:Base) (id:String) (as:List AV) (Q:AV->St->Prop) (st:St):Prop :=
 ∀(A:Around) (P:List Addr) (s:Shared) (φ:List Addr) (vs:List Value),A.handled=none->A.units+100<=cLine->SR B s φ P st->VRs B s.heap φ P as vs ->
  wpAny (model B.prog B.w) A (PySem.call (.builtin id) vs) (Po B P s.heap φ (Val B P Q)) (fun z z=>False) s
inductive tP (T:String) (name:Str) (id:String):Prop
 | mk:PlainAttrs T->Slot T name id->typeOf (.builtin id)=pure (.type "method_descriptor")->tP T name id
inductive kG (st:St):AV->String->Prop
 | str {x}:kG st (.str x) "str"
 | bytes {x}:kG st (.bytes x) "bytes"
 | list {n xs}:st[n]?=some (.list xs)->kG st (.ref n) "list"
 | dictB {n ep xs}:st[n]?=some (.dictB ep xs)->kG st (.ref n) "dict"
 | dictS {n ep xs}:st[n]?=some (.dictS ep xs)->kG st (.ref n) "dict"
 | dictI {n ep xs}:st[n]?=some (.dictI ep xs)->kG st (.ref n) "dict"
section
variable {B:Base} {nm:Nat->Str} {nN n:Nat} {sc:Scope} {tg:Expr} {ρ:Rho} {A:Around} {P:List Addr} {s:Shared} {φ:List Addr} {st:St} {Q X:AV->St->Prop}
theorem uW {K:Type} [DecidableEq K] {knd:KeyKind B.prog B.w K} {h:Heap} {d:Addr} {kvs:List (K×Value)} {ep:Nat} (hm:h.DictAt knd d kvs ep):∀a,Value.ref d = .ref a->∃ob,h.get? a=some ob/\ob.dict=none:=hm.dictOf.mapOf.noDict
theorem kG.is {a:AV} {T:String} {v:Value} (t:kG st a T) (S:SR B s φ P st) (ra:VR B s.heap φ P a v):s.TypeIs v T /\ ∀b,v = .ref b->∃ob,s.heap.get? b=some ob/\ob.dict=none:=by
 cases t with
 | str=>apply zO (xb ra);intro t;exact⟨typeIs_str ..,fun b q=>by cases q⟩
 | bytes=>apply zO (zF ra);intro t;exact⟨typeIs_bytes ..,fun b q=>by cases q⟩
 | list h =>
  refine zn (zJ ra) fun a ha q1z=>?_;subst q1z;refine wL (S.listAt ha h) fun vs k hl z=>?_;exact⟨⟨_,hl,rfl⟩,fun b q=>by cases q;exact⟨_,hl,rfl⟩⟩
 | dictB h =>
  refine zn (zJ ra) fun a ha q2z=>?_;subst q2z;refine zn (S.objs _ a _ ha h) fun ws hm z=>?_;exact⟨hm.dictOf.typeIs,uW hm⟩
 | dictS h =>
  refine zn (zJ ra) fun a ha q3z=>?_;subst q3z;refine zn (S.objs _ a _ ha h) fun ws hm z=>?_;exact⟨hm.dictOf.typeIs,uW hm⟩
 | dictI h =>
  refine zn (zJ ra) fun a ha q4z=>?_;subst q4z;refine zn (S.objs _ a _ ha h) fun ws hm z=>?_;exact⟨hm.dictOf.typeIs,uW hm⟩
structure wf (o:Expr) (name:Str) (apos pos:Pos) (args:List Expr):Prop where
 base:∀env,attributeBase o name env (eval o env)=eval o env
 few:∀env,((backTo pos (starEach args env)).all (fun x=>!x.1)&&(backToKw pos (keywordEach [] env)).all (fun x=>x.1.isSome)
   && decide (args.length+([]:List Keyword).length+(if ([]:List Keyword).isEmpty then 0 else 1)<30))=true
 line:(apos.endLine==pos.line)=true
 plain:∀env,(starEach args env).any (fun x=>x.1)=false
theorem Yp {c:Cx} {o:Expr} {name:Str} {apos pos:Pos} {args:List Expr} {R:Value->Shared->Prop} (sh:wf o name apos pos args) (O:c.Ok n) (hs:c.env.scope=sc) (S:SR B s φ c.P st) (FF:FR B nm nN s.heap φ c ρ)
  {QL:String->AV->List AV->St->Prop} (h:WE B nm nN n sc o ρ (fun a st₁=>∃T id,tP T name id/\kG st₁ a T/\WEs B nm nN n sc args ρ (fun as st2=>QL id a as st2) X st₁) X st)
  (k:∀id v vs a as s₁ φ₁ st₁,SR B s₁ φ₁ c.P st₁->Go c.P [] s.heap φ s₁.heap φ₁->VR B s₁.heap φ₁ c.P a v->VRs B s₁.heap φ₁ c.P as vs->QL id a as st₁ ->
   wpAny (model B.prog B.w) c.A (PySem.call (.builtin id) (v::vs)) R (Exc B c.P s.heap φ c.L X) s₁) :
  wpAny (model B.prog B.w) c.A (eval (.Call (.Attribute o name apos) args [] pos) c.env) R (Exc B c.P s.heap φ c.L X) s:=by
 revert B nm nN n sc ρ s φ st X c o name apos pos args R sh O hs S FF QL h k
 intros B nm nN n sc ρ s φ st X c o name apos pos args R sh O hs S FF QL h k;refine wpAny_Call_method_late (sh.base _) (sh.few _) sh.line rfl (wpAny_mono (h.run c s φ O hs S FF) ?_ fun z z y=>y);intros v s₁ p13_;obtain⟨φ₁,st₁,S₁,g₁,a,ra,T,id,⟨m1,m2,m3⟩,ty,h1⟩:_:=p13_;obtain⟨t1,t2⟩:_:=ty.is S₁ ra;refine Pt T id m1 m2 m3 t1 t2 ?_;have hp:=ve (pos:=pos) sh.plain (env:=c.env);refine callWith_of (P:=fun h=>∀b o,B.H₀.get? b=some o->h.get? b=some o) (by rw[hp];rfl) (fun h hP=>kept_builtin id _ h hP) ?_;refine v0 hp ?_;refine wpAny_mono (h1.run c s₁ φ₁ pos O hs S₁ (FF.go O g₁)) ?_ fun z z y=>y.after g₁;intros vs s₂ p14_;obtain⟨φ₂,st2,S₂,g₂,as,ras,h₂⟩:_:=p14_;exact⟨S₂.base,k id v vs a as s₂ φ₂ st2 S₂ (g₁.trans g₂) (ra.go g₂) ras h₂⟩
theorem yf {o:Expr} {name:Str} {apos pos:Pos} {args:List Expr} (sh:wf o name apos pos args)
  (h:WE B nm nN n sc o ρ (fun a st₁=>∃T id,tP T name id/\kG st₁ a T/\WEs B nm nN n sc args ρ (fun as st2=>vS B id (a::as) Q st2) X st₁) X st) :
  WE B nm nN n sc (.Call (.Attribute o name apos) args [] pos) ρ Q X st:=by
 refine⟨fun c s φ O hs S FF=>?_⟩;refine Yp sh O hs S FF (QL:=fun id a as st2=>vS B id (a::as) Q st2) h ?_;intro id v vs a as s₁ φ₁ st₁ S₁ g₁ ra ras hc;exact after g₁ (v6 (hc c.A c.P s₁ φ₁ (v::vs) O.handled O.room S₁ ((zV v vs rfl ra ras))))
theorem T1 (hB:BOk B) {o:Expr} {apos pos:Pos} {elts:List Expr} {kk:Nat} {tp:Pos} {QI:List AV->(St->Prop)->St->Prop} (sh:wf o "items" apos pos [])
  (h:WE B nm nN n sc o ρ (fun a st₁=>∃m ep kvs,a = .ref m/\st₁[m]?=some (.dictB ep kvs)/\QI (kvs.map fun p=>.tup [.bytes p.1,p.2]) (fun st'=>st'[m]?=some (.dictB ep kvs)) st₁) X st) :
  WI B nm nN n sc (.Tuple elts kk tp) (.Call (.Attribute o "items" apos) [] [] pos) ρ QI X st:=by
 revert B nm nN n sc ρ st X hB o apos pos elts kk tp QI sh h
 intros B nm nN n sc ρ st X hB o apos pos elts kk tp QI sh h;refine⟨?_⟩;intros c s φ O hs S FF;refine Yp sh O hs S FF (QL:=fun id a as st2=>id="dict.items"/\as=[] /\ ∃m ep kvs,a = .ref m/\st2[m]?=some (.dictB ep kvs)/\QI (kvs.map fun p=>.tup [.bytes p.1,p.2]) (fun st'=>st'[m]?=some (.dictB ep kvs)) st2) ?_ ?_
 ·refine⟨?_⟩;intros c s φ O hs S FF;refine v9 (h.run c s φ O hs S FF) (?_) fun z z y=>y;intros v h φ st p15_;obtain⟨a,ra,m,ep,kvs,e,hm,hq⟩:_:=p15_;refine zw a ra ?_;subst e;exact⟨"dict","dict.items",⟨F.plainAttrs_dict,F.slot_dict_items,F.type_dict_items⟩,.dictB hm,zA (d3_ rfl rfl ⟨m,ep,kvs,rfl,hm,hq⟩)⟩
 ·intros id v vs a as s₁ φ₁ st₁ S₁ g₁ ra ras p16_;obtain⟨rfl,rfl,m,ep,kvs,rfl,hm,hq⟩:_:=p16_;subst ras;obtain⟨a,ha,rfl⟩:_:=zJ ra;obtain⟨ws,hd,rs⟩:_:=S₁.objs m a _ ha hm
  have hlen:((kvs.map (fun x=>x.1)).zip ws).length=kvs.length:=by simp[rs.length]
  have hsys:=S₁.notSys hB (List.mem_of_getElem? ha);refine call_meetsIn F.slot_dict_items hd.dictOf.typeIs F.entry_dict_items (F.args_dict_items_1 _) (meets_dict_items _ a hsys) ⟨⟨_,hd.dictOf⟩,?_⟩;have hd':(s₁.heap.push { cls:=.type "dict_items",data:=.fields #[.ref a] }).DictAt (bytesKind B.prog B.w) a ((kvs.map (fun x=>x.1)).zip ws) ep:=hd.push _;refine wpAny_pyIter_items (s:={ s₁ with heap:=s₁.heap.push { cls:=.type "dict_items",data:=.fields #[.ref a] } }) (uG _ (Heap.get?_push_size _ rfl) rfl rfl) hd' ?_;rw[hlen];have hne:∀(h:Heap) (o:Obj),(h.push o).objs.size=h.objs.size+1:=fun h o=>Heap.size_push ..
  have key:Po B c.P s₁.heap φ₁ (kN B c.P (.Tuple elts kk tp) s₁.heap QI) (.ref (s₁.heap.push { cls:=.type "dict_items",data:=.fields #[.ref a] }).objs.size)
    { s₁ with heap:=(s₁.heap.push { cls:=.type "dict_items",data:=.fields #[.ref a] }).push { cls:=.type "dict_itemiterator",data:=.fields #[.none,.bool false,.ref a,.int 0 0,.int kvs.length 0,.int ep 0,.none,.none] },toks:=s₁.toks }:=by
   refine vL (s:=s₁) S₁ (WZ (d:=a) (n:=m) (ep:=ep) (kvs:=kvs)) (fun b o e=>Heap.get?_push_of_some _ (Heap.get?_push_of_some _ e)) (X0 _ _ (Heap.get?_push_size _ rfl)) ra ?_ hq;intros b hb;rw[List.mem_singleton.mp hb,hne]
   cases q:s₁.heap.get? (s₁.heap.objs.size+1)with
   | none=>rfl
   | some o=>exact absurd (Heap.lt_size q) (Nat.not_lt.mpr (Nat.le_succ _))
  obtain⟨φ₂,st2,S₂,g₂,i⟩:_:=key;exact zV φ₂ st2 S₂ (g₁.trans g₂) (i.after g₁)
theorem ke {name:Str} {id:String} (h:Slot "list" name id) (t:typeOf (.builtin id)=pure (.type "method_descriptor")):tP "list" name id:=⟨F.plainAttrs_list,h,t⟩
theorem vW {m:Nat} {xs:List AV} {a:AV} (hm:st[m]?=some (.list xs)) (hz:xs.length<=16777216) (h:Q .none (st.set m (.list (xs++[a])))):vS B "list.append" [.ref m,a] Q st:=by
 revert B st Q m xs a hm hz h
 intros B st Q m xs a hm hz h;intros A P s φ vs hh hu S ras;obtain⟨u,v,rfl,ra,rb⟩:_:=xw ras;obtain⟨b,hb,rfl⟩:_:=zJ ra;obtain⟨vs,k,hl,rs⟩:_:=S.listAt hb hm;refine wpAny_list_append_plain (hsz:=by rw[sizeLine_eq,List.size_toArray,rs.length];exact hz) ⟨k,hl⟩ ?_;intros h' hl' hsb;obtain⟨n',hl'⟩:=hl';obtain⟨S',g⟩:=S.turn (o':=.list (xs++[a])) (t:=s.toks) hb hsb ⟨_,hl'⟩ fun g=>⟨vs++[v],n',by rw[hl',List.push_toArray],(rs.go g).append ((zV v ([]) rfl (rb.go g) (by exact rfl)))⟩;exact zV φ _ S' g ⟨.none,vx,h⟩
theorem XJ (f:Array Value->Array Value) (xs:Array Value) (k:Nat):∃m,Obj.mapSeq f { cls:=.type "list",dict:=none,data:=.seq xs k,slots:=#[] }={ cls:=.type "list",dict:=none,data:=.seq (f xs) m,slots:=#[] }:=⟨_,rfl⟩
theorem R2 {m:Nat} {xs:List AV} {a:AV} (hm:st[m]?=some (.list (a::xs))) (hz:xs.length<=16777000) (h:Q a (st.set m (.list xs))):vS B "list.pop" [.ref m,.int 0] Q st:=by
 revert B st Q m xs a hm hz h
 intros B st Q m xs a hm hz h;intros A P s φ vs hh hu S ras;obtain⟨u,v,rfl,ra,rb⟩:_:=xw ras;obtain⟨b,hb,rfl⟩:_:=zJ ra;obtain⟨t,rfl⟩:_:=zS rb;obtain⟨vs,k,hl,rs⟩:_:=S.listAt hb hm;have rs':=rs;obtain⟨w,ws,rfl,rw_,rws⟩:_:=rs';have hws:ws.length=xs.length:=rws.length;refine call_meets F.slot_list_pop (zw _ hl rfl) F.entry_list_pop (F.args_list_pop_2 _ _) (MeetsSeq.list_pop_at b (w::ws).toArray k 0 t 0 w (by decide) (by unfold seqIndex?;simp) (rfl) (by rw[sizeLine_eq];simp[hws];exact F1 hz)) ⟨hl,?_⟩;have ho:s.heap.get? b=some { cls:=.type "list",dict:=none,data:=.seq (w::ws).toArray k,slots:=#[] }:=hl;obtain⟨k',em⟩:_:=XJ (fun xs=>xs.eraseIdxIfInBounds 0) (w::ws).toArray k;rw[show ((w::ws).toArray.eraseIdxIfInBounds 0)=ws.toArray from by simp[Array.eraseIdxIfInBounds]]at em;have hl':=Heap.get?_update_self (Obj.mapSeq fun xs=>xs.eraseIdxIfInBounds 0) ho (by rw[em];rfl);rw[em]at hl';obtain⟨S',g⟩:_:=S.turn (o':=.list xs) (t:=s.toks) hb (Heap.SameBut.update ..) ⟨_,hl'⟩ fun g=>(wm ws _ hl' (rws.go g));exact zV φ _ S' g ⟨a,rw_.go g,h⟩
end
section
variable {B:Base} {h h':Heap} {φ P P':List Addr} {C:Addr}
theorem qS (hs:∀b∈P,b∈P') (hC:C∈P') (hh:∀b,b≠C->h'.get? b=h.get? b):Mp h h' φ φ P' P:=⟨fun u u e=>e,fun a u e u h1 h2=>(d3_ ((hh a fun q=>h2 (q▸hC)).trans e) h1 (fun q=>h2 (hs _ q)))⟩
theorem VR.drop (hs:∀b∈P,b∈P') (hC:C∈P') (hh:∀b,b≠C->h'.get? b=h.get? b) {a:AV} {v:Value} (e:VR B h φ P' a v):VR B h' φ P a v:=VR.map (qS hs hC hh) e
theorem VRs.drop (hs:∀b∈P,b∈P') (hC:C∈P') (hh:∀b,b≠C->h'.get? b=h.get? b) {l:List AV} {vs:List Value} (e:VRs B h φ P' l vs):VRs B h' φ P l vs:=VRs.map (qS hs hC hh) e
theorem OR.drop (hs:∀b∈P,b∈P') (hC:C∈P') (hh:∀b,b≠C->h'.get? b=h.get? b) {a:Addr} (ha:a≠C) {o:AO} (x:OR B h φ P' a o):OR B h' φ P a o:=OR.map (qS hs hC hh) (fun u e u=>(hh a ha).trans e) x
theorem SR.drop {s:Shared} {st:St} {t:Nat} (S:SR B s φ P' st) (hs:∀b∈P,b∈P') (hC:C∈P') (hCP:C∉P) (hh:∀b,b≠C->h'.get? b=s.heap.get? b):SR B { s with heap:=h',toks:=t } φ P st:=by
 have ne:∀a∈φ,a≠C:=fun a ha q=>S.apart a ha (q▸hC);refine⟨fun b o e=>(hh b fun q=>?_).trans (S.base b o e),S.gens,S.os,S.len,fun n a o e1 e2=>(S.objs n a o e1 e2).drop hs hC hh (ne a (List.mem_of_getElem? e1)),S.nodup,S.newφ,fun a ha=>S.newP a (hs a ha),fun a ha q=>S.apart a ha (hs a q),fun a ha=>?_⟩
 ·subst q;rw[S.newP b hC]at e;cases e
 ·obtain⟨o,e⟩:=S.domP a (hs a ha);exact⟨o,(hh a fun q=>hCP (q▸ha)).trans e⟩
theorem Go.drop {ex:List Addr} {h₀:Heap} {φ₀:List Addr} (g:Go P' ex h₀ φ₀ h φ) (hs:∀b∈P,b∈P') (hP:∀b∈P',b=C\/b∈P) (hn:h₀.get? C=none) (hh:∀b,b≠C->h'.get? b=h.get? b):Go P ex h₀ φ₀ h' φ:=by
 have ne:∀b o,h₀.get? b=some o->b≠C:=fun b o e q=>by subst q;rw[hn]at e;cases e
 refine⟨fun b o e h1 h2=>(hh b (ne b o e)).trans (g.keep b o e h1 fun q=>(hP b q).elim (ne b o e) h2),fun b o e h1 h2=>?_,fun b o e=>?_,g.ext⟩
 ·obtain⟨sl,e'⟩:=g.prot b o e (hs b h1) h2;exact⟨sl,(hh b (ne b o e)).trans e'⟩
 ·obtain⟨o',e'⟩:=g.dom b o e;exact⟨o',(hh b (ne b o e)).trans e'⟩
theorem Go.less {ex ex':List Addr} {h₀:Heap} {φ₀:List Addr} (g:Go P ex h₀ φ₀ h φ) (hx:∀b∈ex,b∈ex'\/h₀.get? b=none):Go P ex' h₀ φ₀ h φ :=
 ⟨g.keep,fun b o e hP hb=>g.prot b o e hP (fun q=>(hx b q).elim hb (fun z=>by rw[z]at e;cases e)),g.dom,g.ext⟩
theorem FR.drop {nm:Nat->Str} {nN:Nat} {c c':Cx} {ρ:Rho} {n:Nat} (O:c.Ok n) (F:FR B nm nN h φ c' ρ) (he:c'.env=c.env) (hA:c'.A=c.A) (hs:∀b∈c.P,b∈c'.P) (hC:C∈c'.P) (hCP:C∉c.P) (hh:∀b,b≠C->h'.get? b=h.get? b):FR B nm nN h' φ c ρ :=
 F.map (qS hs hC hh) he.symm hA.symm fun b o hb e u=>⟨o.slots,(hh b fun q=>hCP (q▸O.frA (by unfold FrA at hb ⊢;rw[he,hA]at hb;exact hb))).trans e⟩
end
noncomputable def wG (scope sc:Scope):Scope :=
 { scope with names:=scope.names.map fun (n,k)=>if (k == .free&&sc.kind == .function&&sc.names.lookup n==some .cell) then (n,.cell) else (n,k) }
theorem W_ {scope:Scope} {env:Env} {sc:Scope} (hs:env.scope=sc):relabel scope env=wG scope sc:=by subst hs;rfl
theorem ku {g:Str->NameKind->NameKind} {x:Str}:∀{l:List (Str×NameKind)},(l.map fun p=>(p.1,g p.1 p.2)).lookup x=(l.lookup x).map (g x)
 | []=>rfl
 | (n,k)::r=>by
  simp only[List.map_cons,List.lookup_cons]
  cases hx:x==n with
  | true=>rw[<-eq_of_beq hx];rfl
  | false=>exact ku
theorem jQ (scope sc:Scope):(wG scope sc).names=scope.names.map fun p=>(p.1,if (p.2 == .free&&sc.kind == .function&&sc.names.lookup p.1==some .cell) then .cell else p.2):=by
 unfold wG;simp only
 congr 1
 funext p
 split<;>rfl
theorem uC {scope sc:Scope} {x:Str} {k:NameKind} (h:scope.names.lookup x=some k):(wG scope sc).names.lookup x=some (if (k == .free&&sc.kind == .function&&sc.names.lookup x==some .cell) then .cell else k):=by
 rw[jQ,ku (g:=fun n k=>if (k == .free&&sc.kind == .function&&sc.names.lookup n==some .cell) then .cell else k),h];rfl
noncomputable def Rho.only (caps:List Nat) (ρ:Rho):Rho:=caps.filterMap fun i=>(ρ.get i).map fun a=>(i,a)
theorem Rho.only_get {caps:List Nat} {ρ:Rho} {i:Nat} {a:AV} (h:(Rho.only caps ρ).get i=some a):i∈caps/\ρ.get i=some a:=by
 revert caps ρ i a h
 intros caps ρ i a h
 induction caps with
 | nil=>exact nomatch h
 | cons j r ih =>
  unfold Rho.only at h;rw[List.filterMap_cons]at h
  cases hj:ρ.get j with
  | none =>
   rw[hj]at h;obtain⟨h1,h2⟩:_:=ih h;exact⟨.tail _ h1,h2⟩
  | some b =>
   rw[hj]at h;have h':(match Nat.beq j i with | true=>some b | false=>(Rho.only r ρ).get i)=some a:=h
   cases hb:Nat.beq j i with
   | true =>
    rw[hb]at h';have:=Nat.eq_of_beq_eq_true hb;subst this;cases h';exact⟨.head _,hj⟩
   | false =>
    rw[hb]at h';obtain⟨h1,h2⟩:_:=ih h';exact⟨.tail _ h1,h2⟩
structure jk (nm:Nat->Str) (nN:Nat) (sc scope:Scope) (caps:List Nat) (t:Tg):Prop where
 kind:scope.kind = .function
 names:∀x∈scope.names,x.2 = .local->scope.names.lookup x.1=some .local
 noCell:∀x∈scope.names,x.2 ≠ .cell
 free:∀x∈scope.names,x.2 = .free->∃i∈caps,x.1=nm i
 caps:∀i∈caps,i<nN/\sc.names.lookup (nm i)=some .cell/\scope.names.lookup (nm i)=some .free
 tgs:∀i∈t.names,i<nN/\scope.names.lookup (nm i)=some .local
noncomputable def Pp (nm:Nat->Str) (nN:Nat) (sc scope:Scope) (caps:List Nat) (t:Tg):Bool :=
 decide ((∀x∈scope.names,x.2 = .local->scope.names.lookup x.1=some .local)/\(∀x∈scope.names,x.2 ≠ .cell)/\(∀x∈scope.names,x.2 = .free->∃i∈caps,x.1=nm i) /\
  (∀i∈caps,i<nN/\sc.names.lookup (nm i)=some .cell/\scope.names.lookup (nm i)=some .free) /\ ∀i∈t.names,i<nN/\scope.names.lookup (nm i)=some .local)
theorem jk.of {nm:Nat->Str} {nN:Nat} {sc scope:Scope} {caps:List Nat} {t:Tg} (h:Pp nm nN sc scope caps t=true) (k:autoParam (scope.kind = .function) af_):jk nm nN sc scope caps t :=
 let z:=of_decide_eq_true h;⟨k,z.1,z.2.1,z.2.2.1,z.2.2.2.1,z.2.2.2.2⟩
theorem uT {env:Env}:∀{names:List (Str×NameKind)} {cs:List (Str×Addr)},(∀x∈names,x.2 = .free->∃b,env.cells.lookup x.1=some b)->(∀x b,cs.lookup x=some b->env.cells.lookup x=some b) ->
  ∃cl,(forIn names cs (fun (p:Str×NameKind) (cs:List (Str×Addr))=>(if (p.2==NameKind.free)=true then do let b <-cellOf env p.1;pure (ForInStep.yield ((p.1,b)::cs)) else pure (ForInStep.yield cs):Sem _)):Sem (List (Str×Addr)))=pure cl /\
   (∀x b,cl.lookup x=some b->env.cells.lookup x=some b)/\(∀x,(x,.free)∈names\/(cs.lookup x).isSome=true->(cl.lookup x).isSome=true)
 | [],cs,_,hc=>⟨cs,rfl,hc,fun x h=>h.elim (fun q=>nomatch q) id⟩
 | (y,k)::r,cs,hn,hc=>by
  rw[List.forIn_cons]
  by_cases hk:(k==NameKind.free)=true
  ·have ek:=eq_of_beq hk;subst ek;obtain⟨b,hb⟩:=hn (y,.free) (.head _) rfl
   obtain⟨cl,e,h1,h2⟩:=uT (names:=r) (cs:=(y,b)::cs) (fun x hx=>hn x (.tail _ hx)) (fun x b' h=>by
    rw[List.lookup_cons]at h
    split at h
    ·rename_i hxy;cases h;rw[eq_of_beq hxy];exact hb
    ·exact hc x b' h)
   refine⟨cl,?_,h1,fun x h=>h2 x ?_⟩
   ·rw[if_pos hk]
    have:cellOf env (y,NameKind.free).1=pure b:=by unfold cellOf;rw[hb]
    rw[this];exact e
   ·rw[List.lookup_cons]
    rcases h with h | h
    ·rcases List.mem_cons.mp h with h | h
     ·cases h;right;simp
     ·exact .inl h
    ·right
     split
     ·rfl
     ·exact h
  ·obtain⟨cl,e,h1,h2⟩:=uT (names:=r) (cs:=cs) (fun x hx=>hn x (.tail _ hx)) hc;refine⟨cl,?_,h1,fun x h=>h2 x ?_⟩
   ·rw[if_neg hk];exact e
   ·rcases h with h | h
    ·rcases List.mem_cons.mp h with h | h
     ·cases h;exact absurd rfl hk
     ·exact .inl h
    ·exact .inr h
section
variable {prog:Program} {w:World} {A:Around} {E:Value->Shared->Prop} {s:Shared}
theorem VK {elt target iter:Expr} {ifs:List Expr} {scope:Scope} {pos:Pos} {it acc:Value} {env:Env} {R:Result->Shared->Prop} (I:Nat->Shared->Prop)
  (turn:∀n s,I n s->wpAny (model prog w) A (pyNext it) (fun r s₁=>match r with
   | none=>R (.ok .next) s₁
   | some v=>wpAny (model prog w) A (letOwnedTupleGo target it v) (fun u s0=>wpAny (model prog w) A (assign target env v) (fun u s₂ =>
     wpAny (model prog w) A (forIn ifs true fun c r=>if r=true then do let ok <-isTrue c env (eval c env);pure (ForInStep.yield ok) else pure (ForInStep.yield r)) (fun ok s₃ =>
      if ok=true then wpAny (model prog w) A (eval elt env) (fun x s₄ =>
       wpAny (model prog w) A (call (.builtin "list.append") [acc,x]) (fun u s₅=>∃m,m<n/\I m s₅) (fun u u=>False) s₄) (fun u u=>False) s₃
      else ∃m,m<n/\I m s₃) (fun u u=>False) s₂) (fun u u=>False) s0) (fun u u=>False) s₁) (fun u u=>False) s)
  (n:Nat) (h:I n s):codeAny (model prog w) A (.compLoop (.ListComp elt [⟨target,iter,ifs,0⟩] scope pos) 0 it acc env) R s:=by
 revert prog w A s elt target iter ifs scope pos it acc env R I turn n h
 intros prog w A s elt target iter ifs scope pos it acc env R I turn n h;refine codeAny_loop rfl I (?_) n h;intros n s hI;show wpAny _ A ((compTurn (.ListComp elt [⟨target,iter,ifs,0⟩] scope pos) 0 it acc env).onRaise (fun x=>do noteFrame x env;theTreesLotGoes x)) _ _ s;refine wpAny_noted ?_;rw[compTurn_list];refine wpAny_bind (wpAny_standAt (wpAny_bind (wpAny_mono (turn n s hI) (?_) fun u u h'=>h'.elim)));intros r s₁ h1
 cases r with
 | none=>exact wpAny_pure h1
 | some v =>
  refine wpAny_bind (wpAny_mono h1 (?_) fun u u h'=>h'.elim);intros _ s0 h0';refine wpAny_bind (wpAny_mono h0' (?_) fun u u h'=>h'.elim);intros _ s₂ h₂;refine wpAny_bind (wpAny_mono h₂ (fun ok s₃ h₃=>?_) fun u u h'=>h'.elim)
  cases ok with
  | false=>exact wpAny_pure ⟨rfl,h₃⟩
  | true =>
   exact wpAny_bind (wpAny_bind (wpAny_mono h₃ (fun x s₄ h4=>wpAny_bind (wpAny_mono h4 (fun u s₅ h5=>wpAny_pure (wpAny_pure ⟨rfl,h5⟩)) fun u u h'=>h'.elim)) fun u u h'=>h'.elim))
end
noncomputable def noX:AV->St->Prop:=fun u u=>False
theorem ZD {B:Base} {P:List Addr} {h:Heap} {φ:List Addr} {L:Addr} {x:Value} {s:Shared} (e:Exc B P h φ L noX x s):False:=by
 obtain⟨_,_,_,_,_,_,h⟩:=e;exact h
noncomputable def Uo (B:Base) (nm:Nat->Str) (nN n:Nat) (sc:Scope):List Expr->Rho->(Bool->St->Prop)->St->Prop
 | [],_,Q,st=>Q true st
 | e::es,ρ,Q,st=>WT B nm nN n sc e ρ (fun b st₁=>if b=true then Uo B nm nN n sc es ρ Q st₁ else Q false st₁) noX st
section
variable {B:Base} {nm:Nat->Str} {nN n:Nat} {sc:Scope} {ρ:Rho} {st:St} {s:Shared} {φ:List Addr}
theorem Uj {M:Model} {A:Around} {env:Env} {E:Value->Shared->Prop} {Q:Bool->Shared->Prop}:∀(es:List Expr),Q false s->wpAny M A (forIn es false fun c r=>if r=true then do let ok <-isTrue c env (eval c env);pure (ForInStep.yield ok) else pure (ForInStep.yield r)) Q E s:=by
 intro l_
 induction l_ with
 | nil =>
  intro h;exact wpAny_pure h
 | cons e es ih_ =>
  intro h;rw[List.forIn_cons];exact wpAny_bind (wpAny_pure (ih_ h))
theorem Rb {c:Cx} (O:c.Ok n) (hs:c.env.scope=sc):∀{es:List Expr} {Q:Bool->St->Prop} {s:Shared} {φ:List Addr} {st:St},SR B s φ c.P st->FR B nm nN s.heap φ c ρ->Uo B nm nN n sc es ρ Q st ->
  wpAny (model B.prog B.w) c.A (forIn es true fun e r=>if r=true then do let ok <-isTrue e c.env (eval e c.env);pure (ForInStep.yield ok) else pure (ForInStep.yield r)) (Po B c.P s.heap φ (fun b u u st=>Q b st)) (fun u u=>False) s:=by
 intro l_
 induction l_ with
 | nil =>
  intro Q s φ st S F h;exact wpAny_pure (z8 S h)
 | cons e es ih_ =>
  intro Q s φ st S F h;rw[List.forIn_cons];refine wpAny_bind (wpAny_bind (wpAny_mono (h.run c s φ O hs S F) ?_ fun u u y=>(ZD y).elim));intro b s₁ p1z;refine xH (p1z) fun φ₁ st₁ S₁ g₁ h1=>?_;try clear p1z;refine wpAny_pure ?_
  cases b with
  | true=>exact wpAny_mono (ih_ S₁ (F.go O g₁) h1) (fun u u y=>y.after g₁) fun u u y=>y
  | false=>exact Uj es (zV φ₁ st₁ S₁ g₁ h1)
noncomputable def Cx.comp (c:Cx) (scope:Scope) (cl:List (Str×Addr)) (C:Addr):Cx:=⟨c.A,compEnvC scope cl C c.env,c.L,[C],c.P⟩
theorem Cx.comp_ok {c:Cx} {scope:Scope} {cl:List (Str×Addr)} {C:Addr} (O:c.Ok n) (hk:scope.kind = .function) (hcl:∀x b,cl.lookup x=some b->c.env.cells.lookup x=some b) (hC:C∉c.P):(c.comp scope cl C).OkL n:=by
 revert n c scope cl C O hk hcl hC
 intros n c scope cl C O hk hcl hC;refine⟨⟨O.handled,O.depth,O.units,?_,hk,O.globals,O.builtins,O.frame,List.mem_singleton.mpr rfl,fun x b e=>List.mem_append_right _ (O.cells x b (hcl x b e)),fun b hb hp=>hC (List.mem_singleton.mp hb▸hp)⟩,?_⟩
 ·obtain⟨fenv,outer,h1,h2,h3⟩:_:=O.frames;refine zV fenv outer h1 h2 ?_;intros e he;obtain⟨k,L,h4,h5⟩:_:=h3 e he;exact⟨k,L,h4,List.mem_append_right _ h5⟩
 ·intros x b e q;have:b=C:=q;subst this;exact hC (O.cells x b (hcl x b e))
end
theorem Go.wide {P ex:List Addr} {h h':Heap} {φ φ':List Addr} {C:Addr} (g:Go P [] h φ h' φ'):Go ([C]++P) [C] h φ h' φ' :=
 ⟨fun b o e h1 h2=>g.keep b o e h1 fun q=>h2 (List.mem_append_right _ q),fun b o e h1 h2=>g.prot b o e ((List.mem_append.mp h1).resolve_left h2) (wE),g.dom,g.ext⟩
section
variable {B:Base} {nm:Nat->Str} {nN n:Nat} {sc scope:Scope} {ρ:Rho} {st:St} {s:Shared} {φ:List Addr} {X:AV->St->Prop}
noncomputable def Zc (B:Base) (nm:Nat->Str) (nN n:Nat) (sc:Scope) (t:Tg) (elt:Expr) (ifs:List Expr) (ρ₀:Rho) (U:AV->St->Prop) (items:List AV) (guard:St->Prop) (st₁:St):Prop :=
 ∃I:List AV->St->Prop,I items (st₁++[.list []])/\(∀st',I [] st'->guard st'/\U (.ref st₁.length) st') /\
  ∀a rest st',I (a::rest) st'->guard st' /\ ∃ρ'',t.bind a ρ₀=some ρ''/\Uo B nm nN n sc ifs ρ'' (fun ok st₂=>if ok=true then
   WE B nm nN n sc elt ρ'' (fun v st₃=>∃acc,st₃[st₁.length]?=some (.list acc)/\acc.length<=16777216/\I rest (st₃.set st₁.length (.list (acc++[v])))) noX st₂
   else I rest st₂) st'
set_option tactic.hygienic true in
theorem Zb {c:Cx} {t:Tg} {tg iter elt:Expr} {ifs:List Expr} {pos p:Pos} {caps:List Nat} {use:Option (Value->Sem Unit)} {U:AV->St->Prop} {Qp:Value->Shared->Prop}
  (hinj:u3 nm nN) (O:c.Ok n) (hs:c.env.scope=sc) (K:jk nm nN sc scope caps t) (ht:ZS nm t tg) (hcaps:∀i∈caps,∃a,ρ.get i=some a) (hf:∀env x,foldedSetIterable iter env x=pure x)
  (S:SR B s φ c.P st) (F:FR B nm nN s.heap φ c ρ)
  (h:WI B nm nN n sc tg iter ρ (Zc B nm nN n (wG scope sc) t elt ifs (ρ.only caps) U) X st)
  (hfin:∀(s':Shared) φ' st' C acc m k,C∉c.P->C∉φ'->s.heap.get? C=none->s'.heap.Ns C m->SR B s' φ' ([C]++c.P) st'->Go ([C]++c.P) [C] s.heap φ s'.heap φ'->VR B s'.heap φ' ([C]++c.P) (.ref k) acc->U (.ref k) st' ->
   compPost (model B.prog B.w) c.A (Exc B c.P s.heap φ c.L X) use Qp acc C (.ok .next) s') :
  wpAny (model B.prog B.w) c.A (comprehension (.ListComp elt [⟨tg,iter,ifs,0⟩] scope pos) scope c.env p (newList []) false (eval iter c.env) use) Qp (Exc B c.P s.heap φ c.L X) s:=by
 revert B nm nN n sc scope ρ st s φ X c t tg iter elt ifs pos p caps use U Qp hinj O hs K ht hcaps hf S F h hfin
 intros B nm nN n sc scope ρ st s φ X c t tg iter elt ifs pos p caps use U Qp hinj O hs K ht hcaps hf S F h hfin
 have cellOf_:∀i∈caps,∃b,c.env.cells.lookup (nm i)=some b:=by
  intros i hi;obtain⟨a,ha⟩:_:=hcaps i hi;obtain⟨m,_,hv⟩:_:=F.ns;have z:=(hv i a ha).2
  have hk:c.env.kindOf (nm i)=some .cell:=by unfold Env.kindOf;rw[hs];exact(K.caps i hi).2.1
  rw[hk]at z;obtain⟨b,_,_,hb,_⟩:_:=z;exact⟨b,hb⟩
 obtain⟨cl,hcl,hcl1,hcl2⟩:_:=uT (env:=c.env) (names:=scope.names) (cs:=[]) (fun x hx hfree=>by
  obtain⟨i,hi,e⟩:_:=K.free x hx hfree
  rw[e];exact cellOf_ i hi) (fun x b e=>by cases e)
 have hclos:closureFor scope c.env=pure cl:=by
  have e:closureFor scope c.env=(forIn scope.names [] (fun (p:Str×NameKind) (cs:List (Str×Addr))=>(if (p.2==NameKind.free)=true then do let b <-cellOf c.env p.1;pure (ForInStep.yield ((p.1,b)::cs)) else pure (ForInStep.yield cs):Sem _)):Sem (List (Str×Addr))):=by
   unfold closureFor;simp only[bind_pure]
  rw[e,hcl]
 refine wpAny_comprehension_free (gs:=[]) rfl (fun x=>hf _ x) hclos K.kind K.names ?_;refine wpAny_mono (h.run c s φ O hs S F) (?_) fun u u y=>y;intros x s₁ h₁;refine wpAny_mono h₁ ?_ fun u u y=>y;intros it s₂ p1_;obtain⟨φ₂,st2,S₂,g₂,W,J,src,sv,items,guard,hit,hJ,hsrc,hW,I,h0,hnil,hstep⟩:_:=p1_;have F₂:=F.go O g₂;refine wpAny_newObj_type (wpAny_newFunctionEnv K.noCell (by intro y hy;exact nomatch hy) (?_) K.kind);intros h₃ hns hsb;generalize hD:s₂.heap.objs.size=D at hns hsb ⊢;generalize hH:s₂.heap.push { cls:=.type "list",dict:=none,data:=.seq ([]:List Value).toArray }=H at hns hsb ⊢
 have hHC:H.objs.size=D+1:=by rw[<-hH,Heap.size_push,hD]
 generalize hC:H.objs.size=C at hns hsb ⊢
 have hDC:D≠C:=by rw[<-hC,hHC];exact Nat.ne_of_lt (Nat.lt_succ_self _)
 have Cnone:s₂.heap.get? C=none:=by
  cases q:s₂.heap.get? C with
  | none=>rfl
  | some o=>have:=Heap.lt_size q;rw[hD,<-hC,hHC]at this;exact absurd this (Nat.not_lt.mpr (Nat.le_succ _))
 have kH:∀b o,s₂.heap.get? b=some o->H.get? b=some o:=fun b o e=>by rw[<-hH];exact Heap.get?_push_of_some _ e
 have HD:H.get? D=some { cls:=.type "list",dict:=none,data:=.seq ([]:List Value).toArray }:=by rw[<-hH,<-hD];exact Heap.get?_push_size _ rfl
 have HC:H.get? C=none:=by rw[<-hC];exact yz H
 have kH3:∀b o,H.get? b=some o->h₃.get? b=some o:=fun b o e=>(hsb.2 b fun q=>by rw[q,HC]at e;cases e).trans (Heap.get?_push_of_some _ e);obtain⟨oC,esC,epC,eC,eCd,rC⟩:_:=id hns;obtain⟨S₃,g₃⟩:_:=S₂.more (o:=default) (o':=.list []) (t:=s₂.toks) (h':=H) kH ⟨_,by rw[hD];exact HD⟩ fun g=>⟨[],0,by rw[hD];exact HD,rfl⟩;rw[hD]at S₃ g₃;have outC:C∉φ₂++[D]/\C∉c.P:=S₃.out HC
 have S₄:SR B { s₂ with heap:=h₃,toks:=s₂.toks } (φ₂++[D]) ([C]++c.P) (st2++[.list []]) :=
  SR.wider (s:={ s₂ with heap:=H,toks:=s₂.toks }) S₃ kH3 (fun b hb=>by rw[List.mem_singleton.mp hb];exact HC) fun b hb=>by rw[List.mem_singleton.mp hb];exact⟨oC,eC⟩
 have gh:Go c.P [] s.heap φ h₃ (φ₂++[D]):=(g₂.trans g₃).trans (Go.of_keep kH3);have F₄:FR B nm nN h₃ (φ₂++[D]) c ρ:=F.go O gh
 have snone:s.heap.get? C=none:=by
  cases q:s.heap.get? C with
  | none=>rfl
  | some o=>obtain⟨o',e'⟩:=g₂.dom C o q;rw[Cnone]at e';cases e'
 generalize hc':c.comp scope cl C=c';have O':c'.OkL n:=hc'▸Cx.comp_ok O K.kind hcl1 outC.2
 have hP':c'.P=[C]++c.P:=by rw[<-hc'];rfl
 have hL':c'.L=c.L:=by rw[<-hc'];rfl
 have hA':c'.A=c.A:=by rw[<-hc'];rfl
 have hs':c'.env.scope=wG scope sc:=by rw[<-hc'];exact W_ hs
 have F':FR B nm nN h₃ (φ₂++[D]) c' (ρ.only caps):=by
  refine⟨⟨_,by rw[<-hc'];exact hns,?_⟩,?_,?_⟩
  ·intros i a e;obtain⟨hi,ha⟩:_:=Rho.only_get e;refine⟨(K.caps i hi).1,?_⟩
   have hk:c'.env.kindOf (nm i)=some .cell:=by
    unfold Env.kindOf;rw[hs',uC (K.caps i hi).2.2]
    have:sc.kind = .function:=by rw[<-hs];exact O.kind
    rw[this,(K.caps i hi).2.1];rfl
   rw[hk];obtain⟨m,_,hv⟩:_:=F₄.ns;have z:=(hv i a ha).2
   have hk0:c.env.kindOf (nm i)=some .cell:=by unfold Env.kindOf;rw[hs];exact(K.caps i hi).2.1
   rw[hk0]at z;obtain⟨b,o,v,hb,ho,hd,r⟩:_:=z;have:∃b',cl.lookup (nm i)=some b':=Option.isSome_iff_exists.mp (hcl2 (nm i) (.inl (tU (K.caps i hi).2.2)));obtain⟨b',hb'⟩:_:=this;have eb:=hcl1 _ _ hb';rw[hb]at eb;cases eb;refine⟨b,o,v,by rw[<-hc'];exact hb',ho,hd,?_⟩;rw[hP'];have F₃:FR B nm nN H (φ₂++[D]) c ρ:=F.go O (g₂.trans g₃);obtain⟨m3,_,hv3⟩:_:=F₃.ns;have z₃:=(hv3 i a ha).2;rw[hk0]at z₃;obtain⟨b3,o₃,v3,hb3,ho3,hd₃,r3⟩:_:=z₃;rw[hb]at hb3;cases hb3;have:h₃.get? b=some o₃:=kH3 _ _ ho3;rw[ho]at this;cases this;rw[hd]at hd₃;cases hd₃;exact(r3.wider (X:=[C]) fun b hb=>by rw[List.mem_singleton.mp hb];exact HC).go (Go.of_keep (ex:=[]) kH3)
  ·intros x b e
   have e':cl.lookup x=some b:=by rw[<-hc']at e;exact e
   exact F₄.cellObj x b (hcl1 _ _ e')
  ·intros fr hf' e he L hL;rw[hA']at hf';exact F₄.fo _ hf' e he L hL
 have hJ4:J 0 h₃:=hit.frame _ _ _ hJ fun b hb o e=>kH3 _ _ (kH _ _ e)
 have hW4:∀b∈W,s.heap.get? b=none/\b∉φ₂++[D]/\b∉c'.P:=by
  intros b hb;obtain⟨o,ho⟩:_:=hit.live _ _ hJ b hb;refine⟨(hW b hb).1,?_,?_⟩
  ·intros q
   rcases List.mem_append.mp q with q | q
   ·exact(hW b hb).2.1 q
   ·rw[List.mem_singleton.mp q]at ho;have:=Heap.lt_size ho;rw[hD]at this;exact absurd this (Nat.lt_irrefl _)
  ·rw[hP'];intros q
   rcases List.mem_append.mp q with q | q
   ·rw[List.mem_singleton.mp q,Cnone]at ho;cases ho
   ·exact(hW b hb).2.2 q
 have hsrc4:VR B h₃ (φ₂++[D]) c'.P src sv:=by
  rw[hP'];exact((hsrc.go g₃).wider (X:=[C]) fun b hb=>by rw[List.mem_singleton.mp hb];exact HC).go (Go.of_keep (ex:=[]) kH3)
 have hWH:∀b∈W,B.H₀.get? b=none:=by
  intros b hb
  cases q:B.H₀.get? b with
  | none=>rfl
  | some o=>have:=S.base _ _ q;rw[(hW b hb).1]at this;cases this
 have hlen:φ₂.length=st2.length:=S₂.len
 have g₄:Go c'.P [C] s.heap φ h₃ (φ₂++[D]):=by rw[hP'];exact gh.wide (ex:=[])
 have loop:codeAny (model B.prog B.w) c.A (.compLoop (.ListComp elt [⟨tg,iter,ifs,0⟩] scope pos) 0 it (.ref D) c'.env) (compPost (model B.prog B.w) c.A (Exc B c.P s.heap φ c.L X) use Qp (.ref D) C) { s₂ with heap:=h₃,toks:=s₂.toks }:=by
  rw[<-hA']
  refine VK (fun m s'=>∃φ' st' i,SR B s' φ' c'.P st'/\Go c'.P [C] s.heap φ s'.heap φ'/\FR B nm nN s'.heap φ' c' (ρ.only caps)/\J i s'.heap/\VR B s'.heap φ' c'.P src sv/\(∀b∈W,s.heap.get? b=none/\b∉φ'/\b∉c'.P) /\
   φ'[st2.length]?=some D/\I (items.drop i) st'/\m=items.length+1-i/\i<=items.length) ?_ (items.length+1)
   ⟨φ₂++[D],st2++[.list []],0,by rw[hP'];exact S₄,g₄,F',hJ4,hsrc4,hW4,by rw[<-hlen];exact gn,by exact h0,rfl,wD⟩
  intros m s₅ p2_;obtain⟨φ₅,st₅,i,S₅,g₅,F₅,hJ5,hsrc5,hW5,hD5,hI,rfl,hle⟩:_:=p2_
  have hg:guard st₅:=by
   cases hd:items.drop i with
   | nil=>rw[hd]at hI;exact(hnil _ hI).1
   | cons a r=>rw[hd]at hI;exact(hstep _ _ _ hI).1
  refine wpAny_mono (hit.draw i c'.A c'.P s₅ φ₅ st₅
   (fun v s₆=>wpAny (model B.prog B.w) c'.A (assign tg c'.env v) (fun u s₂ =>
     wpAny (model B.prog B.w) c'.A (forIn ifs true fun e r=>if r=true then do let ok <-isTrue e c'.env (eval e c'.env);pure (ForInStep.yield ok) else pure (ForInStep.yield r)) (fun ok s₃ =>
      if ok=true then wpAny (model B.prog B.w) c'.A (eval elt c'.env) (fun x s₄ =>
       wpAny (model B.prog B.w) c'.A (call (.builtin "list.append") [.ref D,x]) (fun u s'=>∃m,m<items.length+1-i /\ ∃φ' st' i,SR B s' φ' c'.P st'/\Go c'.P [C] s.heap φ s'.heap φ'/\FR B nm nN s'.heap φ' c' (ρ.only caps)/\J i s'.heap/\VR B s'.heap φ' c'.P src sv/\(∀b∈W,s.heap.get? b=none/\b∉φ'/\b∉c'.P) /\
        φ'[st2.length]?=some D/\I (items.drop i) st'/\m=items.length+1-i/\i<=items.length) (fun u u=>False) s₄) (fun u u=>False) s₃
      else ∃m,m<items.length+1-i /\ ∃φ' st' i,SR B s₃ φ' c'.P st'/\Go c'.P [C] s.heap φ s₃.heap φ'/\FR B nm nN s₃.heap φ' c' (ρ.only caps)/\J i s₃.heap/\VR B s₃.heap φ' c'.P src sv/\(∀b∈W,s.heap.get? b=none/\b∉φ'/\b∉c'.P) /\
        φ'[st2.length]?=some D/\I (items.drop i) st'/\m=items.length+1-i/\i<=items.length) (fun u u=>False) s₂) (fun u u=>False) s₆)
   (fun s₆=>compPost (model B.prog B.w) c'.A (Exc B c.P s.heap φ c.L X) use Qp (.ref D) C (.ok .next) s₆) (fun u u=>False) O'.handled O'.toOk.room S₅ hg hsrc5 hJ5 (fun b hb=>(hW5 b hb).2) ?_ ?_) (fun r s' y=>by cases r<;>exact y) fun u u y=>y
  ·intros v a h' tk hia ra hJ' adv;have T:=adv.turn fun b hb=>(hW5 b hb).2.2;have S₆:SR B { s₅ with heap:=h',toks:=tk } φ₅ c'.P st₅:=S₅.turnX T hWH;have F₆:=F₅.turnX T;have g₆:=g₅.adv adv hW5;have hsrc₆:=hsrc5.turn T;obtain⟨hl,hget⟩:_:=List.getElem?_eq_some_iff.mp hia
   have hd:items.drop i=a::items.drop (i+1):=by rw[List.drop_eq_getElem_cons hl,hget]
   rw[hd]at hI;obtain⟨_,r'',hb,hbody⟩:_:=hstep _ _ _ hI;refine Zl hinj O' ht (?_) hb S₆ F₆ ra ?_
   ·intros j hj;refine⟨(K.tgs j hj).1,.inl ?_⟩;unfold Env.kindOf;rw[hs',uC (K.tgs j hj).2];rfl
   intros s₇ S₇ g7 F7
   have hown:c'.own=[C]:=by rw[<-hc'];rfl
   rw[hown]at g7
   have again:∀{s₈:Shared} {φ₈:List Addr} {st8:St},SR B s₈ φ₈ c'.P st8->Go c'.P [C] s₇.heap φ₅ s₈.heap φ₈->I (items.drop (i+1)) st8->FR B nm nN s₈.heap φ₈ c' (ρ.only caps) ->
     ∃m,m<items.length+1-i /\ ∃φ' st' i,SR B s₈ φ' c'.P st'/\Go c'.P [C] s.heap φ s₈.heap φ'/\FR B nm nN s₈.heap φ' c' (ρ.only caps)/\J i s₈.heap/\VR B s₈.heap φ' c'.P src sv/\(∀b∈W,s.heap.get? b=none/\b∉φ'/\b∉c'.P) /\
      φ'[st2.length]?=some D/\I (items.drop i) st'/\m=items.length+1-i/\i<=items.length:=by
    intros s₈ φ₈ st8 S₈ g8 hI' F₈;have gB:=g7.trans g8;refine⟨items.length+1-(i+1),s6 hl,φ₈,st8,i+1,S₈,g₆.trans gB,F₈,hit.frame _ _ _ hJ' (fun b hb o e=>gB.keep b o e (hW5 b hb).2.1 (hW5 b hb).2.2),hsrc₆.go gB,?_,gB.place hD5,hI',rfl,hl⟩;intros b hb;obtain⟨o,ho⟩:_:=hit.live _ _ hJ' b hb;exact⟨(hW5 b hb).1,gB.notMem (hW5 b hb).2.1 ho,(hW5 b hb).2.2⟩
   have F0:∀{s₈:Shared} {φ₈:List Addr},FR B nm nN s₈.heap φ₈ c' r''->FR B nm nN s₈.heap φ₈ c' (ρ.only caps):=by
    intros s₈ φ₈ F₈;obtain⟨m,hn,hv⟩:_:=F₈.ns;refine⟨⟨m,hn,?_⟩,F₈.cellObj,F₈.fo⟩;intros j b e;refine hv j b ?_;obtain⟨hj,_⟩:_:=Rho.only_get e
    have nj:∀k∈t.names,k≠j:=by
     intros k hk q;subst q;have h1:=(K.tgs k hk).2;rw[(K.caps k hj).2.2]at h1;cases h1
    have sets:∀(is:List Nat) (as:List AV) (r1:Rho),(∀k∈is,k≠j)->(r1.sets is as).get j=r1.get j:=by
     intros is
     induction is with
     | nil=>intro as r1 _;cases as<;>rfl
     | cons k is ih =>
      intros as r1 hk
      cases as with
      | nil=>rfl
      | cons a as =>
       show (Rho.sets (r1.set k a) is as).get j=_;rw[ih _ _ fun x hx=>hk x (.tail _ hx),Rho.get_set,if_neg (Ne.symm (hk k (.head _)))]
    cases t with
    | one k =>
     simp only[Tg.bind_1,Option.some.injEq]at hb;subst hb;rw[Rho.get_set,if_neg (Ne.symm (nj k (.head _)))];exact e
    | tup is =>
     cases a<;>first
      | (cases hb;done)
      | skip
     rename_i as;simp only[Tg.bind_2]at hb
     cases hq:Nat.beq is.length as.length with
     | false=>rw[hq]at hb;cases hb
     | true =>
      rw[hq]at hb;cases hb;rw[sets is as _ fun k hk=>nj k hk];exact e
   refine wpAny_mono (Rb O'.toOk hs' S₇ F7 hbody) ?_ fun u u y=>y;intros ok s₈ p3_;obtain⟨φ₈,st8,S₈,g8,h8⟩:_:=p3_;have F₈:=F7.go O'.toOk g8
   cases ok with
   | false =>
    simp only[Bool.false_eq_true,if_false]at h8 ⊢;exact again S₈ g8.weak h8 (F0 F₈)
   | true =>
    simp only[if_true]at h8 ⊢;refine wpAny_mono (h8.run c' s₈ φ₈ O'.toOk hs' S₈ F₈) ?_ fun u u y=>(ZD y).elim;intros x s₉ p4_;obtain⟨φ₉,st9,S₉,g9,v',rv,acc,hacc,hsz,hI'⟩:_:=p4_;have hD9:φ₉[st2.length]?=some D:=((g7.trans g8.weak).trans g9.weak).place hD5;refine wpAny_mono (vW (a:=v') (Q:=fun u st'=>I (items.drop (i+1)) st') hacc hsz hI' c'.A c'.P s₉ φ₉ [.ref D,x] O'.handled O'.toOk.room S₉ ?_) ?_ fun u u y=>y
    ·skip
     refine⟨.ref D,[x],rfl,by exact⟨D,hD9,rfl⟩,?_⟩;exact⟨x,[],rfl,rv,rfl⟩
    ·intros r s10 p5_;obtain⟨p10,st10,S10,g10,_,_,hI''⟩:_:=p5_;exact again S10 ((g8.weak.trans g9.weak).trans g10.weak) hI'' (F0 ((F₈.go O'.toOk g9).go O'.toOk g10))
  ·intros h' tk hia adv;have hd:items.drop i=[]:=List.drop_eq_nil_iff.mpr (by simpa using hia);rw[hd]at hI;have T:w3 W c'.P s₅.heap h':=adv.turn;have S₆:SR B { s₅ with heap:=h',toks:=tk } φ₅ c'.P st₅:=S₅.turnW T (fun a ha o e=>⟨o,adv.keep a o (fun q=>(hW5 a q).2.2 ha) e⟩) hWH;have g₆:Go c'.P [C] s.heap φ h' φ₅:=g₅.turnW T (fun b o e q=>⟨o,adv.keep b o q e⟩) fun b hb=>(hW5 b hb).1;have F₆:=F₅.turnW T;obtain⟨mC,hnC,_⟩:_:=F₆.ns
   have eL:c'.env.locals=C:=by rw[<-hc'];rfl
   rw[eL]at hnC;rw[hA']
   have hCm:C∈c'.P:=by rw[hP'];exact .head _
   exact hfin _ φ₅ st₅ C (.ref D) mC st2.length outC.2 (fun q=>S₆.apart C q hCm) snone hnC (hP'▸S₆) (hP'▸g₆) (⟨D,hD5,rfl⟩) (hnil _ hI).2
 rw[<-hc']at loop;exact codeAny_compStart_list loop (hit.self 0 _ { s₂ with heap:=h₃,toks:=s₂.toks } _ _ hJ4 loop)
end
section
variable {B:Base} {h h':Heap} {φ φ' P P' ex:List Addr} {C:Addr}
theorem VR.sub (hs:∀b∈P,b∈P') (hC:C∈P') {a:AV} {v:Value} (r:VR B h φ P' a v):VR B h φ P a v:=r.drop hs hC fun u u=>rfl
theorem SR.sub {s:Shared} {st:St} (S:SR B s φ P' st) (hs:∀b∈P,b∈P') (hC:C∈P'):SR B s φ P st:=by
 have ne:∀a∈φ,a≠C:=fun a ha q=>S.apart a ha (q▸hC);exact⟨S.base,S.gens,S.os,S.len,fun n a o e1 e2=>(S.objs n a o e1 e2).drop hs hC (fun u u=>rfl) (ne a (List.mem_of_getElem? e1)),S.nodup,S.newφ,fun a ha=>S.newP a (hs a ha),fun a ha q=>S.apart a ha (hs a q),fun a ha=>S.domP a (hs a ha)⟩
theorem Go.perm (g:Go P ex h φ h' φ') (hs:∀b,b∈P↔b∈P'):Go P' ex h φ h' φ' :=
 ⟨fun b o e h1 h2=>g.keep b o e h1 fun q=>h2 ((hs b).mp q),fun b o e h1 h2=>g.prot b o e ((hs b).mpr h1) h2,g.dom,g.ext⟩
end
section
variable {B:Base} {nm:Nat->Str} {nN n:Nat} {sc scope:Scope} {ρ:Rho} {st:St} {Q X:AV->St->Prop}
theorem yu {t:Tg} {tg iter elt:Expr} {ifs:List Expr} {pos:Pos} {caps:List Nat} (hinj:u3 nm nN) (K:jk nm nN sc scope caps t) (ht:ZS nm t tg) (hcaps:∀i∈caps,∃a,ρ.get i=some a) (hf:∀env x,foldedSetIterable iter env x=pure x)
  (h:WI B nm nN n sc tg iter ρ (Zc B nm nN n (wG scope sc) t elt ifs (ρ.only caps) Q) X st):WE B nm nN n sc (.ListComp elt [⟨tg,iter,ifs,0⟩] scope pos) ρ Q X st:=by
 refine⟨fun c s φ O hs S F=>?_⟩;rw[eval_ListComp];refine Zb (use:=none) (U:=Q) hinj O hs K ht hcaps hf S F h fun s' φ' st' C acc m k hCP hCp hn hns S' g' ra hU=>?_;refine zw m hns (fun h' hsb=>?_);have hh:∀b,b≠C->h'.get? b=s'.heap.get? b:=fun b hb=>hsb.2 b hb;have hs1:∀b∈c.P,b∈[C]++c.P:=fun b hb=>List.mem_append_right _ hb
 have hCm:C∈[C]++c.P:=by exact .head _
 refine zV φ' st' (S'.drop (t:=s'.toks) hs1 hCm hCP hh) ((g'.drop hs1 (fun b hb=>by simpa using hb) hn hh).less (ex':=[]) fun b hb=>.inr (by rw[List.mem_singleton.mp hb];exact hn)) ⟨.ref k,ra.drop hs1 hCm hh,hU⟩
theorem Wb {t:Tg} {tg iter elt:Expr} {ifs:List Expr} {pos spos px:Pos} {caps:List Nat} {i:Nat} {R:Fl->Rho->St->Prop} {X:AV->Rho->St->Prop} (hinj:u3 nm nN) (K:jk nm nN sc scope caps t) (ht:ZS nm t tg) (hcaps:∀i∈caps,∃a,ρ.get i=some a)
  (hf:∀env x,foldedSetIterable iter env x=pure x) (hi:i<nN) (hst:wH sc (nm i)) (hsw:∀env:Env,env.scope=sc->swapsWith (.ListComp elt [⟨tg,iter,ifs,0⟩] scope pos) (some (.Name (nm i) px)) spos.line env=pure true)
  (h:WI B nm nN n sc tg iter ρ (Zc B nm nN n (wG scope sc) t elt ifs (ρ.only caps) fun a st'=>R .next (ρ.set i a) st') (fun t st'=>X t ρ st') st):WS B nm nN n sc (.Assign [.Name (nm i) px] (.ListComp elt [⟨tg,iter,ifs,0⟩] scope pos) spos) ρ R X st:=by
 refine⟨fun c s φ O hs S F=>?_⟩;rw[exec_Assign_Name_used _ _ _ _ (hsw _ hs)];refine wpAny_bind (wpAny_standAt (wpAny_bind ?_))
 refine wpAny_bind (wpAny_mono (Zb (use:=some (assign (.Name (nm i) px) c.env)) (U:=fun a st'=>R .next (ρ.set i a) st') (Qp:=fun u s'=>PoS B nm nN c s.heap φ R .next s') hinj O.toOk hs K ht hcaps hf S F h fun s' φ' st' C acc m k hCP hCp hn hns S' g' ra hU=>?_)
  (fun u s' hq=>wpAny_pure (wpAny_pure hq)) fun u u y=>xG O.toOk F y)
 let c':Cx:={ c with P₀:=C::c.P₀ }
 have mem:∀b,b∈[C]++c.P↔b∈c'.P:=fun b=>by
  show b∈[C]++(c.own++c.P₀)↔b∈c.own++C::c.P₀;simp only[List.mem_append,List.mem_cons,List.mem_singleton,wE,or_false]
  constructor
  ·rintro (h | h | h)<;>simp[h]
  ·rintro (h | h | h)<;>simp[h]
 have hs1:∀b∈c.P,b∈c'.P:=fun b hb=>(mem b).mp (List.mem_append_right _ hb);have hCm:C∈c'.P:=(mem C).mp (.head _)
 have O':c'.OkF n:=by
  refine⟨⟨⟨O.handled,O.depth,O.units,?_,O.kind,O.globals,O.builtins,O.frame,O.locals,fun x b e=>hs1 b (O.cells x b e),fun b hb q=>?_⟩,O.cellsNe⟩,O.ownCells,O.cellsInj,O.cellsAll⟩
  ·refine xH (O.frames) fun fenv outer h1 h2 h3=>?_;refine zV fenv outer h1 h2 (fun e he=>?_);refine xn (h3 e he) fun k n1z=>?_;refine zn (n1z) fun L h4 h5=>?_;try clear n1z;exact⟨k,L,h4,hs1 L h5⟩
  ·rcases List.mem_cons.mp q with q | q
   ·exact hCP (q▸List.mem_append_left _ hb)
   ·exact O.apart b hb q
 have g₁:Go c'.P [] s.heap φ s'.heap φ':=(g'.less (ex':=[]) fun b hb=>.inr (by rw[List.mem_singleton.mp hb];exact hn)).perm mem
 have F':FR B nm nN s'.heap φ' c' ρ:=by
  have F0:FR B nm nN s.heap φ c' ρ:=by
   refine zn (F.ns) fun m hm hv=>?_
   have up:∀{a v},VR B s.heap φ c.P a v->VR B s.heap φ c'.P a v:=fun {a v} r =>
    (r.wider (X:=[C]) fun b hb=>by rw[List.mem_singleton.mp hb];exact hn).sub (C:=C) (fun b hb=>(mem b).mpr hb) (.head _)
   refine⟨(zw m hm (fun j a e=>⟨(hv j a e).1,?_⟩)),F.cellObj,F.fo⟩;have z:=(hv j a e).2
   cases hk:c.env.kindOf (nm j)with
   | none=>rw[hk]at z;exact z
   | some k =>
    rw[hk]at z
    cases k<;>first
     | exact z
     | (obtain⟨v,hm,r⟩:=z;exact⟨v,hm,up r⟩)
     | (obtain⟨b,o,v,hb,ho,hd,r⟩:=z;exact(yD b o v hb ho hd (up r)))
  exact F0.go O'.toOk g₁
 have S₁:SR B s' φ' c'.P st':=S'.sub (C:=C) (fun b hb=>(mem b).mpr hb) (.head _);have ra1:VR B s'.heap φ' c'.P (.ref k) acc:=ra.sub (C:=C) (fun b hb=>(mem b).mpr hb) (.head _);refine wpAny_assign_Name (wV hinj O'.toOkL S₁ F' hi (hst.can O' hs) ra1 fun h₂ t S₂ g₂ F₂=>?_)
 have hnsC:∃m,h₂.Ns C m:=by
  refine Uh (hns) fun o es ep ho r=>?_;try clear hns;have:=(g₂.prot C o ho hCm (fun q=>hCP (List.mem_append_left _ q)));refine zX (this) fun sl e=>?_;try clear this;exact P5 m _ es ep e r
 refine zX (hnsC) fun m₂ hm2=>?_;try clear hnsC;refine zw m₂ hm2 (fun h₃ hsb=>?_);have hh:∀b,b≠C->h₃.get? b=h₂.get? b:=fun b hb=>hsb.2 b hb;have g₃:Go c'.P c.own s.heap φ h₂ φ':=g₁.weak.trans g₂;refine yD φ' st' _ (S₂.drop (t:=t) hs1 hCm hCP hh) (g₃.drop hs1 (fun b hb=>by simpa using(mem b).mpr hb) hn hh) (FR.drop O.toOk F₂ rfl rfl hs1 hCm hCP hh) hU
end
section
variable {B:Base} {nm:Nat->Str} {nN n:Nat} {sc:Scope} {ρ:Rho} {Q X:AV->St->Prop} {st:St}
theorem qC {kindOf:Str->Option NameKind} {x:Str}:∀{l:List (Str×Value)} {m:Str->Option Value},(∀p∈l,p.1≠x)->bindL kindOf l m x=m x
 | [],m,_=>rfl
 | (y,v)::r,m,h=>by
  unfold bindL;rw[qC fun p hp=>h p (.tail _ hp)]
  split
  ·exact if_neg (Ne.symm (h (y,v) (.head _)))
  ·rfl
theorem qF {kindOf:Str->Option NameKind} {x:Str}:∀{l:List (Str×Value)} {m:Str->Option Value},(∀p∈l,p.1≠x)->bindC kindOf l m x=m x
 | [],m,_=>rfl
 | (y,v)::r,m,h=>by
  unfold bindC;rw[qF fun p hp=>h p (.tail _ hp)]
  split
  ·rfl
  ·exact if_neg (Ne.symm (h (y,v) (.head _)))
theorem XH (nm:Nat->Str) (kindOf:Str->Option NameKind):∀{is:List Nat} {vs:List Value} {k i:Nat} {v:Value} (m cm:Str->Option Value),is.Nodup->(∀i∈is,∀j∈is,nm i=nm j->i=j)->is[k]?=some i->vs[k]?=some v ->
  (kindOf (nm i)=some .local->bindL kindOf ((is.map nm).zip vs) m (nm i)=some v)/\(kindOf (nm i)≠some .local->bindC kindOf ((is.map nm).zip vs) cm (nm i)=some v)
 | [],_,_,_,_,_,_,_,_,e,_=>by exact nomatch e
 | _::_,[],_,_,_,_,_,_,_,_,e=>by exact nomatch e
 | j::is,u::vs,0,i,v,m,cm,hnd,hinj,e1,e2=>by
  cases e1;cases e2;rw[List.nodup_cons]at hnd
  have other:∀p∈(is.map nm).zip vs,p.1≠nm j:=fun p hp q=>by
   obtain⟨x,hx,hx'⟩:=List.mem_map.mp (List.of_mem_zip hp).1;exact hnd.1 (hinj x (.tail _ hx) j (.head _) (hx'.trans q)▸hx)
  constructor
  ·intro hk;show bindL kindOf ((nm j,u)::(is.map nm).zip vs) m (nm j)=some u;unfold bindL;rw[qC other,if_pos hk];exact if_pos rfl
  ·intro hk;show bindC kindOf ((nm j,u)::(is.map nm).zip vs) cm (nm j)=some u;unfold bindC;rw[qF other,if_neg hk];exact if_pos rfl
 | j::is,u::vs,k+1,i,v,m,cm,hnd,hinj,e1,e2=>by
  rw[List.nodup_cons]at hnd;exact XH nm kindOf (is:=is) (vs:=vs) (k:=k) _ _ hnd.2 (fun a ha b hb=>hinj a (.tail _ ha) b (.tail _ hb)) e1 e2
theorem WJ {f:Addr} {fd:FuncData} {body:List Stmt} {is:List Nat} {as:List AV} (hf:XR B f fd body) (hlim:B.H₀.NoLimit)
  (hinj:u3 nm nN) (hi:∀i∈is,i<nN) (hnd:is.Nodup) (hl:is.length=as.length)
  (hb:∀vs:List Value,vs.length=is.length->bindArgs fd ⟨vs,[]⟩=pure ((is.map nm).zip vs)) (hloc:∀i∈is,fd.scope.names.lookup (nm i)=some .local\/fd.scope.names.lookup (nm i)=some .cell)
  (hsome:∀(k:Nat) x,fd.scope.names.lookup x=some .cell->((cellsFrom k fd.scope.names []).lookup x).isSome=true)
  (h:WSs B nm nN n fd.scope body (Rho.of is as) (fun fl ρ st'=>match fl with | .ret a=>Q a st' | .next=>Q .none st' | .cont=>False) (fun t ρ st'=>X t st') st):Spec B (n+1) (.ref f) as st Q X:=by
 revert B nm nN n Q X st f fd body is as hf hlim hinj hi hnd hl hb hloc hsome h
 intros B nm nN n Q X st f fd body is as hf hlim hinj hi hnd hl hb hloc hsome h;intros A P s φ vs fr a1 a2 a3 a4 a5 S ras;obtain⟨o,ho,hd⟩:_:=hf.at_
 have hvl:vs.length=is.length:=by rw[ras.length,hl]
 have hbinds:∀x∈(is.map nm).zip vs,fd.scope.names.lookup x.1=some .local\/(fd.scope.names.lookup x.1=some .cell/\((cellsFrom (s.heap.objs.size+1) fd.scope.names []).lookup x.1).isSome=true):=by
  intros x hx;obtain⟨i,hi',e⟩:_:=List.mem_map.mp (List.of_mem_zip hx).1;rw[<-e]
  rcases hloc i hi' with h | h
  ·exact .inl h
  ·exact .inr ⟨h,hsome _ _ h⟩
 refine codeAny_call_cells (binds:=(is.map nm).zip vs) (by unfold recursionLimit;exact F1 a2) (S.base _ _ ho) hd (hlim.keeps S.base) (hf.code.keeps S.base) hf.body (hb vs hvl) hf.closure hbinds (?_) hf.co hf.gen hf.kind;intros s₁ hin;generalize henv:callEnvC fd s.heap.objs.size f=env at hin ⊢
 have eloc:env.locals=s.heap.objs.size:=by rw[<-henv];rfl
 have ecells:env.cells=cellsFrom (s.heap.objs.size+1) fd.scope.names []:=by rw[<-henv];rfl
 have escope:env.scope=fd.scope:=by rw[<-henv];rfl
 have eframe:env.frame=some s.heap.objs.size:=by rw[<-henv];rfl
 obtain⟨h₁,tk,es1⟩:_:=hin.toInCall.same
 have hk:∀b o,s.heap.get? b=some o->h₁.get? b=some o:=fun b o e=>by have:=hin.toInCall.keep b o e;rw[es1]at this;exact this
 have hns:h₁.Ns env.locals (bindL env.kindOf ((is.map nm).zip vs) fun z=>none):=by have:=hin.toInCall.ns;rw[es1]at this;exact this
 have hcell:∀x b,env.cells.lookup x=some b->h₁.IsCell b (bindC env.kindOf ((is.map nm).zip vs) (fun z=>none) x):=fun x b e=>by have:=hin.cell x b e;rw[es1]at this;exact this
 have habove:∀x b,(x,b)∈env.cells->s.heap.objs.size<b:=fun x b e=>by have:=hin.above x b e;rw[eloc]at this;exact this
 subst es1
 let XX:List Addr:=s.heap.objs.size::env.cells.filterMap fun p=>env.cells.lookup p.1
 have ge_none:∀b,s.heap.objs.size<=b->s.heap.get? b=none:=fun b hb=>by
  cases q:s.heap.get? b with
  | none=>rfl
  | some o=>exact absurd (Heap.lt_size q) (Nat.not_lt.mpr hb)
 have hX:∀b∈XX,s.heap.get? b=none:=fun b hb=>by
  rcases List.mem_cons.mp hb with rfl | hb
  ·exact ge_none _ (wC)
  ·refine zn (List.mem_filterMap.mp hb) fun p hp hpb=>?_;exact ge_none _ (Nat.le_of_lt (habove p.1 b (mem_of_lookup hpb)))
 obtain⟨oL,esL,epL,eoL,edL,_⟩:_:=id hns;rw[eloc]at eoL
 let c:Cx:=⟨A.deeper env,env,s.heap.objs.size,XX,P⟩
 have memC:∀x b,env.cells.lookup x=some b->b∈XX:=fun x b e=>List.mem_cons_of_mem _ (List.mem_filterMap.mpr (zw (x,b) (mem_of_lookup e) e))
 have O:c.OkF n:=by
  refine⟨⟨⟨a1,?_,?_,(zV env fr (Around.frames_deeper a4) eframe (fun e he=>?_)),by show env.scope.kind=_;rw[escope];exact hf.kind,?_,?_,eframe,by show env.locals∈XX;rw[eloc];exact .head _,fun x b e=>List.mem_append_left _ (memC x b e),fun b hb hp=>?_⟩,fun x b e=>?_⟩,memC,fun x y b e e'=>?_,fun x e=>?_⟩
  ·show A.depth+1+4*n<=900;exact F1 a2
  ·show A.units+3+100*n+100<=cLine;exact F1 a3
  ·rcases List.mem_cons.mp he with rfl | he
   ·exact⟨(by rw[escope,hf.kind];intro q;exact nomatch q),s.heap.objs.size,eframe,List.mem_append_left _ (.head _)⟩
   ·refine xn (a5 e he) fun k n3z=>?_;refine yY (n3z) fun L k1 k2 z=>?_;try clear n3z;exact⟨k,L,k1,List.mem_append_right _ k2⟩
  ·show env.globals=_;rw[<-henv];exact hf.globals
  ·show env.builtins=_;rw[<-henv];exact hf.builtins
  ·refine zX (S.domP _ hp) fun o' e'=>?_;rw[hX b hb]at e';cases e'
  ·skip
   rw[eloc];exact Nat.ne_of_gt (habove x b (mem_of_lookup e))
  ·exact name_of_addr hin.apart (mem_of_lookup e) (mem_of_lookup e')
  ·skip
   rw[ecells];have e:env.kindOf x=some .cell:=e;unfold Env.kindOf at e;rw[escope]at e;exact hsome _ x e
 have S₁:SR B { s with heap:=h₁,toks:=tk } φ c.P st:=S.wider hk hX (fun b hb=>by
  rcases List.mem_cons.mp hb with rfl | hb
  ·exact⟨oL,eoL⟩
  ·refine zn (List.mem_filterMap.mp hb) fun p hp hpb=>?_;refine zn (hcell p.1 b hpb) fun o ho z=>?_
   exact⟨o,ho⟩)
 have g₀:Go P [] s.heap φ h₁ φ:=Go.of_keep hk;have ras1:VRs B h₁ φ c.P as vs:=(ras.wider hX).go (Go.of_keep (ex:=[]) hk)
 have F₁:FR B nm nN h₁ φ c (Rho.of is as):=by
  refine⟨(zw _ hns (fun i a e=>?_)),fun x b e=>?_,fun fr' hf' e he L hL'=>?_⟩
  ·refine yY (Rho.of_get (is:=is) (as:=as) e) fun k h1 h2 z=>?_;have hm:=List.mem_of_getElem? h1;refine⟨hi i hm,?_⟩;refine zn (ras1.at h2) fun v hv rv=>?_;refine xn (XH nm env.kindOf (fun z=>none) (fun z=>none) hnd (fun a ha b hb q=>hinj a b (hi a ha) (hi b hb) q) h1 hv) fun hL1 hC1=>?_
   have hko:c.env.kindOf (nm i)=fd.scope.names.lookup (nm i):=by show env.kindOf _=_;unfold Env.kindOf;rw[escope]
   rcases hloc i hm with hk' | hk'
   ·rw[hko,hk'];exact zw v (hL1 (hko.trans hk')) rv
   ·rw[hko,hk'];refine zX (Option.isSome_iff_exists.mp (O.cellsAll (nm i) (hko.trans hk'))) fun b hb=>?_;refine zn (hcell (nm i) b hb) fun ob hob hdb=>?_;have:=hC1 (by have:=hko.trans hk';intro q;rw[show env.kindOf (nm i)=some .cell from this]at q;cases q);rw[this]at hdb;exact yD b ob v hb hob hdb rv
  ·refine zn (hcell x b e) fun o ho hd=>?_;exact wm o _ ho hd
  ·have e':some (env::fr)=some fr':=by rw[<-hf'];exact(Around.frames_deeper a4).symm
   cases e'
   rcases List.mem_cons.mp he with rfl | he
   ·rw[eframe]at hL';cases hL';exact zw oL eoL (fun ws q=>by rw[edL]at q;cases q)
   ·refine xn (a5 e he) fun z n4z=>?_;refine yY (n4z) fun L'' k1 k2 n7z=>?_;try clear n4z;refine zn (n7z) fun o' k3 k4=>?_;try clear n7z;rw[hL']at k1;cases k1;exact zw o' (hk _ _ k3) k4
 have narrow:∀{h':Heap} {φ':List Addr},Go c.P c.own h₁ φ h' φ'->Go P [] s.heap φ h' φ':=fun g=>Go.narrower (X:=XX) g hk hX (fun z q=>q);refine wpAny_mono (h.run c _ φ O escope S₁ F₁) ?_ ?_
 ·intro fl s' p1z;refine X9 (p1z) fun φ' st' r' S' g' F' hR=>?_;try clear p1z;have mk:∀{a:AV} {v:Value},VR B s'.heap φ' c.P a v->Q a st'->Po B P s.heap φ (Val B P Q) v s':=fun ra hq=>(zV φ' st' S'.narrower (narrow g') ⟨_,ra.narrower,hq⟩)
  cases fl with
  | next=>exact mk (a:=.none) (rfl) hR
  | cont=>exact hR.elim
  | brk=>exact hR.elim
  | ret v=>obtain⟨a,ra,hq⟩:=hR;exact mk ra hq
 ·intro x s' p2z;refine R_ (p2z) fun φ' st' r' told S' g' F' ein hX'=>?_;try clear p2z
  have hH':∀b,h₁.get? b=none->B.H₀.get? b=none:=fun b hb=>by
   cases q:B.H₀.get? b with
   | none=>rfl
   | some o'=>have:=hk b o' (S.base b o' q);rw[hb]at this;cases this
  refine Zv O.toOk S' F' ein hH' g'.dom fun h₂ SS t hn e2=>?_;have S₂:SR B { s' with heap:=h₂,toks:=s'.toks } φ' c.P st':=S'.turnX t fun b hb=>hH' b (hn b hb);have e3:x_ B s.heap h₂ φ' P x told (some .none):=e2.nar (X:=c.own) fun b o q=>⟨o,hk b o q⟩;exact yD φ' st' told S₂.narrower (narrow (g'.turnX t hn)) e3 hX'
end
section
open PySem.Sem (wp)
noncomputable abbrev yk (T:Addr):List Value:=[.ref T,.type "Exception",.type "BaseException",.type "object"]
section
variable {M:Model} {A:Around} {E:Value->Shared->Prop} {h:Heap} {g:Array GenState} {d:Drawn} {t:Nat} {os:OsState}
variable {nm q:Str} {C N T:Addr} {bs:List Value} {hdct:Bool} {sn:List Str} {sub:List Value} {ab:Bool} {col:Option Bool} {dd:Option Addr} {k0 k1 k2 k3 k5:Option Value}
theorem kW {rest:List Value} {Q:Unit->Shared->Prop} (hC:h.get? C=some (excClassObj nm q C N bs (yk T) hdct sn sub ab col dd k0 k1 k2 k3 k5 "Exception.__new__"))
  (hq:Q () ⟨h,g,d,t,os⟩):wpAny M A (checkBuiltinCall "Exception.__new__" ⟨.ref C::rest,[]⟩) Q E ⟨h,g,d,t,os⟩:=by
 have Fn:=F.excBase_Exception
 have hcont:(Value.ref C::yk T).contains (.type "Exception")=true:=by rw[List.contains_cons];rfl
 have hstar:=Fn.noStar;simp only[checkBuiltinCall,Fn.newKind,Fn.newSplit,Fn.newRow]
 repeat (first | refine wpAny_loadPart_at hC ?_ | (refine wpAny_isSubtype_exc hC ?_;rw[hcont]) | refine wpAny_staticBase_exc hC ?_ | refine wpAny_madeBy_exc hC ?_ | simp only[bne_self_eq_false,Bool.false_eq_true,if_false] | wp_step)
 exact hq
end
section
variable {prog:Program} {w:World} {A:Around} {R:Result->Shared->Prop} {h:Heap} {g:Array GenState} {d:Drawn} {t:Nat} {os:OsState}
variable {nm q:Str} {C N T:Addr} {bs:List Value} {hdct:Bool} {sn:List Str} {sub:List Value} {ab:Bool} {col:Option Bool} {dd:Option Addr} {k0 k1 k2 k3 k5:Option Value}
theorem SJ {rest:List Value} (hC:h.get? C=some (excClassObj nm q C N bs (yk T) hdct sn sub ab col dd k0 k1 k2 k3 k5 "Exception.__new__"))
  (hq:R (.ok (.ret (.ref (h.objs.size+1)))) ⟨(h.push { cls:=.type "tuple",data:=.seq rest.toArray }).push
   { cls:=.ref C,data:=.fields #[.ref h.objs.size,.none,.none,.none,.bool false,.none] },g,d,t,os⟩) (hrest:rest.length<=sizeLine:=by size_fits) :
  codeAny (model prog w) A (.builtin "Exception.__new__" ⟨.ref C::rest,[]⟩) R ⟨h,g,d,t,os⟩:=by
 have Fn:=F.excBase_Exception;have hends:=Fn.ends
 have hcB:(Value.ref C::yk T).contains (.type "Exception")=true:=by rw[List.contains_cons];rfl
 have hcA:(Value.ref C::yk T).contains (.type "AttributeError")=false:=by rw[List.contains_cons];rfl
 have hcN:(Value.ref C::yk T).contains (.type "NameError")=false:=by rw[List.contains_cons];rfl
 refine codeAny_builtinAt Fn.entry ?_;unfold Builtin.«BaseException.__new__»;refine PySem.wpAt_bind ?_;show PySem.wpAt _ _ _ (stack >>= _) _ _ _;refine PySem.wpAt_bind (PySem.wpAt_stack fun p below=>PySem.wpAt_of_wpAny ?_)
 wp_walk
 refine PySem.wpAt_of_wpAny ?_;rw[Fn.owner]
 repeat (first | with_reducible refine wpAny_madeHere_exc Fn.canon hC ?_ | with_reducible refine wpAny_loadPart_at hC ?_ | (with_reducible refine wpAny_isSubtype_exc hC ?_;first | rw[hcB] | rw[hcA] | rw[hcN]) | wp_step)
 show R _ _;rw[Heap.size_push];exact hq
end
section
variable {prog:Program} {w:World} {A:Around} {E:Value->Shared->Prop} {h:Heap} {g:Array GenState} {d:Drawn} {t:Nat} {os:OsState}
variable {nm q:Str} {C N T:Addr} {bs:List Value} {hdct:Bool} {sn:List Str} {sub:List Value} {ab:Bool} {col:Option Bool} {dd:Option Addr} {k0 k1 k2 k3 k5:Option Value}
theorem kX {K:Frag} {rest:List Value} {fI:Addr} {Q:Fin->Shared->Prop} (X:K.In h) (hi:findIn K (.ref C) "__init__"=some (some (.ref fI))) (hf:typeIn K (.ref fI)=some (.type "function"))
  (hC:h.get? C=some (excClassObj nm q C N bs (yk T) hdct sn sub ab col dd k0 k1 k2 k3 k5 "Exception.__new__"))
  (hq:∀h' e,Heap.MadeExcOf h h' e (.ref C) rest ->
   wpAny (model prog w) A (call (.ref fI) (.ref e::rest)) (fun r s'=>r = .none/\Q (.done (.ret (.ref e))) s') E ⟨h',g,d,t,os⟩) (hrest:rest.length<=sizeLine:=by size_fits) :
  wpAny (model prog w) A (Builtin.«type.__call__» ⟨.ref C::rest,[]⟩) Q E ⟨h,g,d,t,os⟩:=by
 have Fn:=F.excBase_Exception
 repeat (first | with_reducible refine wpAny_loadPart_at hC ?_ | with_reducible refine wpAny_madeBy_exc hC ?_ | wp_step)
 refine codeAny_call_builtin_code (Code.quiet_builtin _ Fn.quiet) (kW hC ?_);refine SJ hC ?_ hrest
 have k:∀b o,h.get? b=some o->((h.push { cls:=.type "tuple",data:=.seq rest.toArray }).push { cls:=.ref C,data:=.fields #[.ref h.objs.size,.none,.none,.none,.bool false,.none] }).get? b=some o :=
  fun b o e=>Heap.get?_push_of_some _ (Heap.get?_push_of_some _ e)
 have hC₁:=k _ _ hC
 have hget:((h.push { cls:=.type "tuple",data:=.seq rest.toArray }).push
   { cls:=.ref C,data:=.fields #[.ref h.objs.size,.none,.none,.none,.bool false,.none] }).get? (h.objs.size+1)=some
   { cls:=.ref C,data:=.fields #[.ref h.objs.size,.none,.none,.none,.bool false,.none] }:=by heap_get
 have hcC:(Value.ref C::yk T).contains (.ref C)=true:=by simp
 have L1:=(looks_findIn (M:=model prog w) X hi).keeps k;have L2:=(bind_fn (M:=model prog w) X (.ref (h.objs.size+1)) hf).keeps k
 repeat (first | with_reducible refine wpAny_loadPart_at hget ?_ | (with_reducible refine wpAny_isSubtype_exc hC₁ ?_;rw[hcC]) | wp_step)
 refine L1.here ?_;refine wpAny_holding (wpAny_bind (L2.here ?_));refine wpAny_bind (wpAny_mono (hq _ (h.objs.size+1) ⟨k,Heap.get?_none_of_le (Nat.le_succ _),h.objs.size,hget,Heap.get?_none_of_le (wC),?_⟩) (fun r s' hr=>?_) fun z z x=>x)
 ·exact Heap.get?_push_of_some _ (Heap.get?_push_at rfl rfl)
 ·obtain⟨rfl,hQ⟩:=hr
  wp_walk
  exact hQ
theorem Tq {K:Frag} {rest:List Value} {fI:Addr} {Q:Value->Shared->Prop} (X:K.In h) (hi:findIn K (.ref C) "__init__"=some (some (.ref fI))) (hf:typeIn K (.ref fI)=some (.type "function"))
  (hC:h.get? C=some (excClassObj nm q C N bs (yk T) hdct sn sub ab col dd k0 k1 k2 k3 k5 "Exception.__new__"))
  (hq:∀h' e,Heap.MadeExcOf h h' e (.ref C) rest ->
   wpAny (model prog w) (A.under (.builtin "type.__call__" ⟨.ref C::rest,[]⟩)) (call (.ref fI) (.ref e::rest)) (fun r s'=>r = .none/\Q (.ref e) s') E ⟨h',g,d,t,os⟩) (hrest:rest.length<=sizeLine:=by size_fits) :
  wpAny (model prog w) A (call (.ref C) rest) Q E ⟨h,g,d,t,os⟩:=by
 have f1:=tc_lookup;have f2:=tc_bind (.ref C);have hT:(⟨h,g,d,t,os⟩:Shared).TypeIs (.ref C) "type":=⟨_,hC,rfl⟩;refine wpAny_call (codeAny_of_tree ?_);show wpAny _ _ (callAny (.ref C) _) _ _ _
 repeat (any_goals (first | assumption | with_reducible refine wpAny_loadPart_at hC ?_ | wp_step))
 refine⟨rfl,?_⟩;refine codeAny_call_builtin_at (Code.quiet_builtin _ (by decide +kernel)) entry_typeCall (wpAny_check_type_call_sub hC (kX (hrest:=hrest) X hi hf hC fun h' e hm=>?_));exact hq h' e hm
end
end
section
variable {prog:Program} {w:World} {A:Around} {E:Value->Shared->Prop} {h:Heap} {g:Array GenState} {d:Drawn} {t:Nat} {os:OsState}
variable {nm q:Str} {C N T x:Addr} {bs:List Value} {sn:List Str} {sub:List Value} {ab:Bool} {col:Option Bool} {dd:Option Addr} {k0 k1 k2 k3 k5:Option Value} {name:Str} {v:Value}
theorem ZB {M:Model} {o:Obj} {nameV:Value} {Q:Unit->Shared->Prop}
  (hC:h.get? C=some (excClassObj nm q C N bs (yk T) true sn sub ab col dd k0 k1 k2 k3 k5 "Exception.__new__")) (hx:h.get? x=some o) (hc:o.cls = .ref C) (hq:Q () ⟨h,g,d,t,os⟩) :
  wpAny M A (checkBuiltinCall "object.__setattr__" ⟨[.ref x,nameV,v],[]⟩) Q E ⟨h,g,d,t,os⟩:=by
 have SF:=F.store_Exception
 have hcB:(Value.ref C::yk T).contains (.type "object")=true:=by rw[List.contains_cons];rfl
 have ha:=SF.args (.ref x) nameV v;simp only[checkBuiltinCall,SF.kind,SF.split];refine wpAny_bind ?_
 ·unfold isInstance
  repeat (first | (with_reducible refine wpAny_loadPart_at hx ?_;rw[hc]) | (with_reducible refine wpAny_isSubtype_exc hC ?_;rw[hcB]) | wp_step)
  exact hq
theorem qO {K:Frag} {tk:Tok} {o:Obj} {Q:Fin->Shared->Prop} (X:K.In h) (ha:findIn K (.ref C) name=some none)
  (hC:h.get? C=some (excClassObj nm q C N bs (yk T) true sn sub ab col dd k0 k1 k2 k3 k5 "Exception.__new__")) (hx:h.get? x=some o) (hc:o.cls = .ref C) (hnc:∀c,o.data ≠ .cls c) (hdn:o.dict=none)
  (hq:∀h' tk',h'.Ns1 h.objs.size (fun y=>if y=name then some v else none)->h'.get? x=some { o with dict:=some h.objs.size } ->
   (∀b ob,b≠x->h.get? b=some ob->h'.get? b=some ob)->Q (.done (.ret .none)) ⟨h',g,d,tk',os⟩) :
  wpAny (model prog w) A (Builtin.«object.__setattr__» ⟨[.ref x,.str name tk,v],[]⟩) Q E ⟨h,g,d,t,os⟩:=by
 have SF:=F.store_Exception;have hpass:=SF.passes (.ref x);have L:=looks_findIn (M:=model prog w) X ha
 repeat (first | rw[refuse_eq] | (rw[refuseLoop_ref,refuseLoop_ref,hpass]) | (with_reducible refine wpAny_loadPart_at hx ?_;rw[hc]) | with_reducible refine wpAny_mroOf_exc hC ?_ | with_reducible refine L.at ?_ | wp_step)
 rw[hdn,if_neg (nofun)]
 split
 ·rename_i hcd;cases hcd
 split
 ·rename_i c hcd;exact absurd hcd (hnc c)
 ·have hx1:(h.push { cls:=.type "dict",data:=.dict #[] }).get? x=some o:=Heap.get?_push_of_some _ hx;have hxs:x≠h.objs.size:=Nat.ne_of_lt (Heap.lt_size hx);refine wpAny_bind (wpAny_alloc' ?_);refine wpAny_bind (wpAny_update' hx1 ?_);refine wpAny_pure ?_
  have hgd:((h.push { cls:=.type "dict",data:=.dict #[] }).update x fun o=>{ cls:=o.cls,dict:=some h.objs.size,data:=o.data,slots:=o.slots }).get? h.objs.size
    = some { cls:=.type "dict",data:=.dict #[] } :=
   (Heap.get?_update_ne _ _ _ _ hxs.symm).trans (Heap.get?_push_at rfl rfl)
  have hnd:((h.push { cls:=.type "dict",data:=.dict #[] }).update x fun o=>{ cls:=o.cls,dict:=some h.objs.size,data:=o.data,slots:=o.slots }).Ns h.objs.size (fun z=>none) :=
   ⟨_,#[],_,hgd,rfl,fun e he=>absurd he (nofun),fun z=>rfl⟩
  refine wpAny_bind (wpAny_pure (wpAny_bind (wpAny_nsSet1 (Heap.Ns1.of_empty hnd) fun h' hn' hs=>?_)));refine RI (hn'.count (Within.cons name v Within.nil)) fun oD esD epD hoD hdD hcD=>?_;refine wpAny_bind (wpAny_lookBehind hoD (by rw[hdD];exact pastItsLine_dict (Nat.le_trans hcD (by rw[List.length_cons,List.length_nil,sizeLine_eq];exact wB))) ?_)
  wp_walk
  refine hq h' _ hn' ?_ (fun b ob hbx hb=>?_)
  ·refine(hs.2 x hxs).trans (Heap.get?_update_self _ hx1 ?_);have hfr:=(Heap.get?_some_iff.mp hx).2;obtain⟨oc,od,odt,osl⟩:=o
   cases odt<;>first | rfl | exact hfr
  ·exact(hs.2 b (Nat.ne_of_lt (Heap.lt_size hb))).trans ((Heap.get?_update_ne _ _ _ _ hbx).trans (Heap.get?_push_of_some _ hb))
theorem UE {K:Frag} {o:Obj} {Q:Unit->Shared->Prop} (X:K.In h) (ha:findIn K (.ref C) name=some none) (hs:findIn K (.ref C) "__setattr__"=some (some (.builtin "object.__setattr__")))
  (hC:h.get? C=some (excClassObj nm q C N bs (yk T) true sn sub ab col dd k0 k1 k2 k3 k5 "Exception.__new__")) (hx:h.get? x=some o) (hc:o.cls = .ref C) (hnc:∀c,o.data ≠ .cls c) (hdn:o.dict=none)
  (hq:∀h' tk',h'.Ns1 h.objs.size (fun y=>if y=name then some v else none)->h'.get? x=some { o with dict:=some h.objs.size } ->
   (∀b ob,b≠x->h.get? b=some ob->h'.get? b=some ob)->Q () ⟨h',g,d,tk',os⟩) :
  wpAny (model prog w) A (setAttr (.ref x) name v) Q E ⟨h,g,d,t,os⟩:=by
 have SF:=F.store_Exception;have f3:=SF.slot.bind (.ref x);have L:=looks_findIn (M:=model prog w) X hs
 repeat (any_goals (first | assumption | (with_reducible refine wpAny_loadPart_at hx ?_;rw[hc]) | with_reducible refine L.at ?_ | wp_step))
 refine codeAny_call_builtin SF.slot.plain SF.entry (ZB hC hx hc (qO X ha hC hx hc hnc hdn fun h' tk' hn hx' hk=>?_))
 repeat (any_goals (first | assumption | wp_step))
 exact hq h' tk' hn hx' hk
end
theorem Zr {o:Obj} {es:Array DictEntry} {ep:Nat} {x:Str} {v:Value} (hd:o.data = .dict es ep) (h:nsFind es x=some v):lookIn x o=some (some v):=by
 revert o es ep x v hd h
 intros o es ep x v hd h;unfold lookIn;rw[hd];dsimp only
 have h':(es.toList.find? (fun y=>y.key.isStr x)).map (fun x=>x.val)=some v:=by
  rw[<-h];show _=(es.find? fun e=>e.key.isStr x).map (fun x=>x.val)
  congr 1
  exact(Array.find?_toList ..)
 rcases tF (es.toList.find? (fun y=>y.key.isStr x))with q | w1_
 ·try rewrite[q]
  rw[q]at h';cases h'
 ·obtain⟨e,q⟩:_:=w1_
  try rewrite[q]
  rw[q]at h';cases h';rfl
structure qx (B:Base):Prop where
 inK:B.K.In B.H₀
 obj:∃nm q N T bs sn sub ab col dd k0 k1 k2 k3 k5,B.H₀.get? B.cBad=some (excClassObj nm q B.cBad N bs (yk T) true sn sub ab col dd k0 k1 k2 k3 k5 "Exception.__new__")
 init:∃fI fd pv p1 p2 p3,findIn B.K (.ref B.cBad) "__init__"=some (some (.ref fI))/\typeIn B.K (.ref fI)=some (.type "function") /\
  XR B fI fd [.Assign [.Attribute (.Name "self" p1) "told" p2] (.Name "told" p3) pv] /\
  (∀s:Shared,(∀b o,B.H₀.get? b=some o->s.heap.get? b=some o)->∀a b:Value,BindsTo s fd ⟨[a,b],[]⟩ [(("self":Str),a),(("told":Str),b)])/\fd.scope.names=[(("self":Str),NameKind.local),(("told":Str),NameKind.local)]
 told:findIn B.K (.ref B.cBad) "told"=some none
 set:findIn B.K (.ref B.cBad) "__setattr__"=some (some (.builtin "object.__setattr__"))
 get:findIn B.K (.ref B.cBad) "__getattribute__"=some (some (.builtin "BaseException.__getattribute__"))
 hook:findIn B.K (.ref B.cBad) "__getattr__"=some none
section
variable {B:Base} {A:Around} {s:Shared}
theorem j7 (A:Around) (C:Addr) (vs:List Value):(A.under (.builtin "type.__call__" ⟨.ref C::vs,[]⟩)).depth<=A.depth+10:=by
 show A.depth+Code.weight _<=_
 have:Code.weight (.builtin "type.__call__" ⟨.ref C::vs,[]⟩)=1:=by kernel_rfl
 exact F1 (Le this)
theorem Sd (hB:BOk B) (K:qx B) (hb:∀b o,B.H₀.get? b=some o->s.heap.get? b=some o) {v:Value} {Q:Value->Shared->Prop} {E:Value->Shared->Prop} (hd:A.depth+20<=1000)
  (h:∀e d h' tk t0 sl,(∀b o,s.heap.get? b=some o->h'.get? b=some o)->s.heap.get? e=none->s.heap.get? d=none->e≠d->h'.get? e=some { cls:=.ref B.cBad,dict:=some d,data:=.fields #[.ref t0,.none,.none,.none,.bool false,.none],slots:=sl } ->
   (∃od,h'.get? d=some od/\(∀ws,od.data ≠ .fields ws)/\lookIn "told" od=some (some v))->Q (.ref e) { s with heap:=h',toks:=tk }) :
  wpAny (model B.prog B.w) A (PySem.call (.ref B.cBad) [v]) Q E s:=by
 refine VW (K.obj) fun nm q N T bs sn sub n1z=>?_;refine VW (n1z) fun ab col dd k0 k1 k2 k3 n2z=>?_;try clear n1z;refine zX (n2z) fun k5 hC=>?_;try clear n2z;refine RP (K.init) fun fI fd pv p1 p2 p3 hi hf hfn hbind hnames=>?_;refine zn (hfn.at_) fun oI hoI hdI=>?_;have hCs:=hb _ _ hC;have X:=K.inK.keeps hb;obtain⟨hp,g,d,tk,os⟩:=s;refine Tq (rest:=[v]) X hi hf hCs (fun h1 e hm=>?_) (by show 1<=sizeLine;decide);refine yY (hm.there) fun t0 he y y=>?_;have k1':=hm.keeps;have hdep:=j7 A B.cBad [v]
 refine wpAny_call (codeAny_call_def (s:=⟨h1,g,d,tk,os⟩) (binds:=[(("self":Str),.ref e),(("told":Str),v)]) (by unfold recursionLimit;exact F2 hd hdep) (k1' _ _ (hb _ _ hoI)) hdI (hB.nolimit.keeps fun b o z=>k1' _ _ (hb _ _ z)) (hfn.code.keeps fun b o z=>k1' _ _ (hb _ _ z)) hfn.body
  (hbind _ (fun b o z=>k1' _ _ (hb _ _ z)) _ _) (by rw[hnames];intro x hx;simp at hx;rcases hx with rfl | rfl<;>(intro q;cases q)) (by rw[hnames];intro x hx;simp at hx;rcases hx with rfl | rfl<;>rfl) (fun h₂ hns hk2=>?_) hfn.co hfn.gen hfn.kind)
 generalize henv:callEnv fd h1.objs.size fI=env
 have eloc:env.locals=h1.objs.size:=by rw[<-henv];rfl
 have escope:env.scope=fd.scope:=by rw[<-henv];rfl
 have kself:env.kindOf "self"=some .local:=by unfold Env.kindOf;rw[escope,hnames];rfl
 have ktold:env.kindOf "told"=some .local:=by unfold Env.kindOf;rw[escope,hnames];rfl
 have hkind:env.scope.kind = .function:=by rw[escope];exact hfn.kind
 have hns':h₂.Ns env.locals (fun x=>List.lookup x [(("self":Str),Value.ref e),(("told":Str),v)].reverse):=by rw[eloc];exact hns
 refine wpAny_execs_cons (plainObj_wpAny_Assign_Attribute ?_);refine wpAny_Name (wpAny_loadName_local hkind ktold hns' (v:=v) rfl ?_) (by decide);refine wpAny_Name (wpAny_loadName_local hkind kself hns' (v:=.ref e) rfl ?_) (by decide);have hb2:∀b o,hp.get? b=some o->h₂.get? b=some o:=fun b o z=>hk2 _ _ (k1' _ _ z);refine UE (X.keeps hb2) K.told K.set (hb2 _ _ hCs) (hk2 _ _ he) rfl (fun c q=>by cases q) rfl fun h₃ tk3 hn3 he₃ hk3=>?_;refine wpAny_execs_nil ?_
 have hne:∀{b o},hp.get? b=some o->b≠e:=fun z q=>by subst q;rw[hm.new]at z;cases z
 have hsz:hp.get? h₂.objs.size=none:=by
  cases q:hp.get? h₂.objs.size with
  | none=>rfl
  | some o=>exact absurd (Heap.lt_size (hb2 _ _ q)) (Nat.lt_irrefl _)
 refine Ty (hn3) fun od es ep ho hd3 y y hf3=>?_;try clear hn3;refine⟨rfl,h e h₂.objs.size h₃ tk3 t0 #[] (fun b o z=>hk3 b o (hne z) (hb2 _ _ z)) hm.new hsz (Nat.ne_of_lt (Heap.lt_size (hk2 _ _ he))) he₃ ⟨od,ho,(fun ws q=>by rw[hd3]at q;cases q),Zr hd3 ((hf3 "told").trans (if_pos rfl))⟩⟩
end
section
variable {M:Model} {A:Around} {E:Value->Shared->Prop} {env:Env}
variable {nm q:Str} {C N T:Addr} {bs:List Value} {sn:List Str} {sub:List Value} {ab:Bool} {col:Option Bool} {dd:Option Addr} {k0 k1 k2 k3 k5:Option Value}
theorem jP {s:Shared} {x:Sem Value} {Q:Flow->Shared->Prop} (hh:A.handled=none)
  (h:wpAny M A x (fun v s₁=>∃e t d sl,v = .ref e/\s₁.heap.get? C=some (excClassObj nm q C N bs (yk T) true sn sub ab col dd k0 k1 k2 k3 k5 "Exception.__new__") /\
   s₁.heap.get? e=some { cls:=.ref C,dict:=some d,data:=.fields #[.ref t,.none,.none,.none,.bool false,.none],slots:=sl }/\E (.ref e) s₁) E s) :
  wpAny M A (raiseStmt env (some x) none) Q E s:=by
 revert M A E env nm q C N T bs sn sub ab col dd k0 k1 k2 k3 k5 s x Q hh h
 intros M A E env nm q C N T bs sn sub ab col dd k0 k1 k2 k3 k5 s x Q hh h
 have hcB:(Value.ref C::yk T).contains (.type "BaseException")=true:=by rw[List.contains_cons];rfl
 refine wpAny_bind (wpAny_mono h (?_) fun z z x=>x);intros v s₁ h1;obtain⟨e,t,d,sl,rfl,hC,he,hE⟩:_:=h1;obtain⟨hp,g,dr,tk,os⟩:_:=s₁
 repeat (first | with_reducible refine wpAny_loadPart_at he ?_ | with_reducible refine wpAny_loadPart_at hC ?_ | (with_reducible refine wpAny_isSubtype_exc hC ?_;rw[hcB]) | wp_step)
 exact wpAny_raiseNew_none hh hE
end
section
variable {B:Base} {nm:Nat->Str} {nN n:Nat} {sc:Scope} {ρ:Rho} {R:Fl->Rho->St->Prop} {X:AV->Rho->St->Prop} {st:St}
theorem Td (hB:BOk B) (K:qx B) {x:Str} {np cpos pos:Pos} {e:Expr} (hk:sc.names.lookup x=some .globalImplicit) (hd:(x==("__debug__":Str))=false) (hg:xl B x (.ref B.cBad)) (hK:sM B (.ref B.cBad))
  (he:∀env,starEach [e] env=[(false,eval e env)]) (h:WE B nm nN n sc e ρ (fun a st'=>X a ρ st') (fun t st'=>X t ρ st') st):WS B nm nN n sc (.Raise (some (.Call (.Name x np) [e] [] cpos)) none pos) ρ R X st:=by
 revert B nm nN n sc ρ R X st hB K x np cpos pos e hk hd hg hK he h
 intros B nm nN n sc ρ R X st hB K x np cpos pos e hk hd hg hK he h;refine⟨?_⟩;intros c s φ O hs S F;obtain⟨cn,q,N,T,bs,sn,sub,ab,col,dd,k0,k1,k2,k3,k5,hC⟩:_:=id K.obj
 have key:wpAny (model B.prog B.w) c.A (eval (.Call (.Name x np) [e] [] cpos) c.env) (fun v s₁=>∃e t d sl,v = .ref e/\s₁.heap.get? B.cBad=some (excClassObj cn q B.cBad N bs (yk T) true sn sub ab col dd k0 k1 k2 k3 k5 "Exception.__new__") /\
   s₁.heap.get? e=some { cls:=.ref B.cBad,dict:=some d,data:=.fields #[.ref t,.none,.none,.none,.bool false,.none],slots:=sl }/\Exc B c.P s.heap φ c.L (fun t st'=>X t ρ st') (.ref e) s₁) (Exc B c.P s.heap φ c.L (fun t st'=>X t ρ st')) s:=by
  refine Zh O.toOk hs S F hk hd hg hK (fun env=>by rw[he];rfl) (QL:=fun as st'=>∃a,as=[a]/\X a ρ st') (zM he ?_) ?_
  ·refine⟨?_⟩;intros c s φ O hs S F;exact v9 (h.run c s φ O hs S F) (fun v h φ st zz=>zn zz fun a ra hx=>⟨a,ra,zA ⟨a,rfl,hx⟩⟩) fun z z y=>y
  ·intros vs as s₁ φ₁ st₁ S₁ g₁ ras p3_;obtain⟨a,rfl,hx⟩:_:=p3_;obtain⟨v,rfl,ra⟩:_:=yQ ras;have hdep:=O.depth;refine Sd hB K S₁.base (F1 hdep) ?_;intros e d h' tk t0 sl hk' hne hnd hed heo p2_;obtain⟨od,hod,hnf,hl⟩:_:=p2_;refine QU e t0 d sl rfl (hk' _ _ (S₁.base _ _ hC)) heo ?_;have g₂:Go c.P [] s₁.heap φ₁ h' φ₁:=Go.of_keep hk'
   have back:∀b,s₁.heap.get? b=none->s.heap.get? b=none:=by
    intros b hb
    rcases tF (s.heap.get? b)with q | w1_
    ·try rewrite[q]
     rfl
    ·obtain⟨o,q⟩:_:=w1_
     try rewrite[q]
     obtain⟨o',e'⟩:_:=g₁.dom b o q;rw[hb]at e';cases e'
   obtain⟨e1,e2⟩:_:=S₁.out hne;obtain⟨d1,d2⟩:_:=S₁.out hnd;exact yD φ₁ st₁ a (S₁.grow hk') (g₁.trans g₂) ⟨none,⟨e,_,d,od,_,v,rfl,⟨back e hne,e1,e2,heo,rfl,rfl,d1,d2,back d hnd,hod,hnf,hl,ra.go g₂⟩,rfl,rfl⟩,.inl rfl⟩ hx
 have fin:wpAny (model B.prog B.w) c.A (exec (.Raise (some (.Call (.Name x np) [e] [] cpos)) none pos) c.env) (PoS B nm nN c s.heap φ R) (Exc B c.P s.heap φ c.L (fun t st'=>X t ρ st')) s:=by
  rw[arm_exec_Raise]
  first
   | exact wpAny_bind (wpAny_standAt (jP O.handled (wpAny_bind (wpAny_mono key (fun v s₃ h₃=>wpAny_bind (wpAny_standAt (wpAny_pure h₃))) fun z z x=>x))))
   | (simp only[evalOpt,Option.map];exact wpAny_bind (wpAny_standAt (jP O.handled (wpAny_bind (wpAny_mono key (fun v s₃ h₃=>wpAny_bind (wpAny_standAt (wpAny_pure h₃))) fun z z x=>x)))))
 exact wpAny_mono fin (fun z z y=>y) fun z z y=>xG O.toOk F y
end
section
variable {prog:Program} {w:World} {A:Around} {E:Value->Shared->Prop} {h:Heap} {g:Array GenState} {d:Drawn} {t:Nat} {os:OsState}
variable {nm q:Str} {C N T a dx:Addr} {bs:List Value} {sn:List Str} {sub:List Value} {ab:Bool} {col:Option Bool} {dd:Option Addr} {k0 k1 k2 k3 k5:Option Value} {name:Str} {v:Value} {o od:Obj} {vs:Array Value}
theorem WV {M:Model} {nameV:Value} {Q:Unit->Shared->Prop} (hC:h.get? C=some (excClassObj nm q C N bs (yk T) true sn sub ab col dd k0 k1 k2 k3 k5 "Exception.__new__"))
  (hx:h.get? a=some o) (hc:o.cls = .ref C) (hq:Q () ⟨h,g,d,t,os⟩):wpAny M A (checkBuiltinCall "BaseException.__getattribute__" ⟨[.ref a,nameV],[]⟩) Q E ⟨h,g,d,t,os⟩:=by
 have hk:builtinKind "BaseException.__getattribute__"=some .slot:=by decide +kernel
 have hsplit:splitId "BaseException.__getattribute__"=some ("BaseException","__getattribute__"):=by decide +kernel
 have hcB:(Value.ref C::yk T).contains (.type "BaseException")=true:=by rw[List.contains_cons];rfl
 have ha:=F.args_bexc_ga (.ref a) nameV;simp only[checkBuiltinCall,hk,hsplit];refine wpAny_bind ?_
 ·unfold isInstance
  repeat (first | (with_reducible refine wpAny_loadPart_at hx ?_;rw[hc]) | (with_reducible refine wpAny_isSubtype_exc hC ?_;rw[hcB]) | wp_step)
  exact hq
theorem T7 {K:Frag} {expr:Bool} {Q:Value->Shared->Prop} (X:K.In h) (ha:findIn K (.ref C) name=some none) (hga:findIn K (.ref C) "__getattribute__"=some (some (.builtin "BaseException.__getattribute__")))
  (hgt:findIn K (.ref C) "__getattr__"=some none) (hdict:hasDictIn K C=true)
  (hC:h.get? C=some (excClassObj nm q C N bs (yk T) true sn sub ab col dd k0 k1 k2 k3 k5 "Exception.__new__")) (hx:h.get? a=some o) (hc:o.cls = .ref C) (hd:o.data = .fields vs) (hdx:o.dict=some dx) (hod:h.get? dx=some od)
  (hl:lookIn name od=some (some v)) (hv:handedOut v=pure v) (hq:Q v ⟨h,g,d,t+1,os⟩):wpAny (model prog w) A (getAttr (.ref a) name expr) Q E ⟨h,g,d,t,os⟩:=by
 have I:InstAt h a o C (some od):=⟨hx,hc,by unfold notCls;rw[hd],by rw[hdx];exact hod⟩;have FB:=F.attr_Exception;have f3:=FB.ga.bind (.ref a)
 have hx0:(expr&&onTheHeap (Value.builtin "BaseException.__getattribute__"))=false:=by cases expr<;>rfl
 have hx2:(Value.builtin "BaseException.__getattribute__"==Value.builtin "object.__getattribute__")=false:=by decide +kernel
 have hx1:(onTheHeap (Value.ref C)&&Value.builtin "BaseException.__getattribute__"==Value.builtin "object.__getattribute__")=false:=by rw[hx2];rfl
 have L1:=looks_findIn (M:=model prog w) X hga;have L2:=looks_findIn (M:=model prog w) X hgt;have L3:=looks_find (M:=model prog w) X I (findObj_own hdict ha rfl hl);unfold getAttr
 repeat (any_goals (first | assumption | (with_reducible refine wpAny_loadPart_at hx ?_;rw[hc]) | with_reducible refine L1.at ?_ | with_reducible refine L2.at ?_ | wp_step))
 refine codeAny_call_builtin FB.ga.plain F.entry_bexc_ga (WV hC hx hc ?_);unfold Builtin.«object.__getattribute__»
 repeat (any_goals (first | assumption | (with_reducible refine wpAny_loadPart_at hx ?_;rw[hc]) | with_reducible refine L3.at ?_ | wp_step))
end
theorem U4 {B:Base} {h:Heap} {φ P:List Addr} {a:AV} {v:Value} (e:VR B h φ P a v):handedOut v=pure v:=by
 refine handedOut_of ?_
 cases a with
 | none=>subst e;rfl
 | bool=>subst e;rfl
 | int=>apply zO (e);intro t;rfl
 | str=>apply zO (e);intro t;rfl
 | bytes=>apply zO (e);intro t;rfl
 | tup=>apply ZJ (e);intro t _ _;rfl
 | info=>apply ZJ (e);intro t _ _;rfl
 | clist=>apply ZJ (e);intro t _ _;rfl
 | ref=>obtain⟨t,_,rfl⟩:=e;rfl
section
variable {B:Base} {nm:Nat->Str} {nN n:Nat} {sc:Scope} {ρ:Rho} {R:Fl->Rho->St->Prop} {X:AV->Rho->St->Prop} {st:St}
theorem V1 {body:List Stmt} {hd:ExceptHandler} {pos:Pos} {c:Cx} {s:Shared} {φ:List Addr} {X':AV->Rho->St->Prop} (O:c.OkF n) (hs:c.env.scope=sc) (S:SR B s φ c.P st) (F:FR B nm nN s.heap φ c ρ) (h:WSs B nm nN n sc body ρ R X' st)
  (hx:∀e s' φ' st' r' told,SR B s' φ' c.P st'->Go c.P c.own s.heap φ s'.heap φ'->FR B nm nN s'.heap φ' c r'->x_ B s.heap s'.heap φ' c.P e told (some .none)->X' told r' st' ->
   wpAny (model B.prog B.w) c.A (handleBy e c.env [hd]) (PoS B nm nN c s.heap φ R) (ExS B nm nN c s.heap φ X) s') :
  wpAny (model B.prog B.w) c.A (exec (.Try body [hd] [] [] pos) c.env) (PoS B nm nN c s.heap φ R) (ExS B nm nN c s.heap φ X) s:=by
 revert B nm nN n sc ρ R X st body hd pos c s φ X' O hs S F h hx
 intros B nm nN n sc ρ R X st body hd pos c s φ X' O hs S F h hx
 have hH:∀b,s.heap.get? b=none->B.H₀.get? b=none:=by
  intros b hb
  rcases tF (B.H₀.get? b)with q | w1_
  ·try rewrite[q]
   rfl
  ·obtain⟨o,q⟩:_:=w1_
   try rewrite[q]
   have:=S.base b o q;rw[hb]at this;cases this
 refine wpAny_Try_except (wpAny_mono (h.run c s φ O hs S F) ?_ ?_)
 ·intros f s₁ p2_;obtain⟨φ₁,st₁,r1,S₁,g₁,F₁,h1⟩:_:=p2_
  cases f with
  | next=>exact wpAny_execs_nil (yD φ₁ st₁ r1 S₁ g₁ F₁ h1)
  | cont=>exact yD φ₁ st₁ r1 S₁ g₁ F₁ h1
  | brk=>exact h1.elim
  | ret v=>exact yD φ₁ st₁ r1 S₁ g₁ F₁ h1
 ·intros e s₁ p3_;obtain⟨φ₁,st₁,r1,told,S₁,g₁,F₁,ein,hX'⟩:_:=p3_;refine km O.toOk S₁ F₁ ein hH g₁.dom ?_;intros h₂ SS t2 n2 e2;have S₂:SR B { s₁ with heap:=h₂,toks:=s₁.toks } φ₁ c.P st₁:=S₁.turnX t2 fun b hb=>hH b (n2 b hb);have g₂:=g₁.turnX t2 n2;have F₂:=F₁.turnX t2;refine vq (s:={ s₁ with heap:=h₂ }) (f:=none) e2 ?_;intros h₃ SS3 t3 n3 e3;have S₃:SR B { s₁ with heap:=h₃,toks:=s₁.toks } φ₁ c.P st₁:=S₂.turnX t3 fun b hb=>hH b (n3 b hb);exact hx e _ φ₁ st₁ r1 told S₃ (g₂.turnX t3 n3) (F₂.turnX t3) e3 hX'
theorem qH {c:Cx} {s:Shared} {φ:List Addr} {h₀:Heap} {e:Value} {told:AV} {fs:Option Value} {x:Str} {np:Pos} {Q:Bool->Shared->Prop} {E:Value->Shared->Prop} (hB:BOk B) (K:qx B) (O:c.Ok n) (hs:c.env.scope=sc)
  (hk:sc.names.lookup x=some .globalImplicit) (hd:(x==("__debug__":Str))=false) (hg:xl B x (.ref B.cBad)) {A:Around} (S:SR B s φ c.P st) (ex:x_ B h₀ s.heap φ c.P e told fs) (h:Q true s) :
  wpAny (model B.prog B.w) A (eval (.Name x np) c.env) (fun cv s₁=>wpAny (model B.prog B.w) A (excMatches e cv) Q E s₁) E s:=by
 revert B n sc st c s φ h₀ e told fs x np Q E hB K O hs hk hd hg A S ex h
 intros B n sc st c s φ h₀ e told fs x np Q E hB K O hs hk hd hg A S ex h;refine wS O S (by unfold Env.kindOf;rw[hs];exact hk) hd hg ?_;obtain⟨cn,q,N,T,bs,sn,sub,ab,col,dd,k0,k1,k2,k3,k5,hC⟩:_:=id K.obj;obtain⟨e,oe,d,od,vs,v,rfl,A,_⟩:_:=ex;obtain⟨hp,g,dr,tk,os⟩:_:=s;exact wpAny_excMatches_sub_self (S.base _ _ hC) A.a4 A.a5 rfl h
theorem Y3 (hB:BOk B) (K:qx B) {body:List Stmt} {x:Str} {np p1 p2 p3 hpos pos:Pos} {i kk:Nat} (hinj:u3 nm nN) (hk:sc.names.lookup x=some .globalImplicit) (hd:(x==("__debug__":Str))=false) (hg:xl B x (.ref B.cBad)) (hi:i<nN) (hst:wH sc (nm i))
  (h:WSs B nm nN n sc body ρ R (fun told r' st'=>R .next (r'.set i .none) st') st) :
  WS B nm nN n sc (.Try body [.ExceptHandler (some (.Name x np)) none [.Assign [.Name (nm i) p1] (.Constant .none kk p2) p3] hpos] [] [] pos) ρ R X st:=by
 revert B nm nN n sc ρ R X st hB K body x np p1 p2 p3 hpos pos i kk hinj hk hd hg hi hst h
 intros B nm nN n sc ρ R X st hB K body x np p1 p2 p3 hpos pos i kk hinj hk hd hg hi hst h;refine⟨?_⟩;intros c s φ O hs S F
 have hH:∀b,s.heap.get? b=none->B.H₀.get? b=none:=by
  intros b hb
  rcases tF (B.H₀.get? b)with q | w1_
  ·try rewrite[q]
   rfl
  ·obtain⟨o,q⟩:_:=w1_
   try rewrite[q]
   have:=S.base b o q;rw[hb]at this;cases this
 refine V1 O hs S F h ?_;intros e s₁ φ₁ st₁ r1 told S₁ g₁ F₁ ex hX
 have hne:e≠byPass:=by obtain⟨a,_,_,_,_,_,rfl,_⟩:=ex;intro q;cases q
 refine wpAny_handleBy_cons (codeAny_handlers_test (qH hB K O.toOk hs hk hd hg S₁ ex ?_)) hne;refine codeAny_handlers_suite (vq (f:=none) ex ?_);intros h₂ SS t2 n2 e2;have S₂:SR B { s₁ with heap:=h₂,toks:=s₁.toks } φ₁ c.P st₁:=S₁.turnX t2 fun b hb=>hH b (n2 b hb);refine wpAny_execs_cons (wpAny_Assign_Name ?_);refine wpAny_pure ?_;refine wV (A:=c.A.mark (some e)) hinj O.toOkL S₂ (F₁.turnX t2) hi (hst.can O hs) vx ?_;intros h₃ t S₃ g₃ F₃;exact wpAny_execs_nil (yD φ₁ st₁ _ S₃ ((g₁.turnX t2 n2).trans g₃) F₃ hX)
theorem XK (hB:BOk B) (K:qx B) (hdict:hasDictIn B.K B.cBad=true) {body:List Stmt} {x:Str} {np p1 p2 p3 p4 hpos pos:Pos} {i j:Nat} (hinj:u3 nm nN) (hk:sc.names.lookup x=some .globalImplicit) (hd:(x==("__debug__":Str))=false) (hg:xl B x (.ref B.cBad))
  (hi:i<nN) (hj:j<nN) (hij:i≠j) (hst:wH sc (nm i)) (hjl:sc.names.lookup (nm j)=some .local) (hjd:(nm j==("__debug__":Str))=false)
  (h:WSs B nm nN n sc body ρ R (fun told r' st'=>r'.get j=none/\R .next (r'.set i told) st') st) :
  WS B nm nN n sc (.Try body [.ExceptHandler (some (.Name x np)) (some (nm j)) [.Assign [.Name (nm i) p1] (.Attribute (.Name (nm j) p4) "told" p2) p3] hpos] [] [] pos) ρ R X st:=by
 revert B nm nN n sc ρ R X st hB K hdict body x np p1 p2 p3 p4 hpos pos i j hinj hk hd hg hi hj hij hst hjl hjd h
 intros B nm nN n sc ρ R X st hB K hdict body x np p1 p2 p3 p4 hpos pos i j hinj hk hd hg hi hj hij hst hjl hjd h;refine⟨?_⟩;intros c s φ O hs S F
 have hH:∀b,s.heap.get? b=none->B.H₀.get? b=none:=by
  intros b hb
  rcases tF (B.H₀.get? b)with q | w1_
  ·try rewrite[q]
   rfl
  ·obtain⟨o,q⟩:_:=w1_
   try rewrite[q]
   have:=S.base b o q;rw[hb]at this;cases this
 have hkj:c.env.kindOf (nm j)=some .local:=by unfold Env.kindOf;rw[hs];exact hjl
 have hp:(c.env.scope.kind == .class||(c.env.scope.kind == .module&&c.env.locals != c.env.globals))=false:=by rw[O.kind];rfl
 have frame:∀{s₁:Shared} {φ₁:List Addr} {st₁:St} {r1:Rho} {h':Heap} {m:Str->Option Value} {u:Option Value},SR B s₁ φ₁ c.P st₁->FR B nm nN s₁.heap φ₁ c r1->r1.get j=none->s₁.heap.Ns c.env.locals m->h'.Ns c.env.locals (fun y=>if y=nm j then u else m y)->Heap.SameBut c.env.locals s₁.heap h' ->
   (∀i a,r1.get i=some a->i<nN/\match c.env.kindOf (nm i)with
    | some .local=>∃v,m (nm i)=some v/\VR B s₁.heap φ₁ c.P a v
    | some .cell | some .free=>∃b o v,c.env.cells.lookup (nm i)=some b/\s₁.heap.get? b=some o/\o.data = .cell (some v)/\VR B s₁.heap φ₁ c.P a v
    | _=>False) ->
   ∀tk,SR B { s₁ with heap:=h',toks:=tk } φ₁ c.P st₁/\Go c.P c.own s₁.heap φ₁ h' φ₁/\FR B nm nN h' φ₁ c r1/\(∀i a,r1.get i=some a->i<nN/\match c.env.kindOf (nm i)with
    | some .local=>∃v,(if nm i=nm j then u else m (nm i))=some v/\VR B h' φ₁ c.P a v
    | some .cell | some .free=>∃b o v,c.env.cells.lookup (nm i)=some b/\h'.get? b=some o/\o.data = .cell (some v)/\VR B h' φ₁ c.P a v
    | _=>False):=by
  intros s₁ φ₁ st₁ r1 h' m u S₁ F₁ hjn hn hn' hsb hv tk;obtain⟨oL,es,ep,eL,eLd,_⟩:_:=id hn';have he:∃o,h'.get? c.env.locals=some o:=⟨oL,eL⟩;have g:=ZQ (h:=s₁.heap) S₁ hsb O.locals he
  have hv':∀i a,r1.get i=some a->i<nN/\match c.env.kindOf (nm i)with
    | some .local=>∃v,(if nm i=nm j then u else m (nm i))=some v/\VR B h' φ₁ c.P a v
    | some .cell | some .free=>∃b o v,c.env.cells.lookup (nm i)=some b/\h'.get? b=some o/\o.data = .cell (some v)/\VR B h' φ₁ c.P a v
    | _=>False:=by
   intros i a e;obtain⟨h1,z⟩:_:=hv i a e;refine⟨h1,?_⟩
   have hne:nm i≠nm j:=fun q=>by have:=hinj i j h1 hj q;subst this;rw[hjn]at e;cases e
   rcases tF (c.env.kindOf (nm i))with hki | w2_
   ·try rewrite[hki]
    rw[hki]at z;exact z
   ·obtain⟨k,hki⟩:_:=w2_
    try rewrite[hki]
    rw[hki]at z
    cases k<;>first
     | exact z
     | (obtain⟨v,hm,r⟩:=z;exact⟨v,(if_neg hne).trans hm,r.go g⟩)
     | (obtain⟨x,o,v,hx,ho,hd,r⟩:=z;exact(yD x o v hx ((hsb.2 x (O.cellsNe _ _ hx)).trans ho) hd (r.go g)))
  refine⟨Wu S₁ hsb O.locals he,g,⟨(zw _ hn' hv'),?_,?_⟩,hv'⟩
  ·intros x b e;obtain⟨o,u,ho,hd⟩:_:=F₁.cellObj x b e;exact wm o u ((hsb.2 b (O.cellsNe _ _ e)).trans ho) hd
  ·intros fr hf e he' L hL;obtain⟨o,ho,hd⟩:_:=F₁.fo fr hf e he' L hL
   by_cases q:L=c.env.locals
   ·subst q;exact zw oL eL (fun vs w=>by rw[eLd]at w;cases w)
   ·exact zw o ((hsb.2 L q).trans ho) hd
 refine V1 O hs S F h ?_;intros e s₁ φ₁ st₁ r1 told S₁ g₁ F₁ ex hX;refine xn (hX) fun hjn hX=>?_
 have hne:e≠byPass:=by obtain⟨a,_,_,_,_,_,rfl,_⟩:=ex;intro q;cases q
 refine wpAny_handleBy_cons (codeAny_handlers_test (qH hB K O.toOk hs hk hd hg S₁ ex ?_)) hne;refine codeAny_handlers_suite_as (vq (f:=none) ex fun h₂ SS t2 n2 e2=>?_);have S₂:SR B { s₁ with heap:=h₂,toks:=s₁.toks } φ₁ c.P st₁:=S₁.turnX t2 fun b hb=>hH b (n2 b hb);have F₂:=F₁.turnX t2;have g₂:=g₁.turnX t2 n2;refine zn (F₂.ns) fun m₂ hn2 hv2=>?_;refine wpAny_storeName_local hkj hn2 (fun h₃ hn3 hs3=>?_) hp;refine XQ (frame (s₁:={ s₁ with heap:=h₂,toks:=s₁.toks }) S₂ F₂ hjn hn2 hn3 hs3 hv2 (s₁.toks+1)) fun S₃ g₃ F₃ hv3=>?_;refine QP (e2) fun ea oe d od vs v q1z A a14 a15=>?_;try clear e2;subst q1z;obtain⟨a1,a2,a3,a4,a5,a6,a7,a8,a9,a10,a11,a12,a13⟩:=A;have keep3:∀{b o},b∉c.P->h₂.get? b=some o->h₃.get? b=some o:=fun hb e=>(hs3.2 _ fun q=>hb (by rw[q];exact List.mem_append_left _ O.locals)).trans e;refine wpAny_execs_cons (wpAny_Assign_Name ?_);rw[arm_eval_Attribute];have hab:attributeBase (.Name (nm j) p4) "told" c.env (eval (.Name (nm j) p4) c.env)=eval (.Name (nm j) p4) c.env:=rfl;rw[hab];refine wpAny_bind (wpAny_Name (wpAny_loadName_local O.kind hkj hn3 (v:=.ref ea) (if_pos rfl) ?_) hjd);refine wpAny_bind (wpAny_standAt (wpAny_bind (wpAny_holding ?_)));refine VW (id K.obj) fun cn q N T bs sn sub n3z=>?_;refine VW (n3z) fun ab col dd k0 k1 k2 k3 n4z=>?_;try clear n3z;refine zX (n4z) fun k5 hC=>?_;try clear n4z;refine T7 (K:=B.K) (K.inK.keeps S₃.base) K.told K.get K.hook hdict (S₃.base _ _ hC) (keep3 a3 a4) a5 a14 a6 (keep3 a8 a10) a12 (U4 a13) ?_;have rv:=a13.go (g₃);refine wpAny_bind (m:=letTemporaryGo (.Name (nm j) p4) (.ref ea) v) (wpAny_pure (wpAny_pure ?_));have S₄:=S₃.toks (s₁.toks+1+1);refine wV (A:=c.A.mark (some (.ref ea))) hinj O.toOkL S₄ F₃ hi (hst.can O hs) rv fun h4 t₄ S₅ g₅ F₅=>?_;refine wpAny_execs_nil ?_;refine zn (F₅.ns) fun m5 hn5 hv5=>?_
 have hjn5:(r1.set i told).get j=none:=by rw[Rho.get_set,if_neg (Ne.symm hij)];exact hjn
 refine wpAny_nameGoes_keeps hkj hn5 hp fun h6 u hn6 hs6=>?_;refine XQ (frame S₅ F₅ hjn5 hn5 hn6 hs6 hv5 (t₄+1)) fun S₆ g₆ F₆ p=>?_;exact yD φ₁ st₁ _ S₆ (((g₂.trans g₃).trans g₅).trans g₆) F₆ hX
end
section
variable {B:Base} {nm:Nat->Str} {nN n:Nat} {sc:Scope} {ρ:Rho} {Q X:AV->St->Prop} {st:St}
theorem WF {s:Shared} {φ P:List Addr} {as:List AV} {vs:List Value} {t:Nat} (S:SR B s φ P st) (ras:VRs B s.heap φ P as vs) (h:Q (.tup as) st) :
  Po B P s.heap φ (Val B P Q) (.ref s.heap.objs.size) { s with heap:=s.heap.push { cls:=.type "tuple",data:=.seq vs.toArray },toks:=t }:=by
 have hk:∀b ob,s.heap.get? b=some ob->(s.heap.push { cls:=.type "tuple",data:=.seq vs.toArray }).get? b=some ob:=fun b ob e=>Heap.get?_push_of_some _ e;have g:Go P [] s.heap φ (s.heap.push { cls:=.type "tuple",data:=.seq vs.toArray }) φ:=Go.of_keep hk;obtain⟨o1,o2⟩:=S.out (yz s.heap);exact⟨φ,st,S.grow hk,g,.tup as,by exact⟨_,vs,rfl,o1,o2,(uG _ (Heap.get?_push_size _ rfl) rfl ⟨_,rfl⟩),ras.go g⟩,h⟩
theorem wd {s:Shared} {φ P:List Addr} {as:List AV} {vs:List Value} {t:Nat} (S:SR B s φ P st) (ras:VRs B s.heap φ P as vs) (h:Q (.ref st.length) (st++[.list as])) :
  Po B P s.heap φ (Val B P Q) (.ref s.heap.objs.size) { s with heap:=s.heap.push { cls:=.type "list",data:=.seq vs.toArray },toks:=t }:=by
 have hk:∀b ob,s.heap.get? b=some ob->(s.heap.push { cls:=.type "list",data:=.seq vs.toArray }).get? b=some ob:=fun b ob e=>Heap.get?_push_of_some _ e;obtain⟨S',g⟩:=S.more (o:=default) (o':=.list as) (t:=t) hk ⟨_,Heap.get?_push_size _ rfl⟩ fun g=>(wm vs 0 (Heap.get?_push_size _ rfl) (ras.go g));exact⟨_,_,S',g,.ref st.length,by exact(zw _ (by rw[<-S.len];exact gn) rfl),h⟩
theorem zp {es:List Expr} {k:Nat} {pos:Pos} (h:WEs B nm nN n sc es ρ (fun as st'=>as.length<=16777216/\Q (.tup as) st') X st):WE B nm nN n sc (.Tuple es k pos) ρ Q X st:=by
 revert B nm nN n sc ρ Q X st es k pos h
 intros B nm nN n sc ρ Q X st es k pos h;refine⟨?_⟩;intros c s φ O hs S F;refine wpAny_Tuple (wpAny_mono (h.run c s φ pos O hs S F) ?_ fun z z y=>y);intros vs s₁ p5_;obtain⟨φ₁,st₁,S₁,g₁,as,ras,hz,h1⟩:_:=p5_;exact⟨by rw[sizeLine_eq,ras.length];exact hz,(WF (t:=s₁.toks) S₁ ras h1).after g₁⟩
theorem zr {es:List Expr} {pos:Pos} (h:WEs B nm nN n sc es ρ (fun as st'=>as.length<=16777216/\Q (.ref st'.length) (st'++[.list as])) X st):WE B nm nN n sc (.List es pos) ρ Q X st:=by
 revert B nm nN n sc ρ Q X st es pos h
 intros B nm nN n sc ρ Q X st es pos h;refine⟨?_⟩;intros c s φ O hs S F;refine wpAny_List (wpAny_mono (h.run c s φ pos O hs S F) ?_ fun z z y=>y);intros vs s₁ p6_;obtain⟨φ₁,st₁,S₁,g₁,as,ras,hz,h1⟩:_:=p6_;exact⟨by rw[sizeLine_eq,ras.length];exact hz,(wd (t:=s₁.toks) S₁ ras h1).after g₁⟩
noncomputable def ZX (B:Base) (a k:AV) (Q:AV->St->Prop) (st:St):Prop :=
 ∀(A:Around) (P:List Addr) (s:Shared) (φ:List Addr) (v w:Value),A.handled=none->A.units+100<=cLine->SR B s φ P st->VR B s.heap φ P a v->VR B s.heap φ P k w ->
  (∃T id,s.TypeIs v T/\typeLookup (.type T) "__getitem__"=pure (some (.builtin id)))/\wpAny (model B.prog B.w) A (getItem v w) (Po B P s.heap φ (Val B P Q)) (fun z z=>False) s
theorem jg {prog:Program} {w:World} {A:Around} {E:Value->Shared->Prop} {s:Shared} {value slice:Expr} {o i:Value} {ops:List Value} {T id:String} {Q:Value->Shared->Prop} (hT:s.TypeIs o T)
  (hl:typeLookup (.type T) "__getitem__"=pure (some (.builtin id))) (h:wpAny (model prog w) A (getItem o i) Q E s) (hs:subscripted slice false o i=operate ops (getItem o i)) :
  wpAny (model prog w) A (subscriptTail value slice o i) Q E s:=by
 refine wpAny_bind ?_;rw[getitemInPython_of_ne hT.not_modules];refine wpAny_bind (wpAny_specialOf hT hl ?_)
 have fin:wpAny (model prog w) A (subscripted slice false o i) (fun r s₃=>wpAny (model prog w) A (letTemporaryGo value o r >>= fun z=>pure r) Q E s₃) E s:=by
  rw[hs];exact wpAny_operating (wpAny_mono h (fun r s₃ h₃=>wpAny_bind (wpAny_letTemporaryGo (wpAny_pure h₃))) fun z z x=>x)
 first
  | exact wpAny_pure (wpAny_bind fin)
  | exact wpAny_bind (wpAny_pure (wpAny_bind fin))
  | exact wpAny_bind fin
theorem Qz {v i:Expr} {pos:Pos} (hs:∀o k,subscripted i false o k=operate [o,k] (getItem o k)) (h:WE B nm nN n sc v ρ (fun a st₁=>WE B nm nN n sc i ρ (fun k st2=>ZX B a k Q st2) X st₁) X st):WE B nm nN n sc (.Subscript v i pos) ρ Q X st:=by
 revert B nm nN n sc ρ Q X st v i pos hs h
 intros B nm nN n sc ρ Q X st v i pos hs h;refine⟨?_⟩;intros c s φ O hsc S F;refine Subscript_ ?_;refine wpAny_mono (h.run c s φ O hsc S F) ?_ fun z z y=>y;intros o s₁ p7_;obtain⟨φ₁,st₁,S₁,g₁,a,ra,h1⟩:_:=p7_;refine wpAny_mono (h1.run c s₁ φ₁ O hsc S₁ (F.go O g₁)) ?_ fun z z y=>y.after g₁;intros k s₂ p8_;obtain⟨φ₂,st2,S₂,g₂,b,rb,h₂⟩:_:=p8_;obtain⟨⟨T,id,hT,hl⟩,hi⟩:_:=h₂ c.A c.P s₂ φ₂ o k O.handled O.room S₂ (ra.go g₂) rb;exact after (g₁.trans g₂) (v6 (jg hT hl hi (hs o k)))
noncomputable def idx {α:Type} (l:List α) (k:Int):Option α:=if 0<=k then l[k.toNat]? else if -(l.length:Int)<=k then l[(k+l.length).toNat]? else none
theorem tT {α:Type} {l:List α} {k:Int} {a:α} (h:idx l k=some a):∃j,seqIndex? k l.length=some j/\l[j]?=some a/\j<l.length:=by
 revert α l k a h
 intros α l k a h;unfold idx at h
 by_cases h0:0<=k
 ·rw[if_pos h0]at h;have hl:=(List.getElem?_eq_some_iff.mp h).1;have h2:¬k<0:=Int.not_lt.mpr h0;have h3:k<(l.length:Int):=(Int.toNat_lt h0).mp hl;exact⟨k.toNat,by simp[seqIndex?,h2,h3,h0],h,hl⟩
 ·rw[if_neg h0]at h
  by_cases h1:-(l.length:Int)<=k
  ·rw[if_pos h1]at h;have hl:=(List.getElem?_eq_some_iff.mp h).1;have h2:k<0:=Int.not_le.mp h0;have h3:k+(l.length:Int)<(l.length:Int):=Int.lt_of_lt_of_le (Int.add_lt_add_right h2 _) (Int.le_of_eq (Int.zero_add _));have h4:0<=k+(l.length:Int):=Int.le_trans (Int.le_of_eq (Int.add_left_neg _).symm) (Int.add_le_add_right h1 _);exact⟨(k+l.length).toNat,by simp[seqIndex?,h2,h3,h4],h,hl⟩
  ·rw[if_neg h1]at h;cases h
theorem VRs.get' {h:Heap} {φ P:List Addr} {l:List AV} {vs:List Value} {j:Nat} {a:AV} (e:VRs B h φ P l vs) (ea:l[j]?=some a):∃v,vs[j]?=some v/\VR B h φ P a v:=e.at ea
theorem sJ {s:Shared} {φ P:List Addr} {A:Around} {ax:Addr} {vs:List Value} {xs:List AV} {k:Int} {a:AV} {t:Tok} (S:SR B s φ P st) (hl:s.heap.IsList ax vs.toArray) (rs:VRs B s.heap φ P xs vs) (hfit:-(2 ^ 63)<=k/\k<2 ^ 63) (ha:idx xs k=some a) (h:Q a st) :
  wpAny (model B.prog B.w) A (getItem (.ref ax) (.int k t)) (Po B P s.heap φ (Val B P Q)) (fun z z=>False) s:=by
 unfold idx at ha
 split at ha
 ·refine zn (rs.get' ha) fun v hv rv=>?_;exact wpAny_getItem_list hl (by assumption) hfit.2 (by simpa using hv) (z8 S ⟨a,rv,h⟩)
 ·split at ha
  ·refine zn (rs.get' ha) fun v hv rv=>?_;refine wpAny_getItem_list_neg hl (Int.not_le.mp ‹¬0<=k›) (by simp[rs.length];exact ‹-↑xs.length<=k›) hfit.1 (x:=v) ?_ (z8 S ⟨a,rv,h⟩);simpa[rs.length]using hv
  ·cases ha
theorem zH {m:Nat} {xs:List AV} {k:Int} {a:AV} (hm:st[m]?=some (.list xs)) (hfit:-(2 ^ 63)<=k/\k<2 ^ 63) (ha:idx xs k=some a) (h:Q a st):ZX B (.ref m) (.int k) Q st:=by
 intro A P s φ v w hh hu S ra rk;refine zn (zJ ra) fun b hb q1z=>?_;subst q1z
 apply zO (zS rk);intro t
 refine wL (S.listAt hb hm) fun vs kk hl rs=>?_;have hL:=IsList.of_plain hl;exact⟨(wm _ _ hL.typeIs slot_list_getitem.lookup),sJ S hL rs hfit ha h⟩
theorem WM {xs:List AV} {k:Int} {a:AV} (hfit:-(2 ^ 63)<=k/\k<2 ^ 63) (ha:idx xs k=some a) (h:Q a st):ZX B (.clist xs) (.int k) Q st:=by
 intro A P s φ v w hh hu S ra rk
 apply zO (zS rk);intro t
 apply uL (ra);intro b vs hl rs
 try clear ra;have hL:s.heap.IsList b vs.toArray:=hl.at fun o e=>S.base _ _ e;exact⟨(wm _ _ hL.typeIs slot_list_getitem.lookup),sJ S hL rs hfit ha h⟩
theorem UU {xs:List AV} {k:Int} {a:AV} (hfit:-(2 ^ 63)<=k/\k<2 ^ 63) (ha:idx xs k=some a) (h:Q a st):ZX B (.tup xs) (.int k) Q st:=by
 revert B Q st xs k a hfit ha h
 intros B Q st xs k a hfit ha h;intros A P s φ v w hh hu S ra rk;obtain⟨t,rfl⟩:_:=zS rk;obtain⟨b,vs,rfl,h1,h2,hl,rs⟩:_:=ra;obtain⟨j,hj,hxj,hjl⟩:_:=tT ha;obtain⟨v,hv,rv⟩:_:=rs.get' hxj;exact⟨⟨_,_,hl.typeIs,slot_tuple_getitem.lookup⟩,getItem_tuple hl hfit.1 hfit.2 (j:=j) (by simpa[rs.length]using hj) (by simpa using hv) (z8 S ⟨a,rv,h⟩)⟩
theorem yN {b:List UInt8} {k:Int} {c:UInt8} (hfit:-(2 ^ 63)<=k/\k<2 ^ 63) (ha:idx b k=some c) (h:Q (.int (c.toNat:Int)) st):ZX B (.bytes b) (.int k) Q st:=by
 intro A P s φ v w hh hu S ra rk
 apply zO (zS rk);intro t
 apply zO (zF ra);intro u
 refine yY (tT ha) fun j hj hxj hjl=>?_;refine⟨(wm _ _ (typeIs_bytes _ _ _) FB.slot_bytes_getitem.lookup),getItem_gives (typeIs_bytes s _ u) (by decide) FB.slot_bytes_getitem FB.entry_bytes_getitem (FB.args_bytes_getitem_2 _ _) (gives_bytes_getitem _ k u t c ?_ ?_) ?_⟩
 ·simp only[Builtin.Bytes.fitsIndex,Bool.and_eq_true,decide_eq_true_eq];exact hfit
 ·rw[show b.toArray.size=b.length from by exact rfl,hj];simpa using hxj
 ·exact zE S (zw _ yG h)
theorem Yz {b:List Nat} {k:Int} {c:Nat} (hfit:-(2 ^ 63)<=k/\k<2 ^ 63) (ha:idx b k=some c) (h:Q (.str [c]) st):ZX B (.str b) (.int k) Q st:=by
 intro A P s φ v w hh hu S ra rk
 apply zO (zS rk);intro t
 apply zO (xb ra);intro u
 refine yY (tT ha) fun j hj hxj hjl=>?_;refine⟨(wm _ _ (typeIs_str _ _ _) F.slot_str_getitem.lookup),PySem.P.getItem_str (c:=c) ?_ ?_ (zE S (zw _ u4 h))⟩
 ·simp;exact hfit
 ·rw[z_,hj];exact(sw b j).trans hxj
end
noncomputable def cut {α:Type} (lo hi:Option Int) (l:List α):List α:=(l.drop (lo.elim 0 (clipAt l.length))).take (hi.elim l.length (clipAt l.length)-lo.elim 0 (clipAt l.length))
theorem VRs.dropL {B:Base} {h:Heap} {φ P:List Addr}:∀{l:List AV} {vs:List Value} (k:Nat),VRs B h φ P l vs->VRs B h φ P (l.drop k) (vs.drop k)
 | l,vs,0,e=>by exact e
 | [],_,k+1,e=>by subst e;exact rfl
 | _::_,_,k+1,e=>by
  apply uL (e);intro v t ra rt
  simpa using rt.dropL k
theorem VRs.takeL {B:Base} {h:Heap} {φ P:List Addr}:∀{l:List AV} {vs:List Value} (k:Nat),VRs B h φ P l vs->VRs B h φ P (l.take k) (vs.take k)
 | l,vs,0,e=>by exact rfl
 | [],_,k+1,e=>by subst e;exact rfl
 | _::_,_,k+1,e=>by
  apply uL (e);intro v t ra rt
  simp only[List.take_succ_cons];exact⟨v,_,rfl,ra,rt.takeL k⟩
theorem VRs.cutL {B:Base} {h:Heap} {φ P:List Addr} {l:List AV} {vs:List Value} (lo hi:Option Int) (e:VRs B h φ P l vs):VRs B h φ P (cut lo hi l) (cut lo hi vs):=by
 unfold cut;rw[e.length];exact(e.dropL _).takeL _
theorem vi {α:Type} (lo hi:Option Int) (l:List α):(cut lo hi l).length<=l.length:=by
 unfold cut;rw[List.length_take,List.length_drop];exact F2 (Nat.min_le_right (hi.elim l.length (clipAt l.length)-lo.elim 0 (clipAt l.length)) (l.length-lo.elim 0 (clipAt l.length))) (Nat.sub_le (l.length) (lo.elim 0 (clipAt l.length)))
section
variable {B:Base} {nm:Nat->Str} {nN n:Nat} {sc:Scope} {ρ:Rho} {Q X:AV->St->Prop} {st:St}
noncomputable def jX (B:Base) (a:AV) (lo hi:Option Int) (Q:AV->St->Prop) (st:St):Prop :=
 ∀(A:Around) (P:List Addr) (s:Shared) (φ:List Addr) (v:Value) (sl:Addr) (vl vu:Value),A.handled=none->A.units+100<=cLine->SR B s φ P st->VR B s.heap φ P a v->s.heap.IsSliceOf sl vl vu .none->IsPart vl lo->IsPart vu hi ->
  (∃T id,s.TypeIs v T/\typeLookup (.type T) "__getitem__"=pure (some (.builtin id)))/\wpAny (model B.prog B.w) A (getItem v (.ref sl)) (Po B P s.heap φ (Val B P Q)) (fun z z=>False) s
noncomputable def So (B:Base) (nm:Nat->Str) (nN n:Nat) (sc:Scope) (e:Option Expr) (ρ:Rho) (Q:Option Int->St->Prop) (X:AV->St->Prop) (st:St):Prop:=match e with
 | none=>Q none st
 | some e=>WE B nm nN n sc e ρ (fun a st'=>∃i,a = .int i/\Q (some i) st') X st
theorem Vo {c:Cx} {s:Shared} {φ:List Addr} {e:Option Expr} {Q:Option Int->St->Prop} (O:c.Ok n) (hs:c.env.scope=sc) (S:SR B s φ c.P st) (F:FR B nm nN s.heap φ c ρ) (h:So B nm nN n sc e ρ Q X st) :
  wpAny (model B.prog B.w) c.A (evalPart e c.env) (Po B c.P s.heap φ (fun v z z st'=>∃k,IsPart v k/\Q k st')) (Exc B c.P s.heap φ c.L X) s:=by
 cases e with
 | none=>rw[evalPart_none];exact wpAny_pure (z8 S (zw none (.none) h))
 | some e =>
  rw[evalPart_some];refine v9 (h.run c s φ O hs S F) ?_ fun z z y=>y;intro v h φ st p1z;refine zn (p1z) fun a ra n4z=>?_;try clear p1z;refine zn (n4z) fun i q9z hq=>?_;try clear n4z;subst q9z
  apply zO (zS ra);intro t
  exact zw (some i) (.int i t) hq
theorem zR {v:Expr} {lo hi:Option Expr} {p pos:Pos} (h:WE B nm nN n sc v ρ (fun a st₁=>So B nm nN n sc lo ρ (fun l st2=>So B nm nN n sc hi ρ (fun u st₃=>jX B a l u Q st₃) X st2) X st₁) X st) :
  WE B nm nN n sc (.Subscript v (.Slice lo hi none p) pos) ρ Q X st:=by
 revert B nm nN n sc ρ Q X st v lo hi p pos h
 intros B nm nN n sc ρ Q X st v lo hi p pos h;refine⟨?_⟩;intros c s φ O hsc S F;refine Subscript_ ?_;refine wpAny_mono (h.run c s φ O hsc S F) ?_ fun z z y=>y;intros o s₁ p5_;obtain⟨φ₁,st₁,S₁,g₁,a,ra,h1⟩:_:=p5_;refine wpAny_Slice ?_;have F₁:=F.go O g₁;refine wpAny_mono (Vo O hsc S₁ F₁ h1) ?_ fun z z y=>y.after g₁;intros vl s₂ p6_;obtain⟨φ₂,st2,S₂,g₂,l,hl,h₂⟩:_:=p6_;refine wpAny_mono (Vo O hsc S₂ (F₁.go O g₂) h₂) ?_ fun z z y=>y.after (g₁.trans g₂);intros vu s₃ p7_;obtain⟨φ₃,st₃,S₃,g₃,u,hu,h₃⟩:_:=p7_;rw[evalPart_none];refine wpAny_pure ?_;have hk:∀b ob,s₃.heap.get? b=some ob->(s₃.heap.push { cls:=.type "slice",data:=.fields #[vl,vu,.none] }).get? b=some ob:=fun b ob e=>Heap.get?_push_of_some _ e;have S₄:SR B { s₃ with heap:=s₃.heap.push { cls:=.type "slice",data:=.fields #[vl,vu,.none] },toks:=s₃.toks } φ₃ c.P st₃:=S₃.grow hk;have g₄:Go c.P [] s.heap φ (s₃.heap.push { cls:=.type "slice",data:=.fields #[vl,vu,.none] }) φ₃:=((g₁.trans g₂).trans g₃).trans (Go.of_keep hk);have ra₄:=ra.go ((g₂.trans g₃).trans (Go.of_keep hk));obtain⟨⟨T,id,hT,hlk⟩,hi⟩:_:=h₃ c.A c.P _ φ₃ o _ vl vu O.handled O.room S₄ ra₄ (Heap.IsSliceOf.new ..) hl hu;exact after (s':={ s₃ with heap:=s₃.heap.push { cls:=.type "slice",data:=.fields #[vl,vu,.none] },toks:=s₃.toks }) g₄ (v6 (jg (s:={ s₃ with heap:=s₃.heap.push { cls:=.type "slice",data:=.fields #[vl,vu,.none] },toks:=s₃.toks }) hT hlk hi rfl))
theorem Zw {s:Shared} {φ P:List Addr} {A:Around} {ax sl:Addr} {vs:List Value} {xs:List AV} {lo hi:Option Int} {vl vu:Value} (S:SR B s φ P st) (hL:s.heap.IsList ax vs.toArray) (rs:VRs B s.heap φ P xs vs) (hz:xs.length<=16777216)
  (hsl:s.heap.IsSliceOf sl vl vu .none) (hl:IsPart vl lo) (hu:IsPart vu hi) (h:Q (.ref st.length) (st++[.list (cut lo hi xs)])):wpAny (model B.prog B.w) A (getItem (.ref ax) (.ref sl)) (Po B P s.heap φ (Val B P Q)) (fun z z=>False) s:=by
 refine wpAny_getItem_list_slice hL hsl hl hu .none (nofun) ?_ (by rw[List.size_toArray,rs.length,sizeLine_eq];exact hz);rw[slicePick_plain]
 have e:((vs.toArray.toList.drop (lo.elim 0 (clipAt vs.toArray.size))).take (hi.elim vs.toArray.size (clipAt vs.toArray.size)-lo.elim 0 (clipAt vs.toArray.size)))=cut lo hi vs:=by exact rfl
 rw[e];exact wd (t:=s.toks) S (rs.cutL lo hi) h
theorem xz {m:Nat} {xs:List AV} {lo hi:Option Int} (hm:st[m]?=some (.list xs)) (hz:xs.length<=16777216) (h:Q (.ref st.length) (st++[.list (cut lo hi xs)])):jX B (.ref m) lo hi Q st:=by
 intro A P s φ v sl vl vu hh hu S ra hsl hl hu';refine zn (zJ ra) fun b hb q6z=>?_;subst q6z;refine wL (S.listAt hb hm) fun vs kk hli rs=>?_;have hL:=IsList.of_plain hli;exact⟨(wm _ _ hL.typeIs list_getitem_lookup),Zw S hL rs hz hsl hl hu' h⟩
theorem YI {xs:List AV} {lo hi:Option Int} (hz:xs.length<=16777216) (h:Q (.ref st.length) (st++[.list (cut lo hi xs)])):jX B (.clist xs) lo hi Q st:=by
 intro A P s φ v sl vl vu hh hu S ra hsl hl hu'
 apply uL (ra);intro b vs hli rs
 try clear ra;have hL:s.heap.IsList b vs.toArray:=hli.at fun o e=>S.base _ _ e;exact⟨(wm _ _ hL.typeIs list_getitem_lookup),Zw S hL rs hz hsl hl hu' h⟩
theorem yh {b:List UInt8} {lo hi:Option Int} (hz:b.length<=16777216) (h:Q (.bytes (cut lo hi b)) st):jX B (.bytes b) lo hi Q st:=by
 intro A P s φ v sl vl vu hh hu S ra hsl hl hu'
 apply zO (zF ra);intro t
 have ep:KBy.picked b.toArray lo hi=(cut lo hi b).toArray:=by rw[KBc.picked_eq];exact rfl
 refine⟨(wm _ _ (typeIs_bytes _ _ _) FB.slot_bytes_getitem.lookup),getItem_meets (typeIs_bytes _ _ _) (by decide) FB.slot_bytes_getitem FB.entry_bytes_getitem (FB.args_bytes_getitem_2 _ _) (KBc.meets_slice2 b.toArray t sl hl hu') (d3_ hsl ?_ (fun t' k=>?_))⟩
 ·rw[ep,List.size_toArray,sizeLine_eq];exact Nat.le_trans (vi ..) hz
 ·rw[ep];exact zE S (zw _ yV h)
theorem Vy (n:Nat) (i:Int):clipAt n i<=n:=iL (by rw[clipAt_cast];exact Int.max_le.mpr ⟨Int.natCast_nonneg _,Int.min_le_right ..⟩)
theorem Yg (lo hi:Option Int) (n:Nat):Builtin.Str.strSliceIndices lo hi 1 n=sliceRange ((lo.elim 0 (clipAt n):Nat):Int) ((hi.elim n (clipAt n):Nat):Int) 1:=by
 revert lo hi n
 intros lo hi n
 cases lo<;>cases hi<;>simp[Builtin.Str.strSliceIndices,clipAt_cast]
theorem qJ {v:Value} {k:Option Int} (h:IsPart v k):∃o:Option (Int×Tok),v=partValue o/\o.map (fun x=>x.1)=k:=by
 cases h with
 | none=>exact zw none rfl rfl
 | int i t=>exact zw (some (i,t)) rfl rfl
theorem qk {b:List Nat} {lo hi:Option Int} (hz:b.length<=16777216) (h:Q (.str (cut lo hi b)) st):jX B (.str b) lo hi Q st:=by
 revert B Q st b lo hi hz h
 intros B Q st b lo hi hz h;intros A P s φ v sl vl vu hh hu S ra hsl hl hu';obtain⟨t,rfl⟩:_:=xb ra;obtain⟨l,rfl,el⟩:_:=qJ hl;obtain⟨u,rfl,eu⟩:_:=qJ hu';refine⟨⟨_,_,typeIs_str _ _ _,F.slot_str_getitem.lookup⟩,wpAny_getItem_str_slice (l:=l) (u:=u) (st:=none) hsl rfl ?_⟩
 have hp:slicePicked (mkS b) l u none=(List.range (hi.elim b.length (clipAt b.length)-lo.elim 0 (clipAt b.length))).map ((lo.elim 0 (clipAt b.length)) + ·):=by
  unfold slicePicked;rw[el,eu,z_];show Builtin.Str.strSliceIndices lo hi 1 b.length=_;rw[Yg,sliceRange_one]
 have hc:((slicePicked (mkS b) l u none).filterMap ((mkS b).cps[·]?))=cut lo hi b:=by
  rw[hp,pick_run];exact rfl
 unfold sliceMade
 by_cases hw:(((none:Option (Int×Tok)).map (fun x=>x.1)).getD 1==1&&(slicePicked (mkS b) l u none).length==(mkS b).length)=true
 ·rw[if_pos hw]
  have hlen:(slicePicked (mkS b) l u none).length=b.length:=by
   simp only[Bool.and_eq_true,beq_iff_eq]at hw;rw[hw.2,z_]
  have e:cut lo hi b=b:=by
   rw[hp,List.length_map,List.length_range]at hlen
   have h1:lo.elim 0 (clipAt b.length)<=b.length:=by
    cases lo with
    | none=>exact wD
    | some i=>exact Vy ..
   have h2:hi.elim b.length (clipAt b.length)<=b.length:=by
    cases hi with
    | none=>exact wC
    | some i=>exact Vy ..
   by_cases h0:b=[]
   ·subst h0;simp[cut]
   ·have:0<b.length:=List.length_pos_iff.mpr h0;have h3:lo.elim 0 (clipAt b.length)=0:=ds hlen h2 this
    have h4:hi.elim b.length (clipAt b.length)=b.length:=by exact AS (F1 h2) (F2 (Re hlen) (Le (S1 (hi.elim b.length (clipAt b.length)) (lo.elim 0 (clipAt b.length)) (F1 (Le h3)))))
    unfold cut;rw[h3,h4];simp
  rw[e]at h;exact z8 S ⟨_,u4,h⟩
 ·rw[if_neg hw,hc];exact⟨by show (mkS (cut lo hi b)).length<=sizeLine;rw[z_,sizeLine_eq];exact Nat.le_trans (vi ..) hz,zE S ⟨_,u4,h⟩⟩
end
section
variable {B:Base} {nm:Nat->Str} {nN n:Nat} {sc:Scope} {ρ:Rho} {Q X:AV->St->Prop} {st:St}
theorem VRs.reverseL {h:Heap} {φ P:List Addr} {l:List AV} {vs:List Value} (e:VRs B h φ P l vs):VRs B h φ P l.reverse vs.reverse:=e.reverse
theorem RH {v m1:Expr} {p pos:Pos} (h:WE B nm nN n sc v ρ (fun a st₁=>WE B nm nN n sc m1 ρ (fun k st2=>k = .int (-1) /\ ∃m xs,a = .ref m/\st2[m]?=some (.list xs)/\xs.length<=16777216/\Q (.ref st2.length) (st2++[.list xs.reverse])) X st₁) X st) :
  WE B nm nN n sc (.Subscript v (.Slice none none (some m1) p) pos) ρ Q X st:=by
 revert B nm nN n sc ρ Q X st v m1 p pos h
 intros B nm nN n sc ρ Q X st v m1 p pos h;refine⟨?_⟩;intros c s φ O hsc S F;refine Subscript_ ?_;refine wpAny_mono (h.run c s φ O hsc S F) ?_ fun z z y=>y;intros o s₁ p4_;obtain⟨φ₁,st₁,S₁,g₁,a,ra,h1⟩:_:=p4_;refine wpAny_Slice ?_;rw[evalPart_none,evalPart_some];refine wpAny_pure (wpAny_pure ?_);refine wpAny_mono (h1.run c s₁ φ₁ O hsc S₁ (F.go O g₁)) ?_ fun z z y=>y.after g₁;intros k s₃ p5_;obtain⟨φ₃,st₃,S₃,g₃,b,rk,rfl,m,xs,rfl,hm,hz,hq⟩:_:=p5_;obtain⟨t,rfl⟩:_:=zS rk;have hk:∀b ob,s₃.heap.get? b=some ob->(s₃.heap.push { cls:=.type "slice",data:=.fields #[.none,.none,.int (-1) t] }).get? b=some ob:=fun b ob e=>Heap.get?_push_of_some _ e;have S₄:SR B { s₃ with heap:=s₃.heap.push { cls:=.type "slice",data:=.fields #[.none,.none,.int (-1) t] },toks:=s₃.toks } φ₃ c.P st₃:=S₃.grow hk;have g₄:Go c.P [] s.heap φ (s₃.heap.push { cls:=.type "slice",data:=.fields #[.none,.none,.int (-1) t] }) φ₃:=(g₁.trans g₃).trans (Go.of_keep hk);have ra₄:=ra.go (g₃.trans (Go.of_keep hk));obtain⟨bx,hb,rfl⟩:_:=zJ ra₄;obtain⟨vs,kk,hli,rs⟩:_:=S₄.listAt hb hm;have hL:=IsList.of_plain hli;refine after (s':={ s₃ with heap:=s₃.heap.push { cls:=.type "slice",data:=.fields #[.none,.none,.int (-1) t] },toks:=s₃.toks }) g₄ (v6 (jg (s:={ s₃ with heap:=s₃.heap.push { cls:=.type "slice",data:=.fields #[.none,.none,.int (-1) t] },toks:=s₃.toks }) hL.typeIs list_getitem_lookup ?_ rfl));refine wpAny_getItem_list_slice hL (Heap.IsSliceOf.new ..) .none .none (.int (-1) t) (nofun) ?_ (by rw[List.size_toArray,rs.length,sizeLine_eq];exact hz);rw[krv_pick];exact wd (t:=s₃.toks) S₄ rs.reverseL hq
structure InfoOk (B:Base):Prop where
 inK:B.K.In B.H₀
 get:findIn B.K (.ref B.cInfo) "__getattribute__"=some (some (.builtin "object.__getattribute__"))
 attrs:∀x∈zI,findIn B.K (.ref B.cInfo) x=some none
 dict:hasDictIn B.K B.cInfo=true
theorem Ru (I:InfoOk B) {o:Expr} {k:Nat} {x:Str} {pos:Pos} (hx:zI[k]?=some x) (hbase:∀env,attributeBase o x env (eval o env)=eval o env)
  (h:WE B nm nN n sc o ρ (fun a st₁=>∃l b,a = .info l/\l[k]?=some b/\Q b st₁) X st):WE B nm nN n sc (.Attribute o x pos) ρ Q X st:=by
 revert B nm nN n sc ρ Q X st I o k x pos hx hbase h
 intros B nm nN n sc ρ Q X st I o k x pos hx hbase h;refine⟨?_⟩;intros c s φ O hsc S F;rw[arm_eval_Attribute,hbase];refine wpAny_bind (wpAny_mono (h.run c s φ O hsc S F) ?_ fun z z y=>y);intros v s₁ p6_;obtain⟨φ₁,st₁,S₁,g₁,a,ra,l,b,rfl,hb,hq⟩:_:=p6_;refine wpAny_bind (wpAny_standAt (wpAny_bind (wpAny_holding ?_)));obtain⟨xa,vs,rfl,⟨dx,ox,od,a1,a2,a3,a4,a5,a6,a7,a8,a9,a10⟩,rs⟩:_:=ra;obtain⟨w,hw,hlk⟩:_:=a10 k x hx;obtain⟨w',hw',rw_⟩:_:=rs.get' hb;rw[hw]at hw';cases hw';have IA:InstAt s₁.heap xa ox B.cInfo (some od):=⟨a5,a6,a8.1,by rw[a7];exact a9⟩;refine get_value (K:=B.K) (I.inK.keeps S₁.base) IA I.get (findObj_own I.dict (I.attrs x (List.mem_of_getElem? hx)) rfl hlk) ?_ ?_
 ·cases b with
  | none=>subst rw_;rfl
  | bool=>subst rw_;rfl
  | int=>apply zO (rw_);intro t;rfl
  | str=>apply zO (rw_);intro t;rfl
  | bytes=>apply zO (rw_);intro t;rfl
  | tup=>apply ZJ (rw_);intro t _ _;rfl
  | info=>apply ZJ (rw_);intro t _ _;rfl
  | clist=>apply ZJ (rw_);intro t _ _;rfl
  | ref=>obtain⟨t,_,rfl⟩:=rw_;rfl
 ·refine wpAny_bind (wpAny_letTemporaryGo (wpAny_pure ?_));have e:Po B c.P s₁.heap φ₁ (Val B c.P Q) w { s₁ with heap:=s₁.heap,toks:=s₁.toks+1 }:=zE S₁ ⟨b,rw_,hq⟩;exact e.after g₁
end
noncomputable def w7 (B:Base) (f:Value) (as:List AV) (Q:AV->St->Prop) (st:St):Prop :=
 ∀(A:Around) (P:List Addr) (s:Shared) (φ:List Addr) (vs:List Value),A.handled=none->A.units+100<=cLine->SR B s φ P st->VRs B s.heap φ P as vs ->
  wpAny (model B.prog B.w) A (PySem.call f vs) (Po B P s.heap φ (Val B P Q)) (fun z z=>False) s
section
variable {B:Base} {nm:Nat->Str} {nN n:Nat} {sc:Scope} {ρ:Rho} {Q X:AV->St->Prop} {st:St}
theorem Vs {f:Value} {as:List AV} (h:w7 B f as Q st):jI B nm nN n f as Q X st:=by
 intro c s φ ρ vs O S F ras;exact v6 (h c.A c.P s φ vs O.handled O.room S ras)
theorem ui {m:Nat} {xs:List AV} (hm:st[m]?=some (.list xs)) (hz:xs.length<=16777216) (h:Q (.ref st.length) (st++[.list xs])):w7 B (.type "list") [.ref m] Q st:=by
 revert B Q st m xs hm hz h
 intros B Q st m xs hm hz h;intros A P s φ vs hh hu S ras;obtain⟨v,rfl,ra⟩:_:=yQ ras;obtain⟨b,hb,rfl⟩:_:=zJ ra;obtain⟨vs,kk,hl,rs⟩:_:=S.listAt hb hm;refine call_list_seq b (.inl rfl) hl rfl rfl (?_) (by rw[List.size_toArray,rs.length,sizeLine_eq];exact hz);intros h' c' hk hn;obtain⟨S',g⟩:_:=S.more (o:=default) (o':=.list xs) (t:=s.toks) hk ⟨_,hn⟩ fun g=>⟨vs,c',hn,rs.go g⟩;exact⟨_,_,S',g,.ref st.length,by exact⟨_,by rw[<-S.len];exact gn,rfl⟩,h⟩
theorem YZ {xs:List AV} (hz:xs.length<=16777216) (h:Q (.ref st.length) (st++[.list xs])):w7 B (.type "list") [.tup xs] Q st:=by
 revert B Q st xs hz h
 intros B Q st xs hz h;intros A P s φ vs hh hu S ras;obtain⟨v,rfl,ra⟩:_:=yQ ras;obtain⟨b,vs,rfl,h1,h2,⟨o,ho,hc,nn,hd⟩,rs⟩:_:=ra;refine call_list_seq b (.inr rfl) ho hc hd (?_) (by rw[List.size_toArray,rs.length,sizeLine_eq];exact hz);intros h' c' hk hn;obtain⟨S',g⟩:_:=S.more (o:=default) (o':=.list xs) (t:=s.toks) hk ⟨_,hn⟩ fun g=>⟨vs,c',hn,rs.go g⟩;exact⟨_,_,S',g,.ref st.length,by exact⟨_,by rw[<-S.len];exact gn,rfl⟩,h⟩
theorem vR (hB:BOk B) {m ep:Nat} {kvs:List (List UInt8×AV)} (hm:st[m]?=some (.dictB ep kvs)) (hz:kvs.length<=16777216) (h:∀ep,Q (.ref st.length) (st++[.dictB ep kvs])):w7 B (.type "dict") [.ref m] Q st:=by
 revert B Q st hB m ep kvs hm hz h
 intros B Q st hB m ep kvs hm hz h;intros A P s φ vs hh hu S ras;obtain⟨v,rfl,ra⟩:_:=yQ ras;obtain⟨b,hb,rfl⟩:_:=zJ ra;obtain⟨ws,hd,rs⟩:_:=S.objs m b _ hb hm
 have hlen:((kvs.map (fun x=>x.1)).zip ws).length=kvs.length:=by simp[rs.length]
 refine kt_call_dict (S.notSys hB (List.mem_of_getElem? hb)) hd.dictOf (by rw[hlen,sizeLine_eq];exact hz) ?_;intros h' hd' hsb;obtain⟨ep',hd''⟩:_:=hd'.dictAt;have hk:∀b o,s.heap.get? b=some o->h'.get? b=some o:=fun b o e=>(hsb.2 b (Nat.ne_of_lt (Heap.lt_size e))).trans (Heap.get?_push_of_some _ e);have hn:∃o,h'.get? s.heap.objs.size=some o:=wL (hd'') fun o zy e zy=>⟨o,e⟩;obtain⟨S',g⟩:_:=S.more (o:=default) (o':=.dictB ep' kvs) (t:=s.toks) hk hn fun g=>⟨ws,hd'',rs.go g⟩;exact⟨_,_,S',g,.ref st.length,by exact⟨_,by rw[<-S.len];exact gn,rfl⟩,h ep'⟩
end
noncomputable def Vz (B:Base):List (Value×AV)->List AV->(AV->St->Prop)->St->Prop
 | [],acc,Q,st=>Q (.info acc) st
 | (f,a)::r,acc,Q,st=>w7 B f [a] (fun b st'=>Vz B r (acc++[b]) Q st') st
inductive v_:List (Str×Str)->List Stmt->Prop
 | nil:v_ [] []
 | cons {k f:Str} {p1 p2 p3 p4 p5 p6:Pos} {r:List (Str×Str)} {b:List Stmt}:v_ r b->v_ ((k,f)::r) (.Assign [.Attribute (.Name "self" p1) k p2] (.Call (.Name f p3) [.Name k p4] [] p5) p6::b)
noncomputable def nmI:Nat->Str:=fun i=>(zI[i]?).getD "self"
theorem Qy:u3 nmI 6:=by
 intro i j hi hj h
 have:∀i<6,∀j<6,nmI i=nmI j->i=j:=by decide
 exact this i hi j hj h
noncomputable def t6:List (Str×NameKind):=[("self",NameKind.local),("names",NameKind.local),("booleans",NameKind.local),("numbers",NameKind.local),("strings",NameKind.local),("more",NameKind.local),("uses",NameKind.local),("list",NameKind.globalImplicit),("dict",NameKind.globalImplicit)]
noncomputable def ub (x:Value) (vs:List Value):List (Str×Value):=("self",x)::zI.zip vs
noncomputable def Xm:List (Str×Str):=[("names","list"),("booleans","dict"),("numbers","dict"),("strings","dict"),("more","dict"),("uses","list")]
structure jF (B:Base):Prop extends InfoOk B where
 obj:∃nm q N mN bs sn sub ab col dd k0 k1 k2 k3 k5,B.H₀.get? B.cInfo=some (excClassObj nm q B.cInfo N bs [.type "object"] true sn sub ab col dd k0 k1 k2 k3 k5 "object.__new__")/\B.H₀.Ns N mN/\mN "__setattr__"=none /\ ∀x∈zI,mN x=none
 makes:makesIn B.K B.cInfo=true
 init:∃fI fd body T0,findIn B.K (.ref B.cInfo) "__init__"=some (some (.ref fI))/\typeIn B.K (.ref fI)=some (.type "function")/\XR B fI fd body /\
  v_ Xm body /\
  (∀s:Shared,(∀b o,B.H₀.get? b=some o->s.heap.get? b=some o)->∀x a b c d e:Value,BindsTo s fd ⟨[x,a,b,c,d,e],[]⟩ (ub x [a,b,c,d,e,.ref T0])) /\
  fd.scope.names=t6 /\
  IsTup B.H₀ T0 #[]
 list:xl B "list" (.type "list")
 dict':xl B "dict" (.type "dict")
section
variable {B:Base}
theorem FR.goX {nm:Nat->Str} {nN n:Nat} {h h':Heap} {φ φ' ex:List Addr} {c:Cx} {ρ:Rho} (O:c.Ok n) (F:FR B nm nN h φ c ρ) (g:Go c.P ex h φ h' φ')
  (hex:∀b∈ex,b≠c.env.locals/\(∀x,c.env.cells.lookup x≠some b)/\(∀fr,c.A.frames=some fr->∀e∈fr,e.frame≠some b)):FR B nm nN h' φ' c ρ :=
 F.map g.mp rfl rfl fun b o hb e z=>g.prot b o e (O.frA hb) fun q=>hb.elim (fun h=>(hex _ q).1 h) fun h=>h.elim (fun zz=>zX zz fun x h=>(hex _ q).2.1 x h) fun ⟨fr,hf,e,he,hL⟩=>(hex _ q).2.2 fr hf e he hL
end
theorem sx {A:Around} {C:Addr} {vs:List Value} {fr:List Env} (h:A.frames=some fr):(A.under (.builtin "type.__call__" ⟨.ref C::vs,[]⟩)).frames=some fr:=by
 show pushEnvs (Code.envs (.builtin "type.__call__" ⟨.ref C::vs,[]⟩)) A.frames=some fr;rw[h]
 have:Code.envs (.builtin "type.__call__" ⟨.ref C::vs,[]⟩)=[]:=by kernel_rfl
 rw[this];rfl
theorem sZ (A:Around) (C:Addr) (vs:List Value):(A.under (.builtin "type.__call__" ⟨.ref C::vs,[]⟩)).units<=A.units+10:=by
 have:Code.cUnits (.builtin "type.__call__" ⟨.ref C::vs,[]⟩)=1:=by kernel_rfl
 exact Nat.add_le_add_left (by rw[this];decide) _
theorem Wx:∀x∈zI,typeLookup (.type "object") x=pure none:=by
 intro x hx;simp only[zI,List.mem_cons,wE,or_false]at hx
 rcases hx with rfl | rfl | rfl | rfl | rfl | rfl<;>(rw[typeLookup_type,builtinLookup_eq_fast];kernel_rfl)
inductive jw (B:Base) (ρ:Rho):Nat->List (Str×Str)->List (Value×AV)->Prop
 | nil {i}:jw B ρ i [] []
 | cons {i k f fv a r rs}:zI[i]?=some k->nmI i=k->i<6->ρ.get i=some a->xl B f fv->sM B fv->t6.lookup f=some .globalImplicit->(f==("__debug__":Str))=false->(k==("__debug__":Str))=false->(k==("__classdict__":Str))=false ->
   jw B ρ (i+1) r rs->jw B ρ i ((k,f)::r) ((fv,a)::rs)
section
variable {B:Base} {n:Nat} {sc:Scope} {ρ:Rho} {Q:AV->St->Prop}
structure Ws (B:Base) (h:Heap) (φ P:List Addr) (x dx:Addr) (acc:List AV):Prop where
 obj:h.get? x=some (instObj B.cInfo dx)
 dict:∃mA vs,h.Ns1 dx mA/\Within mA zI/\VRs B h φ P acc vs /\ ∀(i:Nat) (k:Str) (v:Value),zI[i]?=some k->vs[i]?=some v->mA k=some v
 outφ:x∉φ
 outP:x∉P
 inP:dx∈P
theorem Ws.go {h h':Heap} {φ φ' P ex:List Addr} {x dx:Addr} {acc:List AV} (H:Ws B h φ P x dx acc) (g:Go P ex h φ h' φ') (hx:dx∉ex):Ws B h' φ' P x dx acc:=by
 refine uR (H.dict) fun mA vs n3z hw rs hv=>?_;refine Uh (n3z) fun o es ep ho r=>?_;try clear n3z;refine zX (g.prot dx o ho H.inP hx) fun sl e=>?_;exact⟨g.keep _ _ H.obj H.outφ H.outP,⟨mA,vs,(Qw _ es ep e r),hw,rs.go g,hv⟩,g.notMem H.outφ H.obj,H.outP,H.inP⟩
theorem VI {h h':Heap} {x dx:Addr} {k:Str} {v:Value} {mA:Str->Option Value} (hobj:h.get? x=some (instObj B.cInfo dx)) (hxdx:dx≠x) (I':h'.Inst x B.cInfo fun y=>if y=k then some v else mA y)
  (hkeep:∀b o,b≠x->(∀o0 d,h.get? x=some o0->o0.dict=some d->b≠d)->h.get? b=some o->h'.get? b=some o)
  (hsame:∀o0,h.get? x=some o0->∃o1,h'.get? x=some o1/\o1.cls=o0.cls/\o1.data=o0.data/\o1.slots=o0.slots /\ ∀d,o0.dict=some d->o1.dict=some d) :
  (∀b o,b≠dx->h.get? b=some o->h'.get? b=some o)/\h'.Ns1 dx (fun y=>if y=k then some v else mA y):=by
 have keep':∀b o,b≠dx->h.get? b=some o->h'.get? b=some o:=fun b o hb e=>by
  by_cases q:b=x
  ·rw[q]at e ⊢;rw[hobj]at e;refine QF (hsame _ hobj) fun o1 e1 e2 e3 e4 e5=>?_;have e6:=e5 dx rfl;rw[e1,<-e];cases o1;cases e2;cases e3;cases e4;cases e6
   rfl
  ·exact hkeep b o q (fun o0 d' e1 e2=>by rw[hobj]at e1;cases e1;cases e2;exact hb) e
 refine⟨keep',?_⟩;refine Y6 (I') fun o e1 e2 e3 e4=>?_;try clear I';rw[keep' x _ (Ne.symm hxdx) hobj]at e1;cases e1
 rcases e4 with ⟨e4,_⟩ | ⟨d',e4,_,e5⟩
 ·cases e4
 ·cases e4;exact e5
theorem TQ {h':Heap} {φ P:List Addr} {dx:Addr} {k:Str} {v:Value} {bv:AV} {mA:Str->Option Value} {vs:List Value} {acc:List AV} {i:Nat} (hk:zI[i]?=some k) (hnm:nmI i=k) (hi6:i<6) (hlen:vs.length=i)
  (hA':h'.Ns1 dx (fun y=>if y=k then some v else mA y)) (hWi:Within mA zI) (rs:VRs B h' φ P (acc++[bv]) (vs++[v])) (hv:∀(i:Nat) (k:Str) (v:Value),zI[i]?=some k->vs[i]?=some v->mA k=some v) :
  ∃mA vs,h'.Ns1 dx mA/\Within mA zI/\VRs B h' φ P (acc++[bv]) vs /\ ∀(i:Nat) (k:Str) (v:Value),zI[i]?=some k->vs[i]?=some v->mA k=some v:=by
 refine Wh _ (vs++[v]) hA' (fun y hy=>?_) rs (fun j k' u hj hu=>?_)
 ·by_cases q:y=k
  ·rw[q];exact List.mem_of_getElem? hk
  ·exact hWi y (fun e=>hy ((if_neg q).trans e))
 ·by_cases q:j<vs.length
  ·rw[List.getElem?_append_left q]at hu
   have hne:k'≠k:=fun e=>by
    have hj6:j<6:=(List.getElem?_eq_some_iff.mp hj).1;have:=Qy j i hj6 hi6 (by rw[hnm,<-e];unfold nmI;rw[hj];rfl);exact Nat.ne_of_lt q (this.trans hlen.symm)
   exact(if_neg hne).trans (hv j k' u hj hu)
  ·have q':=Nat.le_of_not_lt q;rw[List.getElem?_append_right q']at hu;have hj0:j-vs.length=0:=Nat.lt_one_iff.mp (List.getElem?_eq_some_iff.mp hu).1;have hji:j=i:=(Nat.le_antisymm (Nat.sub_eq_zero_iff_le.mp hj0) q').trans hlen;rw[hj0]at hu;rw[hji,hk]at hj;cases hj;cases hu;exact if_pos rfl
set_option tactic.hygienic true in
theorem Uw (hI:jF B) {c:Cx} (O:c.Ok n) (hs:c.env.scope=sc) (hnames:sc.names=t6) {x dx:Addr} (hdx:dx∈c.P₀) (hcells:c.env.cells=[]) (hown:c.own=[c.env.locals])
  (hfr:∀fr,c.A.frames=some fr->∀e∈fr,e.frame≠some dx) :
  ∀{i:Nat} {ks:List (Str×Str)} {rs:List (Value×AV)} {body:List Stmt},jw B ρ i ks rs->v_ ks body->∀{s:Shared} {φ:List Addr} {st:St} {acc:List AV},acc.length=i->SR B s φ c.P st->FR B nmI 6 s.heap φ c ρ->(∃m,s.heap.Ns c.env.locals m/\m "self"=some (.ref x))->Ws B s.heap φ c.P x dx acc ->
   Vz B rs acc Q st ->
   wpAny (model B.prog B.w) c.A (execs body c.env) (fun fl s'=>fl = .next /\ ∃φ' st' l,SR B s' φ' c.P st'/\Go c.P [dx] s.heap φ s'.heap φ'/\Ws B s'.heap φ' c.P x dx l/\l.length=i+rs.length/\Q (.info l) st') (fun z z=>False) s:=by
 intro i ks rs body hat
 induction hat generalizing body with
 | nil =>
  intro hst s φ st acc hl S FF hself H hW;cases hst;exact wpAny_execs_nil ⟨rfl,φ,st,acc,S,Go.refl ..,H,hl,hW⟩
 | @cons i k f fv a r rs hk hnm hi6 hρ hg hK hf hfd hkd hkc hr ih =>
  intro hst s φ st acc hl S FF hself H hW;cases hst;rename_i p1 p2 p3 p4 p5 p6 b hb;have hdown:dx∉c.own:=fun q=>O.apart dx q hdx
  have hval:WE B nmI 6 n sc (.Call (.Name f p3) [.Name (nmI i) p4] [] p5) ρ (fun b st'=>Vz B rs (acc++[b]) Q st') noX st :=
   qX (by rw[hnames];exact hf) hfd hg hK (fun env=>rfl) (zM (fun env=>rfl) (TK (by rw[hnm];exact hkd) (by rw[hnm];exact hkc) hρ (zA (Vs hW))))
  rw[hnm]at hval;refine wpAny_execs_cons (plainObj_wpAny_Assign_Attribute ?_);refine wpAny_mono (hval.run c s φ O hs S FF) ?_ fun z z y=>(ZD y).elim;intro v s₁ p1z;refine xH (p1z) fun φ₁ st₁ S₁ g₁ n4z=>?_;try clear p1z;refine zn (n4z) fun bv rv hW1=>?_;try clear n4z;have F₁:=FF.go O g₁;have H₁:=H.go g₁ (wE);refine zn (hself) fun m hm hms=>?_;try clear hself;have hm1:s₁.heap.Ns c.env.locals m:=XN hm fun o e=>g₁.prot _ o e (List.mem_append_left _ O.locals) (wE)
  have kself:c.env.kindOf "self"=some .local:=by unfold Env.kindOf;rw[hs,hnames];rfl
  refine wpAny_Name (wpAny_loadName_local O.kind kself hm1 hms ?_) (by decide);refine VW (hI.obj) fun cn q N mN bs sn sub n5z=>?_;refine VW (n5z) fun ab col dd k0 k1 k2 k3 n7z=>?_;try clear n5z;refine Y6 (n7z) fun k5 hC hN hNs hNa=>?_;try clear n7z;refine uR (H₁.dict) fun mA vs hA hWi rs_ hv=>?_;have hkm:=List.mem_of_getElem? hk;have hobj:=H₁.obj
  have hxC:x≠B.cInfo:=fun e=>by
   have h1:=S₁.base _ _ hC;rw[<-e,hobj]at h1;cases h1
  have hxdx:dx≠x:=fun e=>H₁.outP (e▸H₁.inP);have Inst:s₁.heap.Inst x B.cInfo mA:=⟨_,hobj,rfl,(fun c q=>by cases q),Or.inr ⟨dx,rfl,hxdx,hA⟩⟩;refine store_attr (A:=c.A) F.store_object (S₁.base _ _ hC) (hN.keeps S₁.base) hNs (hNa k hkm) (Wx k hkm) hxC Inst (fun h' tk' I' hkeep hsame=>?_) hWi (by decide);refine xn (VI hobj hxdx I' hkeep hsame) fun keep' hA'=>?_;have inP:dx∈c.P:=List.mem_append_right _ hdx
  have g₂:Go c.P [dx] s₁.heap φ₁ h' φ₁:=by
   refine⟨fun b o e h1 h2=>keep' b o (fun q=>h2 (q▸inP)) e,fun b o e h1 h2=>⟨o.slots,keep' b o (fun q=>h2 (q ▸ .head _)) e⟩,fun b o e=>?_,[],(List.append_nil _).symm,fun z q=>(wE q).elim⟩
   by_cases q:b=dx
   ·rw[q];obtain⟨o',_,_,e',_⟩:=hA';exact⟨o',e'⟩
   ·exact⟨o,keep' b o q e⟩
  have S₂:SR B { s₁ with heap:=h',toks:=tk' } φ₁ c.P st₁:=S₁.go_same g₂ fun b hb=>by
   refine zX (S₁.memDom hb) fun o e=>?_;exact(keep' b o (fun q=>S₁.apart b hb (q▸inP)) e).trans e.symm
  have F₂:FR B nmI 6 h' φ₁ c ρ:=F₁.goX O g₂ fun b hb=>by
   rw[List.mem_singleton.mp hb];exact⟨fun q=>hdown (by rw[hown,<-q];exact .head _),fun y=>by rw[hcells];exact nofun,hfr⟩
  have hdl:c.env.locals≠dx:=fun q=>hdown (by rw[hown,<-q];exact .head _)
  have hm2:h'.Ns c.env.locals m:=by
   refine Uh (hm1) fun o es ep e r=>?_;try clear hm1;exact⟨o,es,ep,keep' _ _ hdl e,r⟩
  have H2:Ws B h' φ₁ c.P x dx (acc++[bv]) :=
   ⟨keep' _ _ (Ne.symm hxdx) hobj,TQ hk hnm hi6 (by rw[rs_.length,hl]) hA' hWi ((rs_.go g₂).append (⟨v,[],rfl,rv.go g₂,by exact rfl⟩)) hv,H₁.outφ,H₁.outP,inP⟩
  refine wpAny_mono (ih hb (by rw[List.length_append,hl];rfl) S₂ F₂ ⟨m,hm2,hms⟩ H2 hW1) ?_ fun z z y=>y;intro fl s' p2z;refine xn (p2z) fun e n6z=>?_;try clear p2z;refine Ty (n6z) fun φ' st' l S' g' H' hl' hq=>?_;try clear n6z;refine⟨e,φ',st',l,S',(g₁.weak.trans g₂).trans g',H',?_,hq⟩;rw[hl',List.length_cons,Nat.add_assoc,Nat.add_comm 1]
end
section
variable {B:Base} {nm:Nat->Str} {nN n:Nat} {sc:Scope} {ρ:Rho} {Q X:AV->St->Prop} {st:St}
theorem Wd {ks:List Str} {vs:List Value} {k:Str} {v:Value} {i:Nat} (hnd:ks.Nodup) (h1:ks[i]?=some k) (h2:vs[i]?=some v):(ks.zip vs).reverse.lookup k=some v:=by
 induction ks generalizing vs i with
 | nil=>exact nomatch h1
 | cons a r ih =>
  cases vs with
  | nil=>exact h2
  | cons u us =>
   rw[List.nodup_cons]at hnd;rw[List.zip_cons_cons,List.reverse_cons,List.lookup_append]
   cases i with
   | zero =>
    simp at h1 h2;subst h1 h2
    have:((r.zip us).reverse).lookup a=none:=by
     rw[List.lookup_eq_none_iff];intro p hp;have hm:p.1∈r:=(List.of_mem_zip (List.mem_reverse.mp hp)).1;have:a≠p.1:=fun q=>hnd.1 (q▸hm);simpa using this
    rw[this];simp
   | succ i =>
    rw[ih hnd.2 (by simpa using h1) (by simpa using h2)];rfl
theorem Ud (hB:BOk B) (hI:jF B) {a b c d e:AV}
  (h:Vz B [(.type "list",a),(.type "dict",b),(.type "dict",c),(.type "dict",d),(.type "dict",e),(.type "list",.tup [])] [] Q st):jI B nm nN (n+1) (.ref B.cInfo) [a,b,c,d,e] Q X st:=by
 intro c0 s φ ρ vs O S F ras;refine Pm (hI.init) fun fI fd body T0 hi hf hfn hbody hbind hnames hT0=>?_;refine zn (hfn.at_) fun oI hoI hdI=>?_
 obtain⟨v1,v2,v3,v4,v5,rfl,r1,r2,r3,r4,r5⟩:∃v1 v2 v3 v4 v5,vs=[v1,v2,v3,v4,v5]/\VR B s.heap φ c0.P a v1/\VR B s.heap φ c0.P b v2/\VR B s.heap φ c0.P c v3/\VR B s.heap φ c0.P d v4/\VR B s.heap φ c0.P e v5:=by
  apply uL (ras);intro v1 t h1 h2
  try clear ras
  apply uL (h2);intro v2 t h2' h3
  try clear h2
  apply uL (h3);intro v3 t h3' h4
  try clear h3
  apply uL (xw h4);intro v4 v5 h5 h6
  exact QX v1 v2 v3 v4 v5 rfl h1 h2' h3' h5 h6
 refine xH (O.frs F) fun fenv outer hfr hff hfo=>?_;have hX:=hI.inK.keeps S.base;obtain⟨hp,g,dr,tk,os⟩:=s;refine wpAny_call (make_core (makes_of hX hI.makes) (looks_findIn hX hi) (fun self=>bind_fn hX self hf) (.inl rfl) ?_);generalize hdx:hp.objs.size=dx;generalize hh1:(hp.push emptyDict).push (instObj B.cInfo dx)=h₁
 have kh:∀b o,hp.get? b=some o->h₁.get? b=some o:=fun b o z=>by rw[<-hh1];exact Heap.get?_push_of_some _ (Heap.get?_push_of_some _ z)
 have hdx1:h₁.get? dx=some emptyDict:=by rw[<-hh1,<-hdx];exact Heap.get?_push_of_some _ (Heap.get?_push_size _ rfl)
 have hx1:h₁.get? (dx+1)=some (instObj B.cInfo dx):=by
  rw[<-hh1];have:=Heap.get?_push_size (hp.push emptyDict) (o:=instObj B.cInfo dx) rfl;rw[Heap.size_push,hdx]at this;exact this
 have hsz1:h₁.objs.size=dx+2:=by rw[<-hh1,Heap.size_push,Heap.size_push,hdx]
 have nodx:hp.get? dx=none:=by rw[<-hdx];exact yz hp
 have nox:hp.get? (dx+1)=none:=by
  cases q:hp.get? (dx+1)with
  | none=>rfl
  | some o=>have:=Heap.lt_size q;rw[hdx]at this;exact absurd this (Nat.not_lt.mpr (Nat.le_succ _))
 generalize hA':c0.A.under (.builtin "type.__call__" ⟨.ref B.cInfo::[v1,v2,v3,v4,v5],[]⟩)=A'
 have d1:A'.depth<=c0.A.depth+10:=by rw[<-hA'];exact j7 ..
 have d1':A'.depth<=c0.A.depth+1:=by
  rw[<-hA'];show c0.A.depth+Code.weight _<=_
  have:Code.weight (.builtin "type.__call__" ⟨.ref B.cInfo::[v1,v2,v3,v4,v5],[]⟩)=1:=by kernel_rfl
  exact F1 (Le this)
 have d2:A'.units<=c0.A.units+10:=by rw[<-hA'];exact sZ ..
 have d3:A'.frames=some (fenv::outer):=by rw[<-hA'];exact sx hfr
 have d4:A'.handled=none:=by rw[<-hA'];exact O.handled
 have hdep:=O.depth;have hun:=O.units
 refine codeAny_call_def (s:=⟨h₁,g,dr,tk,os⟩) (by unfold recursionLimit;exact F2 d1' hdep) (kh _ _ (S.base _ _ hoI)) hdI (hB.nolimit.keeps fun b o z=>kh _ _ (S.base _ _ z)) (hfn.code.keeps fun b o z=>kh _ _ (S.base _ _ z)) hfn.body
  (hbind ⟨h₁,g,dr,tk,os⟩ (fun b o z=>kh _ _ (S.base _ _ z)) (.ref (dx+1)) v1 v2 v3 v4 v5) (by rw[hnames];decide) (by rw[hnames];intro y hy;simp only[ub,zI,List.zip_cons_cons,List.zip_nil_left,List.mem_cons,wE,or_false]at hy;rcases hy with rfl | rfl | rfl | rfl | rfl | rfl | rfl<;>rfl) (fun h₂ hns hk2=>?_) hfn.co hfn.gen hfn.kind
 have hns:h₂.Ns (dx+2) (fun y=>List.lookup y (ub (.ref (dx+1)) [v1,v2,v3,v4,v5,.ref T0]).reverse):=by rw[<-hsz1];exact hns
 generalize henv:callEnv fd h₁.objs.size fI=env
 have eloc:env.locals=dx+2:=by rw[<-henv,<-hsz1];rfl
 have escope:env.scope=fd.scope:=by rw[<-henv];rfl
 have eframe:env.frame=some (dx+2):=by rw[<-henv,<-hsz1];rfl
 have ecells:env.cells=[]:=by rw[<-henv];exact hfn.closure
 have noL:hp.get? (dx+2)=none:=by
  cases q:hp.get? (dx+2)with
  | none=>rfl
  | some o=>have:=Heap.lt_size q;rw[hdx]at this;exact absurd this (Nat.not_lt.mpr (Nat.le_add_right _ _))
 have kk:∀b o,hp.get? b=some o->h₂.get? b=some o:=fun b o z=>hk2 _ _ (kh _ _ z);refine xn (S.out nodx) fun o1 o2=>?_;refine xn (S.out nox) fun x1 x2=>?_;refine xn (S.out noL) fun L1 L2=>?_
 let c':Cx:=⟨A'.deeper env,env,dx+2,[dx+2],dx::c0.P⟩
 refine RI (id hns) fun oL esL epL eoL edL w=>?_;have hframes:c'.A.frames=some (env::fenv::outer):=Around.frames_deeper d3
 have O':c'.Ok n:=by
  refine⟨d4,?_,?_,(zV env (fenv::outer) hframes eframe (fun e he=>?_)),by show env.scope.kind=_;rw[escope];exact hfn.kind,?_,?_,eframe,by show env.locals∈_;rw[eloc];exact List.mem_singleton.mpr rfl,fun y b e=>?_,fun b hb hq=>?_⟩
  ·show A'.depth+1+4*n<=900;exact F2 d1' hdep
  ·show A'.units+3+100*n+100<=cLine;exact F2 d2 hun
  ·rcases List.mem_cons.mp he with rfl | he
   ·exact⟨(by rw[escope,hfn.kind];intro q;exact nomatch q),dx+2,eframe,by simp[c',Cx.P]⟩
   ·refine xn (hfo e he) fun k1 n6z=>?_;refine uR (n6z) fun L o k2 k3 k4 k5=>?_;try clear n6z;exact⟨k1,L,k2,by simp only[c',Cx.P,List.mem_append,List.mem_cons];exact .inr (.inr (by simpa[Cx.P]using k5))⟩
  ·show env.globals=_;rw[<-henv];exact hfn.globals
  ·show env.builtins=_;rw[<-henv];exact hfn.builtins
  ·have e:List.lookup y env.cells=some b:=e;rw[ecells]at e;cases e
  ·obtain rfl:=List.mem_singleton.mp hb
   rcases List.mem_cons.mp hq with q | q
   ·exact absurd q (by show dx+2≠dx;exact Nat.ne_of_gt (Nat.lt_add_of_pos_right (by decide)))
   ·exact L2 q
 have hX':∀b∈[dx+2,dx],hp.get? b=none:=fun b hb=>by
  rcases List.mem_cons.mp hb with rfl | hb
  ·exact noL
  ·rw[List.mem_singleton.mp hb];exact nodx
 have S₁:SR B { (⟨hp,g,dr,tk,os⟩:Shared)with heap:=h₂,toks:=tk+(ub (.ref (dx+1)) [v1,v2,v3,v4,v5,.ref T0]).length } φ c'.P st:=S.wider (X:=[dx+2,dx]) kk hX' fun b hb=>by
  rcases List.mem_cons.mp hb with rfl | hb
  ·exact⟨oL,eoL⟩
  ·rw[List.mem_singleton.mp hb];exact⟨_,hk2 _ _ hdx1⟩
 have up:∀{a v},VR B hp φ c0.P a v->VR B h₂ φ c'.P a v:=fun r=>(r.wider (X:=[dx+2,dx]) hX').go (Go.of_keep (ex:=[]) kk)
 let as:List AV:=[a,b,c,d,e,.tup []]
 have T0v:VR B h₂ φ c'.P (.tup []) (.ref T0):=by
  refine yY (id hT0) fun o ho hc n7z=>?_;refine zX (n7z) fun nn hd=>?_;try clear n7z;refine⟨T0,[],rfl,fun q=>?_,fun q=>?_,(uG o (kk _ _ (S.base _ _ ho)) hc ⟨nn,hd⟩),rfl⟩
  ·have:=S₁.newφ _ q;rw[ho]at this;cases this
  ·have:=S₁.newP _ q;rw[ho]at this;cases this
 have F₁:FR B nmI 6 h₂ φ c' (Rho.of [0,1,2,3,4,5] as):=by
  refine⟨(zw _ (by show h₂.Ns env.locals _;rw[eloc];exact hns) (fun i av e=>?_)),fun x b e=>?_,fun fr' hf' e he L hL'=>?_⟩
  ·refine yY (Rho.of_get (is:=[0,1,2,3,4,5]) (as:=as) e) fun k h1 h2 w=>?_
   have hk6:k<6:=by simpa using(List.getElem?_eq_some_iff.mp h1).1
   have hki:i=k:=by
    have:∀k<6,([0,1,2,3,4,5]:List Nat)[k]?=some k:=by decide
    rw[this k hk6]at h1;cases h1;rfl
   subst hki;refine⟨hk6,?_⟩
   have hkk:∀j<6,t6.lookup (nmI j)=some .local:=by decide
   have hko:c'.env.kindOf (nmI i)=some .local:=by show env.kindOf _=_;unfold Env.kindOf;rw[escope,hnames];exact hkk i hk6
   rw[hko]
   have hnmk:zI[i]?=some (nmI i):=by
    have:∀j<6,zI[j]?=some (nmI j):=by decide
    exact this i hk6
   have all:VRs B h₂ φ c'.P as [v1,v2,v3,v4,v5,.ref T0]:=by
    exact zV v1 _ rfl (up r1) ⟨v2,_,rfl,up r2,v3,_,rfl,up r3,v4,_,rfl,up r4,v5,_,rfl,up r5,.ref T0,_,rfl,T0v,rfl⟩
   refine zn (all.at h2) fun v hv rv=>?_;refine zw v ?_ rv;unfold ub;rw[List.reverse_cons,List.lookup_append,Wd (by decide) hnmk hv]
   rfl
  ·have e:List.lookup x env.cells=some b:=e;rw[ecells]at e;cases e
  ·rw[hframes]at hf';cases hf'
   rcases List.mem_cons.mp he with rfl | he
   ·rw[eframe]at hL';cases hL';exact zw oL eoL (fun ws q=>by rw[edL]at q;cases q)
   ·refine xn (hfo e he) fun k1 n8z=>?_;refine uR (n8z) fun L' o k2 k3 k4 k5=>?_;try clear n8z;rw[hL']at k2;cases k2;exact zw o (kk _ _ k3) k4
 have H₁:Ws B h₂ φ c'.P (dx+1) dx []:=by
  refine⟨hk2 _ _ hx1,⟨fun w=>none,[],(Pn emptyDict (#[]) _ (hk2 _ _ hdx1) rfl (fun e he=>absurd he (by simp)) ?_ (fun w=>rfl)),fun y hy=>absurd rfl hy,rfl,fun i k v h1 h2=>by simp at h2⟩,x1,?_,by simp[c',Cx.P]⟩
  ·exact List.Pairwise.nil
  ·simp only[c',Cx.P,List.mem_append,List.mem_singleton,List.mem_cons]
   rintro (q | q | q)
   ·rcases q with q | q
    ·exact absurd q (Nat.ne_of_lt (Nat.lt_succ_self _))
    ·cases q
   ·exact absurd q (Nat.ne_of_gt (Nat.lt_succ_self _))
   ·exact x2 (by simpa[Cx.P]using q)
 have hself:∃m,h₂.Ns c'.env.locals m/\m "self"=some (.ref (dx+1)):=by
  refine zw _ (by show h₂.Ns env.locals _;rw[eloc];exact hns) ?_
  rfl
 have hfr':∀fr,c'.A.frames=some fr->∀e∈fr,e.frame≠some dx:=by
  intro fr' hf' e he q;rw[hframes]at hf';cases hf'
  rcases List.mem_cons.mp he with rfl | he
  ·rw[eframe]at q;exact absurd (Option.some.inj q) (Nat.ne_of_gt (Nat.lt_add_of_pos_right (by decide)))
  ·refine xn (hfo e he) fun k1 n9z=>?_;refine uR (n9z) fun L' o k2 k3 k4 k5=>?_;try clear n9z;rw[k2]at q;cases q;rw[nodx]at k3;cases k3
 have hat:jw B (Rho.of [0,1,2,3,4,5] as) 0 Xm [(.type "list",a),(.type "dict",b),(.type "dict",c),(.type "dict",d),(.type "dict",e),(.type "list",.tup [])] :=
  .cons rfl rfl (by decide) rfl hI.list (kept_type _) rfl (by decide) (by decide) (by decide) <| .cons rfl rfl (by decide) rfl hI.dict' (kept_type _) rfl (by decide) (by decide) (by decide) <|
  .cons rfl rfl (by decide) rfl hI.dict' (kept_type _) rfl (by decide) (by decide) (by decide) <| .cons rfl rfl (by decide) rfl hI.dict' (kept_type _) rfl (by decide) (by decide) (by decide) <|
  .cons rfl rfl (by decide) rfl hI.dict' (kept_type _) rfl (by decide) (by decide) (by decide) <| .cons rfl rfl (by decide) rfl hI.list (kept_type _) rfl (by decide) (by decide) (by decide) .nil
 refine wpAny_mono (Uw (c:=c') hI O' (sc:=fd.scope) escope hnames (List.mem_cons_self ..) ecells (by show [dx+2]=[env.locals];rw[eloc]) hfr' hat hbody rfl S₁ F₁ hself H₁ h) ?_ fun w w y=>y.elim;intro fl s' p1z;refine xn (p1z) fun q10z n11z=>?_;try clear p1z;subst q10z;refine Ty (n11z) fun φ' st' l S' g' H' hl hq=>?_;try clear n11z;refine⟨rfl,?_⟩;have gk:Go c0.P [] hp φ s'.heap φ':=Go.narrower (X:=[dx+2,dx]) g' kk hX' (by intro b hb;rw[List.mem_singleton.mp hb];simp);have S'':SR B s' φ' c0.P st':=SR.narrower (X:=[dx+2,dx]) S';refine uR (H'.dict) fun mA ws hA hWi rs hv=>?_;refine Ty (hA) fun od es ep ho hd w w hf=>?_;try clear hA;have dxp:dx∉φ':=fun q=>S'.apart dx q H'.inP;have rs':VRs B s'.heap φ' c0.P l ws:=VRs.narrower (X:=[dx+2,dx]) rs;refine zV φ' st' S'' gk ⟨.info l,?_,hq⟩;refine zV (dx+1) ws rfl (R4 dx _ od H'.outφ x2 dxp o2 H'.obj rfl rfl ⟨rfl,fun ws q=>by cases q⟩ ho (fun i k hk=>?_)) rs'
 have hi6:i<6:=by have:=(List.getElem?_eq_some_iff.mp hk).1;simpa[zI]using this
 have hwl:ws.length=6:=by rw[rs.length,hl];rfl
 have hw:ws[i]?=some ws[i]:=List.getElem?_eq_getElem (F2 hi6 (Re hwl));exact zw (ws[i]) hw (Zr hd ((hf k).trans (hv i k _ hk hw)))
end
set_option genInjectivity false in
structure DK (B:Base) (K K':Type) [DecidableEq K] [DecidableEq K'] where
 knd:KeyKind B.prog B.w K'
 f:K->K'
 inj:∀a b,f a=f b->a=b
 key:K->AV
 ao:Nat->List (K×AV)->AO
 is:∀{h:Heap} {φ P:List Addr} {k:K} {v:Value},VR B h φ P (key k) v->knd.is (f k) v=true
 ofIs:∀{h:Heap} {φ P:List Addr} {k:K} {v:Value},knd.is (f k) v=true->VR B h φ P (key k) v
 or_iff:∀{h:Heap} {φ P:List Addr} {a:Addr} {ep:Nat} {kvs:List (K×AV)},OR B h φ P a (ao ep kvs) ↔ ∃ws,h.DictAt knd a ((kvs.map fun p=>f p.1).zip ws) ep/\VRs B h φ P (kvs.map (fun x=>x.2)) ws
noncomputable def dkB (B:Base):DK B (List UInt8) (List UInt8) where
 knd:=bytesKind B.prog B.w
 f:=id
 inj:=fun z z e=>e
 key:=.bytes
 ao:=.dictB
 is:=fun e=>by apply zO (zF e);intro t;simp[bytesKind,isBytes]
 ofIs:=fun e=>by apply zO (isBytes_shape e);intro t;exact yV
 or_iff:=Iff.rfl
noncomputable def dkS (B:Base):DK B (List Nat) Str where
 knd:=PySem.strKind B.prog B.w
 f:=mkS
 inj:=fun z z e=>V5 e
 key:=.str
 ao:=.dictS
 is:=fun e=>by apply zO (xb e);intro t;exact if_pos rfl
 ofIs:=fun e=>by apply zO (Value.isStrOf_shape e);intro t;exact u4
 or_iff:=Iff.rfl
noncomputable def dkI (B:Base):DK B Int Int where
 knd:=intKind B.prog B.w
 f:=id
 inj:=fun z z e=>e
 key:=.int
 ao:=.dictI
 is:=fun e=>by apply zO (zS e);intro t;exact if_pos rfl
 ofIs:=fun e=>by apply zO (Value.isInt_shape e);intro t;exact yG
 or_iff:=Iff.rfl
section
variable {K:Type} [DecidableEq K]
noncomputable def yq (kvs:List (K×AV)) (k:K):Option AV:=(kvs.find? fun p=>p.1=k).map (fun x=>x.2)
noncomputable def yL (kvs:List (K×AV)) (k:K) (a:AV):List (K×AV):=if kvs.any (fun p=>p.1=k) then kvs.map (fun p=>if p.1=k then (p.1,a) else p) else kvs++[(k,a)]
noncomputable def yy (kvs more:List (K×AV)):List (K×AV):=more.foldl (fun acc p=>yL acc p.1 p.2) kvs
end
section
variable {B:Base} {K K':Type} [DecidableEq K] [DecidableEq K'] (D:DK B K K') {h:Heap} {φ P:List Addr}
theorem ZP {kvs:List (K×AV)} {ws:List Value} (rs:VRs B h φ P (kvs.map (fun x=>x.2)) ws) (k:K):match yq kvs k with
  | some a=>∃v,valueAt ((kvs.map fun p=>D.f p.1).zip ws) (D.f k)=some v/\VR B h φ P a v
  | none=>valueAt ((kvs.map fun p=>D.f p.1).zip ws) (D.f k)=none:=by
 induction kvs generalizing ws with
 | nil=>rfl
 | cons p r ih =>
  apply uL (rs);intro v t ra rt
  try clear rs;have ih:=ih rt;simp only[yq,valueAt,List.map_cons,List.zip_cons_cons,List.find?_cons]at ih ⊢
  by_cases hk:p.1=k
  ·subst hk;simp only[decide_true];exact⟨v,rfl,ra⟩
  ·have hk':¬D.f p.1=D.f k:=fun e=>hk (D.inj _ _ e);simp only[decide_eq_false hk,decide_eq_false hk'];exact ih
theorem RX {kvs:List (K×AV)} {ws:List Value} (hl:ws.length=kvs.length) (k:K):((kvs.map fun p=>D.f p.1).zip ws).any (fun kv=>decide (kv.1=D.f k))=kvs.any fun p=>decide (p.1=k):=by
 induction kvs generalizing ws with
 | nil=>rfl
 | cons p r ih =>
  cases ws with
  | nil=>exact nomatch hl
  | cons w ws =>
   simp only[List.map_cons,List.zip_cons_cons,List.any_cons];rw[ih (by simpa using hl)]
   congr 1
   by_cases hk:p.1=k
   ·subst hk;simp
   ·rw[decide_eq_false hk,decide_eq_false fun e=>hk (D.inj _ _ e)]
theorem TZ {kvs:List (K×AV)} {ws:List Value} {k:K} {a:AV} {v:Value} (rs:VRs B h φ P (kvs.map (fun x=>x.2)) ws) (ra:VR B h φ P a v) :
  ∃ws',stored ((kvs.map fun p=>D.f p.1).zip ws) (D.f k) v=((yL kvs k a).map fun p=>D.f p.1).zip ws'/\VRs B h φ P ((yL kvs k a).map (fun x=>x.2)) ws':=by
 have hl:ws.length=kvs.length:=by rw[rs.length,List.length_map]
 unfold stored yL;rw[RX D hl]
 by_cases hany:(kvs.any fun p=>decide (p.1=k))=true
 ·rw[if_pos hany,if_pos hany];clear hany
  induction kvs generalizing ws with
  | nil=>exact zw ([]) rfl (rfl)
  | cons p r ih =>
   refine xH (rs) fun u t q2z rb rt=>?_;try clear rs;subst q2z;refine zn (ih rt (by simpa using hl)) fun ws' e rws=>?_
   by_cases hk:p.1=k
   ·refine zw (v::ws') ?_ ?_
    ·simp only[List.map_cons,List.zip_cons_cons,hk,if_true,if_pos rfl];rw[e]
    ·simp only[List.map_cons,hk,if_true];exact zV v ws' rfl ra rws
   ·have hk':¬D.f p.1=D.f k:=fun e=>hk (D.inj _ _ e);refine zw (u::ws') ?_ ?_
    ·simp only[List.map_cons,List.zip_cons_cons,if_neg hk,if_neg hk'];rw[e]
    ·simp only[List.map_cons,if_neg hk];exact zV u ws' rfl rb rws
 ·rw[if_neg hany,if_neg hany];refine zw (ws++[v]) ?_ ?_
  ·rw[List.map_append,List.zip_append (by simp[hl])];rfl
  ·rw[List.map_append];exact rs.append (zV v ([]) rfl ra rfl)
theorem xC (kvs:List (K×AV)) (k:K) (a:AV):(yL kvs k a).length<=kvs.length+1:=by
 unfold yL
 split
 ·simp
 ·simp
end
section
variable {B:Base} {K K':Type} [DecidableEq K] [DecidableEq K'] (D:DK B K K') {Q X:AV->St->Prop} {st:St}
theorem DK.at (D:DK B K K') {s:Shared} {φ P:List Addr} (S:SR B s φ P st) {m ep:Nat} {kvs:List (K×AV)} {v:Value} (hm:st[m]?=some (D.ao ep kvs)) (rv:VR B s.heap φ P (.ref m) v) :
  ∃a ws,φ[m]?=some a/\v = .ref a/\s.heap.DictAt D.knd a ((kvs.map fun p=>D.f p.1).zip ws) ep/\VRs B s.heap φ P (kvs.map (fun x=>x.2)) ws:=by
 refine zn (zJ rv) fun a ha q3z=>?_;subst q3z;refine zn (D.or_iff.mp (S.objs m a _ ha hm)) fun ws hd rs=>?_;exact Wh a ws ha rfl hd rs
theorem z5 {m ep:Nat} {kvs:List (K×AV)} {k:K} {a:AV} (hm:st[m]?=some (D.ao ep kvs)) (hk:yq kvs k=some a) (h:Q a st):ZX B (.ref m) (D.key k) Q st:=by
 intro A P s φ v w hh hu S ra rk;refine uR (D.at S hm ra) fun b ws hb q4z hd rs=>?_;subst q4z;have hg:=ZP D rs k;rw[hk]at hg;refine zn (hg) fun u hu' ru=>?_;try clear hg;refine⟨(wm _ _ hd.dictOf.typeIs slot_dict_getitem.lookup),wpAny_getItem_of (knd:=D.knd) (D.is rk) hd.dictOf.mapOf hu' (zE S (zw a ru h))⟩
theorem Xl (hB:BOk B) {m ep:Nat} {kvs:List (K×AV)} {k:K} (hm:st[m]?=some (D.ao ep kvs)) (h:Q (.bool (yq kvs k).isSome) st):yl B (compareOp .In) (D.key k) (.ref m) Q st:=by
 intro A P s φ v w hh hu S rk ra;refine uR (D.at S hm ra) fun b ws hb q5z hd rs=>?_;subst q5z;have hg:=ZP D rs k;refine wpAny_in_of (knd:=D.knd) (D.is rk) (S.notSys hB (List.mem_of_getElem? hb)) hd.dictOf.mapOf ?_
 have:(valueAt ((kvs.map fun p=>D.f p.1).zip ws) (D.f k)).isSome=(yq kvs k).isSome:=by
  cases q:yq kvs k with
  | none=>rw[q]at hg;exact congrArg Option.isSome hg
  | some a=>rw[q]at hg;obtain⟨v,e,_⟩:=hg;rw[e];rfl
 rw[this];exact zE S ⟨_,ya,h⟩
theorem xd (hB:BOk B) {m ep:Nat} {kvs:List (K×AV)} {k:K} (hm:st[m]?=some (D.ao ep kvs)) (h:Q (.bool (!(yq kvs k).isSome)) st):yl B (compareOp .NotIn) (D.key k) (.ref m) Q st:=by
 intro A P s φ v w hh hu S rk ra;refine uR (D.at S hm ra) fun b ws hb q6z hd rs=>?_;subst q6z;have hg:=ZP D rs k;refine wpAny_notIn_of (knd:=D.knd) (D.is rk) (S.notSys hB (List.mem_of_getElem? hb)) hd.dictOf.mapOf ?_
 have:(valueAt ((kvs.map fun p=>D.f p.1).zip ws) (D.f k)).isSome=(yq kvs k).isSome:=by
  cases q:yq kvs k with
  | none=>rw[q]at hg;exact congrArg Option.isSome hg
  | some a=>rw[q]at hg;obtain⟨v,e,_⟩:=hg;rw[e];rfl
 rw[this];exact zE S ⟨_,ya,h⟩
noncomputable def Vw (B:Base) (o k v:AV) (Q:St->Prop) (st:St):Prop :=
 ∀(A:Around) (P:List Addr) (s:Shared) (φ:List Addr) (vo vk vv:Value),A.handled=none->A.units+100<=cLine->SR B s φ P st->VR B s.heap φ P o vo->VR B s.heap φ P k vk->VR B s.heap φ P v vv ->
  wpAny (model B.prog B.w) A (setItem vo vk vv) (Po B P s.heap φ (fun z z z st=>Q st)) (fun z z=>False) s
theorem uc {m ep:Nat} {kvs:List (K×AV)} {k:K} {a:AV} {Q:St->Prop} (hm:st[m]?=some (D.ao ep kvs)) (hz:kvs.length<=16777216) (h:∀ep',Q (st.set m (D.ao ep' (yL kvs k a)))):Vw B (.ref m) (D.key k) a Q st:=by
 intro A P s φ vo vk vv hh hu S ro rk rv;refine uR (D.at S hm ro) fun b ws hb q7z hd rs=>?_;subst q7z
 have hlen:((kvs.map fun p=>D.f p.1).zip ws).length=kvs.length:=by simp[rs.length]
 refine wpAny_setItem_pairs (knd:=D.knd) (D.is rk) hd.dictOf (fun h' hd' hsb=>?_) (by rw[hlen,sizeLine_eq];exact hz);refine zn (TZ D (k:=k) rs rv) fun ws' e rws=>?_;rw[e]at hd';refine zX (hd'.dictAt) fun ep' hd''=>?_;obtain⟨S',g⟩:=S.turn (o':=D.ao ep' (yL kvs k a)) (t:=s.toks+1) hb hsb (wL (hd'') fun o zy e zy=>⟨o,e⟩) fun g=>D.or_iff.mpr ⟨ws',hd'',rws.go g⟩;exact zV φ _ S' g (h ep')
variable {nm:Nat->Str} {nN n:Nat} {sc:Scope} {ρ:Rho} {R:Fl->Rho->St->Prop} {XS:AV->Rho->St->Prop}
theorem wh {o i value:Expr} {pos' pos:Pos} (hsw:∀env t l,swapsWith value t l env=pure false)
  (h:WE B nm nN n sc value ρ (fun v st₁=>WE B nm nN n sc o ρ (fun ov st2=>WE B nm nN n sc i ρ (fun iv st₃=>Vw B ov iv v (fun st4=>R .next ρ st4) st₃) (fun t st'=>XS t ρ st') st2) (fun t st'=>XS t ρ st') st₁) (fun t st'=>XS t ρ st') st) :
  WS B nm nN n sc (.Assign [.Subscript o i pos'] value pos) ρ R XS st:=by
 revert B st nm nN n sc ρ R XS o i value pos' pos hsw h
 intros B st nm nN n sc ρ R XS o i value pos' pos hsw h;refine⟨?_⟩;intros c s φ O hs S F;have toX:∀x s',Exc B c.P s.heap φ c.L (fun t st'=>XS t ρ st') x s'->ExS B nm nN c s.heap φ XS x s':=fun x s' y=>xG O.toOk F y;refine wpAny_Assign_Subscript ?_ (hsw ..);refine wpAny_mono (h.run c s φ O.toOk hs S F) ?_ toX;intros v s₁ p5_;obtain⟨φ₁,st₁,S₁,g₁,va,rv,h1⟩:_:=p5_;have F₁:=F.go O.toOk g₁;refine wpAny_mono (h1.run c s₁ φ₁ O.toOk hs S₁ F₁) ?_ fun x s' y=>toX x s' (y.after g₁);intros ov s₂ p6_;obtain⟨φ₂,st2,S₂,g₂,oa,ro,h₂⟩:_:=p6_;have F₂:=F₁.go O.toOk g₂;refine wpAny_mono (h₂.run c s₂ φ₂ O.toOk hs S₂ F₂) ?_ fun x s' y=>toX x s' (y.after (g₁.trans g₂));intros iv s₃ p7_;obtain⟨φ₃,st₃,S₃,g₃,ia,ri,h₃⟩:_:=p7_;have F₃:=F₂.go O.toOk g₃;refine wpAny_mono (h₃ c.A c.P s₃ φ₃ ov iv v O.handled O.toOk.room S₃ (ro.go g₃) ri (rv.go (g₂.trans g₃))) ?_ fun z z y=>y.elim;intros _ s₄ p8_;obtain⟨φ₄,st4,S₄,g₄,h4⟩:_:=p8_;exact yD φ₄ st4 ρ S₄ ((((g₁.trans g₂).trans g₃).trans g₄).weak) (F₃.go O.toOk g₄) h4
end
section
variable {B:Base} {nm:Nat->Str} {nN n:Nat} {sc:Scope} {ρ:Rho} {Q X:AV->St->Prop} {st:St}
noncomputable def WPs (B:Base) (nm:Nat->Str) (nN n:Nat) (sc:Scope):List (Expr×Expr)->Rho->(List (AV×AV)->St->Prop)->(AV->St->Prop)->St->Prop
 | [],ρ,Q,X,st=>Q [] st
 | (k,v)::r,ρ,Q,X,st=>WE B nm nN n sc k ρ (fun ka st₁=>WE B nm nN n sc v ρ (fun va st₂=>WPs B nm nN n sc r ρ (fun l st₃=>Q ((ka,va)::l) st₃) X st₂) X st₁) X st
inductive PRs (B:Base) (h:Heap) (φ P:List Addr):List (AV×AV)->List (Value×Value)->Prop
 | nil:PRs B h φ P [] []
 | cons {a b v w l m}:VR B h φ P a v->VR B h φ P b w->PRs B h φ P l m->PRs B h φ P ((a,b)::l) ((v,w)::m)
noncomputable def Vp (ps:List (Expr×Expr)) (pos:Pos) (env:Env):List (Sem Value×Sem Value):=ps.map fun p=>(eval p.1 env,do let x <-eval p.2 env;standAt pos;pure x)
theorem RO {c:Cx} {pos:Pos} (O:c.Ok n) (hs:c.env.scope=sc):∀{ps:List (Expr×Expr)} {Q:List (AV×AV)->St->Prop} {s:Shared} {φ:List Addr} {st:St},SR B s φ c.P st->FR B nm nN s.heap φ c ρ->WPs B nm nN n sc ps ρ Q X st ->
  wpAny (model B.prog B.w) c.A (evalPairs (Vp ps pos c.env)) (Po B c.P s.heap φ (fun vs h φ st'=>∃l,PRs B h φ c.P l vs/\Q l st')) (Exc B c.P s.heap φ c.L X) s
:=by
 intro ps
 induction ps with
 | nil=>exact fun S F h=>evalPairs_nil (z8 S ⟨[],.nil,h⟩)
 | cons p r ih =>
  cases p with
  | mk k v =>
  intro Q s φ st S F h;refine evalPairs_cons (wpAny_mono (h.run c s φ O hs S F) ?_ fun z z y=>y);intro kv s₁ h1;refine xH (h1) fun φ₁ st₁ S₁ g₁ h1=>?_;refine zn (h1) fun ka rk h1=>?_;have F₁:=F.go O g₁;refine wpAny_bind (wpAny_mono (h1.run c s₁ φ₁ O hs S₁ F₁) ?_ fun z z y=>y.after g₁);intro vv s₂ h₂;refine xH (h₂) fun φ₂ st2 S₂ g₂ h₂=>?_;refine zn (h₂) fun va rv h₂=>?_;refine wpAny_bind (wpAny_standAt (wpAny_pure ?_));refine wpAny_mono (ih S₂ (F₁.go O g₂) h₂) ?_ fun z z y=>y.after (g₁.trans g₂);intro vs s₃ h₃;refine xH (h₃) fun φ₃ st₃ S₃ g₃ h₃=>?_;refine zn (h₃) fun l rl h₃=>?_;exact zV φ₃ st₃ S₃ ((g₁.trans g₂).trans g₃) ⟨_,.cons (rk.go (g₂.trans g₃)) (rv.go g₃) rl,h₃⟩
variable {K K':Type} [DecidableEq K] [DecidableEq K'] (D:DK B K K')
theorem jd {h:Heap} {φ P:List Addr}:∀{more:List (K×AV)} {kvs:List (K×AV)} {ws us:List Value},VRs B h φ P (kvs.map (fun x=>x.2)) ws->VRs B h φ P (more.map (fun x=>x.2)) us ->
  ∃ws',merged ((kvs.map fun p=>D.f p.1).zip ws) ((more.map fun p=>D.f p.1).zip us)=((yy kvs more).map fun p=>D.f p.1).zip ws'/\VRs B h φ P ((yy kvs more).map (fun x=>x.2)) ws'
 | [],kvs,ws,us,rs,ru=>by
  subst ru;exact⟨ws,rfl,rs⟩
 | p::r,kvs,ws,us,rs,ru=>by
  apply uL (ru);intro u t rb rt
  obtain⟨ws',e,rws⟩:=TZ D (k:=p.1) rs rb;obtain⟨ws'',e',rws'⟩:=jd (more:=r) (kvs:=yL kvs p.1 p.2) rws rt;refine⟨ws'',?_,rws'⟩;show merged (stored ((kvs.map fun p=>D.f p.1).zip ws) (D.f p.1) u) _=_;rw[e];exact e'
theorem jj {h:Heap} {φ P:List Addr}:∀{kvs:List (K×AV)} {vs:List (Value×Value)},PRs B h φ P (kvs.map fun p=>(D.key p.1,p.2)) vs->∃us,Carries D.knd vs ((kvs.map fun p=>D.f p.1).zip us)/\VRs B h φ P (kvs.map (fun x=>x.2)) us
 | [],vs,e=>by cases e;exact⟨[],trivial,rfl⟩
 | p::r,vs,e=>by
  cases e with
  | cons ra rb rl =>
   obtain⟨us,hc,ru⟩:=jj rl;refine⟨_::us,⟨D.is ra,rfl,hc⟩,?_⟩;exact⟨_,us,rfl,rb,ru⟩
theorem YB (h:Heap):∃ep,(h.push { cls:=.type "dict",dict:=none,data:=.dict #[] }).DictAt D.knd h.objs.size [] ep:=(Heap.DictOf.new (knd:=D.knd) h).dictAt
theorem xS {pos:Pos} (h:∀ep,Q (.ref st.length) (st++[D.ao ep []])):WE B nm nN n sc (.Dict [] [] pos) ρ Q X st:=by
 refine⟨fun c s φ O hs S F=>?_⟩;refine wpAny_Dict_empty ?_;obtain⟨ep,hd⟩:=YB D s.heap;have hk:∀b o,s.heap.get? b=some o->(s.heap.push { cls:=.type "dict",dict:=none,data:=.dict #[] }).get? b=some o:=fun b o e=>Heap.get?_push_of_some _ e;obtain⟨S',g⟩:=S.more (o:=default) (o':=D.ao ep []) (t:=s.toks) hk ⟨_,Heap.get?_push_size _ rfl⟩ fun g=>D.or_iff.mpr (zw ([]) hd (rfl));exact zV _ _ S' g ⟨.ref st.length,by exact(zw _ (by rw[<-S.len];exact gn) rfl),h ep⟩
theorem qw (pos:Pos) (env:Env):∀(ps:List (Expr×Expr)),(evalEachOpt (ps.map fun p=>some p.1) env).zip ((evalEach (ps.map (fun x=>x.2)) env).map fun v=>do let x <-v;standAt pos;pure x)=(Vp ps pos env).map fun p=>(some p.1,p.2)
 | []=>rfl
 | (k,v)::r=>by
  have ih:=qw pos env r;show (_,_)::((evalEachOpt (r.map fun p=>some p.1) env).zip ((evalEach (r.map (fun x=>x.2)) env).map fun v=>do let x <-v;standAt pos;pure x))=(_,_)::((Vp r pos env).map fun p=>(some p.1,p.2));rw[ih]
  rfl
theorem SZ {ps:List (Expr×Expr)} {pos:Pos} (h0:ps≠[]) (hlen:ps.length<=15)
  (h:∀ep,WPs B nm nN n sc ps ρ (fun l st'=>∃kvs:List (K×AV),l=kvs.map (fun p=>(D.key p.1,p.2))/\(∃ep2,st'[st.length]?=some (D.ao ep2 [])) /\ ∀ep3,Q (.ref st.length) (st'.set st.length (D.ao ep3 (yy [] kvs)))) X (st++[D.ao ep []])) :
  WE B nm nN n sc (.Dict (ps.map fun p=>some p.1) (ps.map (fun x=>x.2)) pos) ρ Q X st:=by
 refine⟨fun c s φ O hs S F=>?_⟩;refine wpAny_Dict_pairs (knd:=D.knd) (qw pos c.env ps) (by unfold Vp;simpa using h0) (lm hlen) ?_;refine zX (YB D s.heap) fun ep hd=>?_;have hk:∀b o,s.heap.get? b=some o->(s.heap.push { cls:=.type "dict",dict:=none,data:=.dict #[] }).get? b=some o:=fun b o e=>Heap.get?_push_of_some _ e;refine xn (S.more (o:=default) (o':=D.ao ep []) (t:=s.toks) hk ⟨_,Heap.get?_push_size _ rfl⟩ fun g=>D.or_iff.mpr ⟨[],hd,rfl⟩) fun S₁ g₁=>?_;refine wpAny_mono (RO (pos:=pos) O hs S₁ (F.go O g₁) (h ep)) ?_ fun z z y=>y.after g₁;intro vs s₂ p4z;refine xH (p4z) fun φ₂ st2 S₂ g₂ n9z=>?_;try clear p4z;refine zn (n9z) fun l rl n13z=>?_;try clear n9z;refine yY (n13z) fun kvs q14z n15z hq=>?_;try clear n13z;subst q14z;refine zX (n15z) fun ep2 hm=>?_;try clear n15z;refine zn (jj D rl) fun us hc ru=>?_
 have hpl:(φ++[s.heap.objs.size])[st.length]?=some s.heap.objs.size:=by rw[<-S.len];exact gn
 have hpl₂:=g₂.place hpl;obtain⟨b,ws,hb,e,hd2,rs⟩:=D.at S₂ hm (v:=.ref s.heap.objs.size) (⟨_,hpl₂,rfl⟩);cases e;subst rs;refine⟨_,hc,hd2.dictOf,fun h' hd' hsb=>?_⟩;refine zn (jd D (kvs:=[]) (ws:=[]) (rfl) ru) fun ws' e' rws=>?_;have e'':merged [] ((kvs.map fun p=>D.f p.1).zip us)=((yy [] kvs).map fun p=>D.f p.1).zip ws':=e';rw[e'']at hd';refine zX (hd'.dictAt) fun ep3 hd₃=>?_;obtain⟨S₃,g₃⟩:=S₂.turn (o':=D.ao ep3 (yy [] kvs)) (t:=s₂.toks+vs.length) hb hsb (wL (hd₃) fun o zy e zy=>⟨o,e⟩) fun g=>D.or_iff.mpr ⟨ws',hd₃,rws.go g⟩;exact⟨φ₂,_,S₃,(g₁.trans g₂).trans g₃,.ref st.length,by exact⟨_,hpl₂,rfl⟩,hq ep3⟩
theorem Uk (hB:BOk B) {m k ep ep':Nat} {kvs more:List (K×AV)} (hm:st[m]?=some (D.ao ep kvs)) (hk:st[k]?=some (D.ao ep' more)) (hne:m≠k) (hz:kvs.length+more.length<=16777216) (h:∀ep3,Q .none (st.set m (D.ao ep3 (yy kvs more)))):vS B "dict.update" [.ref m,.ref k] Q st:=by
 intro A P s φ vs hh hu S ras
 apply uL (xw ras);intro u v ra rb
 refine uR (D.at S hm ra) fun a ws ha q11z hd rs=>?_;subst q11z;refine uR (D.at S hk rb) fun b us hb q12z he ru=>?_;subst q12z
 have hab:a≠b:=by
  intro q;subst q;refine zX (List.getElem?_eq_some_iff.mp ha) fun l1 f1=>?_;refine zX (List.getElem?_eq_some_iff.mp hb) fun l2 f2=>?_;exact hne ((List.getElem_inj S.nodup).mp (f1.trans f2.symm))
 have l1:((kvs.map fun p=>D.f p.1).zip ws).length=kvs.length:=by simp[rs.length]
 have l2:((more.map fun p=>D.f p.1).zip us).length=more.length:=by simp[ru.length]
 refine call_meetsIn F.slot_dict_update hd.dictOf.typeIs F.entry_dict_update (F.args_dict_update_2 _ _) (meets_dict_update D.knd a b hab (S.notSys hB (List.mem_of_getElem? hb))) (Wh _ _ hd.dictOf he.dictOf (by rw[l1,l2,sizeLine_eq];exact hz) (fun h' hd' ho' hsb=>?_));refine zn (jd D rs ru) fun ws' e rws=>?_;rw[e]at hd';refine zX (hd'.dictAt) fun ep3 hd₃=>?_;obtain⟨S',g⟩:=S.turn (o':=D.ao ep3 (yy kvs more)) (t:=s.toks) ha hsb (wL (hd₃) fun o zy e zy=>⟨o,e⟩) fun g=>D.or_iff.mpr ⟨ws',hd₃,rws.go g⟩;exact zV φ _ S' g ⟨.none,vx,h ep3⟩
end
section
open PySem.AutoSeq1 (wpAny_loadPart')
open PySem.MeetsSeq PySem.MeetsSeq2 PySem.MeetsSeq3 PySem.SeqRoads2
noncomputable def X4 (B:Base) (A:Around) (s:Shared) (y x:Value) (b:Bool):Prop :=
 ∀(E:Value->Shared->Prop) (Q:Bool->Shared->Prop),Q b s->wpAny (model B.prog B.w) A (eqBool y x) Q E s
noncomputable def Z1 (B:Base) (A:Around) (s:Shared) (x:Value):List Value->Bool->Prop
 | [],r=>r=false
 | y::ys,r=>∃p q,X4 B A s y x p/\Z1 B A s x ys q/\r=(p||q)
section
variable {B:Base}
theorem Sp {l:Addr} {xs:Array Value} {n:Nat} {dd:Option Addr} {sl:Array (Option Value)} {x:Value}:∀(k i:Nat) (r:Bool),xs.size-i=k ->
  MeetsIn B.prog B.w (Builtin.«list.__contains__.loop» ⟨[.ref l,x,rawInt i],[]⟩)
   (fun A R s=>s.heap.get? l=some { cls:=.type "list",dict:=dd,data:=.seq xs n,slots:=sl }/\Z1 B A.in1 s x (xs.toList.drop i) r/\R (.ok (.ret (.bool r))) s):=by
 intro l_
 induction l_ with
 | zero =>
  intro i r hk;intro A R s h;obtain⟨hp,g,d,tk,os⟩:=s;refine t_ (h) fun hl he h=>?_
  wp_walk using wpAny_loadPart' hl
  rw[show xs[((i:Nat):Int).toNat]?=none from by simp;exact s7 hk];rw[show xs.toList.drop i=[] from by simp;exact s7 hk]at he;subst he
  wp_walk
  exact h
 | succ k ih_ =>
  intro i r hk;intro A R s h;obtain⟨hp,g,d,tk,os⟩:=s;refine t_ (h) fun hl he h=>?_
  have lt:i<xs.size:=by exact s5 hk
  wp_walk using wpAny_loadPart' hl
  rw[List.drop_eq_getElem_cons (l:=xs.toList) (i:=i) (by simpa using lt)]at he;refine xH (he) fun p q e1 e2 q1z=>?_;try clear he;subst q1z;rw[show xs[((i:Nat):Int).toNat]?=some xs[i] from by simp -iota [lt]];refine wpAny_bind (e1 _ _ ?_)
  rcases p with _ | _
  ·wp_walk
   rw[show ((i:Int)+1)=((i+1:Nat):Int) from by push_cast;rfl];refine⟨plainId_quiet plain_contains_loop _,codeAny_builtin entry_contains_loop ?_⟩;rw[Around.under_plainId plain_contains_loop _];exact ih_ (i+1) q (s3 hk) A R _ ⟨hl,e2,h⟩
  ·wp_walk
   exact h
theorem Ta {l:Addr} {xs:Array Value} {n:Nat} {dd:Option Addr} {sl:Array (Option Value)} {x:Value} {r:Bool} :
  MeetsIn B.prog B.w (Builtin.«list.__contains__» ⟨[.ref l,x],[]⟩)
   (fun A R s=>s.heap.get? l=some { cls:=.type "list",dict:=dd,data:=.seq xs n,slots:=sl }/\Z1 B A.in1 s x xs.toList r/\R (.ok (.ret (.bool r))) s):=by
 intro A R s h;obtain⟨hp,g,d,tk,os⟩:=s;refine t_ (h) fun hl he h=>?_
 wp_walk using wpAny_loadPart' hl
 refine⟨plainId_quiet plain_contains_loop _,codeAny_builtin entry_contains_loop ?_⟩;rw[Around.under_plainId plain_contains_loop _];exact Sp _ 0 r rfl A R _ ⟨hl,he,h⟩
theorem Zy {l:Addr} {xs:Array Value} {n:Nat} {dd:Option Addr} {sl:Array (Option Value)} {x:Value} {r:Bool} :
  MeetsIn B.prog B.w (Builtin.«tuple.__contains__» ⟨[.ref l,x],[]⟩)
   (fun A R s=>s.heap.get? l=some { cls:=.type "tuple",dict:=dd,data:=.seq xs n,slots:=sl }/\Z1 B A.in1 s x xs.toList r/\R (.ok (.ret (.bool r))) s) :=
 .of_wp fun A R s h=>by
  obtain⟨hp,g,d,tk,os⟩:=s;refine t_ (h) fun hl he h=>?_
  wp_walk using wpAny_loadPart' hl,wpAny_forIn_array _ (fun rest b s'=>b.1=none/\s'=⟨hp,g,d,tk,os⟩ /\ ∃r',Z1 B A.in1 ⟨hp,g,d,tk,os⟩ x rest r'/\R (.ok (.ret (.bool r'))) ⟨hp,g,d,tk,os⟩) _
  case turn =>
   intro y rest b s' p1z;refine t_ (p1z) fun hb q5z n6z=>?_;try clear p1z;subst q5z;refine zn (n6z) fun r' hm hR=>?_;try clear n6z;refine xH (hm) fun p q e1 e2 q7z=>?_;try clear hm;subst q7z;refine wpAny_bind (e1 _ _ ?_)
   rcases p with _ | _<;>wp_walk
   ·exact⟨rfl,rfl,q,e2,hR⟩
   ·exact⟨_,rfl,hR⟩
  case fin =>
   intro p2z s' p3z;obtain⟨b1,b2⟩:=p2z;refine t_ (p3z) fun hb q8z n9z=>?_;try clear p3z;subst q8z;refine zn (n9z) fun r' hm hR=>?_;try clear n9z;subst hb;subst hm
   wp_walk
   exact⟨_,rfl,hR⟩
  case h=>exact⟨rfl,rfl,r,he,h⟩
end
end
section
open PySem.AutoSeq1 (wpAny_loadPart')
open PySem.MeetsSeq PySem.MeetsSeq2 PySem.MeetsSeq3 PySem.SeqRoads2
section
variable {B:Base}
noncomputable def tN (B:Base) (A:Around) (s:Shared):List Value->List Value->Bool->Prop
 | [],[],r=>r=true
 | x::xs,y::ys,r=>∃b c,X4 B A s x y b/\tN B A s xs ys c/\r=(b&&c)
 | _,_,_=>False
theorem tN.length {A:Around} {s:Shared}:∀{xs ys:List Value} {r:Bool},tN B A s xs ys r->xs.length=ys.length
 | [],[],_,_=>rfl
 | _::_,_::_,_,h=>by
  obtain⟨b,c,_,h,_⟩:=h;simp -iota [h.length]
 | [],_::_,_,h=>h.elim
 | _::_,[],_,h=>h.elim
theorem V9 {l m:Addr} {xs ys:Array Value} {n n2:Nat} {dd dd2:Option Addr} {sl sl2:Array (Option Value)} (hz:xs.size=ys.size):∀(k i:Nat) (r:Bool),xs.size-i=k ->
  MeetsIn B.prog B.w (Builtin.«list.__eq__.loop» ⟨[.ref l,.ref m,rawInt i,rawInt 2],[]⟩)
   (fun A R s=>s.heap.get? l=some { cls:=.type "list",dict:=dd,data:=.seq xs n,slots:=sl }/\s.heap.get? m=some { cls:=.type "list",dict:=dd2,data:=.seq ys n2,slots:=sl2 } /\
    tN B A.in1 s (xs.toList.drop i) (ys.toList.drop i) r/\R (.ok (.ret (.bool r))) s)
 | 0,i,r,hk=>by
  intro A R s h;obtain⟨hp,g,d,tk,os⟩:=s;obtain⟨hl,hb,he,h⟩:=h
  wp_walk using wpAny_loadPart' hl,wpAny_loadPart' hb
  rw[show xs[((i:Nat):Int).toNat]?=none from by simp;exact s7 hk,show ys[((i:Nat):Int).toNat]?=none from by simp;exact hz▸s7 hk];rw[show xs.toList.drop i=[] from by simp;exact s7 hk,show ys.toList.drop i=[] from by simp;exact hz▸s7 hk]at he
  wp_walk using wpAny_loadPart' hl,wpAny_loadPart' hb
  show R (.ok (.ret (.bool (xs.size==ys.size)))) _;rw[hz];subst he;simpa using h
 | k+1,i,r,hk=>by
  intro A R s h;obtain⟨hp,g,d,tk,os⟩:=s;obtain⟨hl,hb,he,h⟩:=h
  have lt:i<xs.size:=by exact s5 hk
  have lt2:i<ys.size:=by exact F2 (Le hz) lt
  have hi1:xs[((i:Nat):Int).toNat]?=some xs[i]:=by simp -iota [lt]
  have hi2:ys[((i:Nat):Int).toNat]?=some ys[i]:=by simp -iota [lt2]
  wp_walk using wpAny_loadPart' hl,wpAny_loadPart' hb
  rw[hi1,hi2];rw[List.drop_eq_getElem_cons (l:=xs.toList) (i:=i) (by simpa using lt),List.drop_eq_getElem_cons (l:=ys.toList) (i:=i) (by simpa using lt2)]at he;obtain⟨b,c,e1,e2,rfl⟩:=he;refine wpAny_bind (e1 _ _ ?_)
  cases b with
  | true =>
   wp_walk
   rw[show ((i:Int)+1)=((i+1:Nat):Int) from by push_cast;rfl];refine⟨plainId_quiet plain_eq_loop _,codeAny_builtin entry_eq_loop ?_⟩;rw[Around.under_plainId plain_eq_loop _];exact V9 hz k (i+1) c (s3 hk) A R _ ⟨hl,hb,e2,h⟩
  | false =>
   wp_walk using wpAny_loadPart' hl,wpAny_loadPart' hb
   rw[hi1,hi2]
   wp_walk
   exact h
theorem US {l m:Addr} {xs ys:Array Value} {n n2:Nat} {dd dd2:Option Addr} {sl sl2:Array (Option Value)} {r:Bool} (hz:xs.size=ys.size) :
  MeetsIn B.prog B.w (Builtin.«list.__eq__» ⟨[.ref l,.ref m],[]⟩)
   (fun A R s=>s.heap.get? l=some { cls:=.type "list",dict:=dd,data:=.seq xs n,slots:=sl }/\s.heap.get? m=some { cls:=.type "list",dict:=dd2,data:=.seq ys n2,slots:=sl2 } /\
    tN B A.in1 s xs.toList ys.toList r/\R (.ok (.ret (.bool r))) s):=by
 revert B l m xs ys n n2 dd dd2 sl sl2 r hz
 intros B l m xs ys n n2 dd dd2 sl sl2 r hz;intros A R s h;obtain⟨hp,g,d,tk,os⟩:_:=s;obtain⟨hl,hb,he,h⟩:_:=h;have f3:=AutoSeq1.sub_list_list
 have hne:¬(xs.size != ys.size)=true:=by simp -iota [hz]
 wp_walk using wpAny_loadPart' hl,wpAny_loadPart' hb
 refine⟨plainId_quiet plain_eq_loop _,codeAny_builtin entry_eq_loop ?_⟩;rw[Around.under_plainId plain_eq_loop _];exact V9 hz _ 0 r rfl A R _ ⟨hl,hb,he,h⟩
theorem XP {A:Around} {s:Shared} {l m:Addr} {xs ys:List Value} {r:Bool} {E Q:Value->Shared->Prop} (hl:s.heap.IsList l xs.toArray) (hm:s.heap.IsList m ys.toArray) (hu:A.units<cLine)
  (he:tN B A.in1 s xs ys r) (h:Q (.bool r) s):wpAny (model B.prog B.w) A (richCompare .Eq (.ref l) (.ref m)) Q E s:=by
 revert B A s l m xs ys r E Q hl hm hu he h
 intros B A s l m xs ys r E Q hl hm hu he h;obtain⟨⟨cls,dd,data,sl⟩,ho,hc,n,hd⟩:_:=id hl;obtain⟨⟨cls2,dd2,data2,sl2⟩,ho2,hc2,n2,hd2⟩:_:=id hm;simp only at hc hd hc2 hd2;subst hc hd hc2 hd2;refine wpAny_richCompare_same_room (op:=.Eq) ⟨_,ho,rfl⟩ ⟨_,ho2,rfl⟩ F.slot_list_eq (call_meetsIn F.slot_list_eq ⟨_,ho,rfl⟩ F.entry_list_eq (F.args_list_eq_2 _ _) (US (by simpa using he.length)) ⟨ho,ho2,he,?_⟩) hu;exact⟨(fun x=>nomatch x),h⟩
theorem Rj {l m:Addr} {xs ys:Array Value} {n n2:Nat} {dd dd2:Option Addr} {sl sl2:Array (Option Value)} (hz:xs.size=ys.size):∀(k i:Nat) (r:Bool),xs.size-i=k ->
  MeetsIn B.prog B.w (Builtin.«list.__eq__.loop» ⟨[.ref l,.ref m,rawInt i,rawInt 3],[]⟩)
   (fun A R s=>s.heap.get? l=some { cls:=.type "list",dict:=dd,data:=.seq xs n,slots:=sl }/\s.heap.get? m=some { cls:=.type "list",dict:=dd2,data:=.seq ys n2,slots:=sl2 } /\
    tN B A.in1 s (xs.toList.drop i) (ys.toList.drop i) r/\R (.ok (.ret (.bool (!r)))) s):=by
 intro l_
 induction l_ with
 | zero =>
  intro i r hk;intro A R s h;obtain⟨hp,g,d,tk,os⟩:=s;refine XQ (h) fun hl hb he h=>?_
  wp_walk using wpAny_loadPart' hl,wpAny_loadPart' hb
  rw[show xs[((i:Nat):Int).toNat]?=none from by simp;exact s7 hk,show ys[((i:Nat):Int).toNat]?=none from by simp;exact hz▸s7 hk];rw[show xs.toList.drop i=[] from by simp;exact s7 hk,show ys.toList.drop i=[] from by simp;exact hz▸s7 hk]at he
  wp_walk using wpAny_loadPart' hl,wpAny_loadPart' hb
  show R (.ok (.ret (.bool (xs.size != ys.size)))) _;rw[hz];subst he;simpa using h
 | succ k ih_ =>
  intro i r hk;intro A R s h;obtain⟨hp,g,d,tk,os⟩:=s;refine XQ (h) fun hl hb he h=>?_
  have lt:i<xs.size:=by exact s5 hk
  have lt2:i<ys.size:=by exact F2 lt (Le hz)
  have hi1:xs[((i:Nat):Int).toNat]?=some xs[i]:=by simp -iota [lt]
  have hi2:ys[((i:Nat):Int).toNat]?=some ys[i]:=by simp -iota [lt2]
  wp_walk using wpAny_loadPart' hl,wpAny_loadPart' hb
  rw[hi1,hi2];rw[List.drop_eq_getElem_cons (l:=xs.toList) (i:=i) (by simpa using lt),List.drop_eq_getElem_cons (l:=ys.toList) (i:=i) (by simpa using lt2)]at he;refine xH (he) fun b c e1 e2 q2z=>?_;try clear he;subst q2z;refine wpAny_bind (e1 _ _ ?_)
  cases b with
  | true =>
   wp_walk
   rw[show ((i:Int)+1)=((i+1:Nat):Int) from by push_cast;rfl];refine⟨plainId_quiet plain_eq_loop _,codeAny_builtin entry_eq_loop ?_⟩;rw[Around.under_plainId plain_eq_loop _];exact ih_ (i+1) c (s3 hk) A R _ ⟨hl,hb,e2,h⟩
  | false =>
   wp_walk using wpAny_loadPart' hl,wpAny_loadPart' hb
   rw[hi1,hi2]
   wp_walk
   exact h
theorem TU {l m:Addr} {xs ys:Array Value} {n n2:Nat} {dd dd2:Option Addr} {sl sl2:Array (Option Value)} {r:Bool} (hz:xs.size=ys.size) :
  MeetsIn B.prog B.w (Builtin.«list.__ne__» ⟨[.ref l,.ref m],[]⟩)
   (fun A R s=>s.heap.get? l=some { cls:=.type "list",dict:=dd,data:=.seq xs n,slots:=sl }/\s.heap.get? m=some { cls:=.type "list",dict:=dd2,data:=.seq ys n2,slots:=sl2 } /\
    tN B A.in1 s xs.toList ys.toList r/\R (.ok (.ret (.bool (!r)))) s):=by
 revert B l m xs ys n n2 dd dd2 sl sl2 r hz
 intros B l m xs ys n n2 dd dd2 sl sl2 r hz;intros A R s h;obtain⟨hp,g,d,tk,os⟩:_:=s;obtain⟨hl,hb,he,h⟩:_:=h;have f3:=AutoSeq1.sub_list_list
 have hne:¬(xs.size != ys.size)=true:=by simp -iota [hz]
 wp_walk using wpAny_loadPart' hl,wpAny_loadPart' hb
 refine⟨plainId_quiet plain_eq_loop _,codeAny_builtin entry_eq_loop ?_⟩;rw[Around.under_plainId plain_eq_loop _];exact Rj hz _ 0 r rfl A R _ ⟨hl,hb,he,h⟩
theorem Xy {A:Around} {s:Shared} {l m:Addr} {xs ys:List Value} {r:Bool} {E Q:Value->Shared->Prop} (hl:s.heap.IsList l xs.toArray) (hm:s.heap.IsList m ys.toArray) (hu:A.units<cLine)
  (he:tN B A.in1 s xs ys r) (h:Q (.bool (!r)) s):wpAny (model B.prog B.w) A (richCompare .NotEq (.ref l) (.ref m)) Q E s:=by
 revert B A s l m xs ys r E Q hl hm hu he h
 intros B A s l m xs ys r E Q hl hm hu he h;obtain⟨⟨cls,dd,data,sl⟩,ho,hc,n,hd⟩:_:=id hl;obtain⟨⟨cls2,dd2,data2,sl2⟩,ho2,hc2,n2,hd2⟩:_:=id hm;simp only at hc hd hc2 hd2;subst hc hd hc2 hd2;refine wpAny_richCompare_same_room (op:=.NotEq) ⟨_,ho,rfl⟩ ⟨_,ho2,rfl⟩ F.slot_list_ne (call_meetsIn F.slot_list_ne ⟨_,ho,rfl⟩ F.entry_list_ne (F.args_list_ne_2 _ _) (TU (by simpa using he.length)) ⟨ho,ho2,he,?_⟩) hu;exact⟨(fun x=>nomatch x),h⟩
theorem jY {A:Around} {s:Shared} {E:Value->Shared->Prop} {T id:String} {b:Builtin} {c x:Value} {S:PySem.Spec} {Q:Value->Shared->Prop} (hT:s.TypeIs c T) (slot:Slot T "__contains__" id)
  (entry:entryFor table id=some b) (args:argsOk id ⟨[c,x],[]⟩) (g:MeetsIn B.prog B.w (b ⟨[c,x],[]⟩) S)
  (h:S A (wants (fun v s'=>∃b,v = .bool b/\Q (.bool b) s') E) s):wpAny (model B.prog B.w) A (compareOp .In x c) Q E s:=by
 refine wpAny_bind (wpAny_contains_slot hT slot (wpAny_mono (call_meetsIn slot hT entry args g h) (fun v s' hv=>?_) fun z z e=>e))
 apply jB (hv);intro b hq
 try clear hv;exact wpAny_truthy_bool (wpAny_pure hq)
theorem kP {A:Around} {s:Shared} {E:Value->Shared->Prop} {T id:String} {b:Builtin} {c x:Value} {S:PySem.Spec} {Q:Value->Shared->Prop} (hT:s.TypeIs c T) (slot:Slot T "__contains__" id)
  (entry:entryFor table id=some b) (args:argsOk id ⟨[c,x],[]⟩) (g:MeetsIn B.prog B.w (b ⟨[c,x],[]⟩) S)
  (h:S A (wants (fun v s'=>∃b,v = .bool b/\Q (.bool (!b)) s') E) s):wpAny (model B.prog B.w) A (compareOp .NotIn x c) Q E s:=by
 refine wpAny_bind (wpAny_contains_slot hT slot (wpAny_mono (call_meetsIn slot hT entry args g h) (fun v s' hv=>?_) fun z z e=>e))
 apply jB (hv);intro b hq
 try clear hv;exact wpAny_truthy_bool (wpAny_pure hq)
end
end
section
variable {B:Base} {K:Type} [DecidableEq K] {knd:KeyKind B.prog B.w K} {A:Around} {E:Value->Shared->Prop} {s:Shared}
noncomputable def V2 (B:Base) {K:Type} [DecidableEq K] (A:Around) (s:Shared) (ka kb:List (K×Value)):Prop :=
 ∀(i:Nat) (k:K) (v:Value),ka[i]?=some (k,v)->∃y,valueAt kb k=some y/\X4 B A s v y true
theorem jx {nm:String} {a b:Addr} {ka kb:List (K×Value)} {Q:Bool->Shared->Prop} (ha:(a==sysModules)=false) (hb:(b==sysModules)=false)
  (da:s.heap.DictOf knd a ka) (db:s.heap.DictOf knd b kb) (hl:ka.length=kb.length) (tw:V2 B A s ka kb) (h:Q true s):wpAny (model B.prog B.w) A (Builtin.Dict.samePairs nm a b) Q E s:=by
 refine QN (da) fun oa ea pa goa z dta ksa psa z=>?_;try clear da;refine QN (db) fun ob eb pb gob z dtb ksb psb z=>?_;try clear db
 have la:ka.length=ea.size:=by rw[<-psa.length,Array.length_toList]
 have lb:kb.length=eb.size:=by rw[<-psb.length,Array.length_toList]
 have sz:ea.size=eb.size:=by exact AS (F3 (Re la) (Le hl) (Le lb)) (F3 (Re lb) (Re hl) (Le la))
 have look:∀k,findBy knd.is eb k=valueAt kb k:=fun k=>by
  rw[<-psb.find k];clear lb psb ksb dtb gob sz;obtain⟨l⟩:=eb;simp[findBy]
 unfold Builtin.Dict.samePairs Builtin.Dict.showsAll;rw[ha,hb];simp only[Bool.false_eq_true,if_false];refine wpAny_bind (wpAny_pure (wpAny_bind (wpAny_pure ?_)));refine wpAny_bind (wpAny_dictEntries goa dta ?_);refine wpAny_bind (wpAny_dictEntries gob dtb ?_);rw[if_neg (by rw[sz];simp)];refine wpAny_bind (wpAny_dictEpoch goa dta ?_);refine wpAny_bind ?_;rw[Std.Legacy.Range.forIn_eq_forIn_range'];simp only[Std.Legacy.Range.size,Nat.sub_zero,Nat.add_sub_cancel,Nat.div_one];refine wpAny_forIn_list _ (fun rest q s'=>s'=s/\q=(none,()) /\ ∃i,rest=List.range' i (ea.size-i)) _ ?_ ?_ _ _ ⟨rfl,rfl,0,by simp⟩
 ·intro x rest q s' p1z;refine t_ (p1z) fun q3z q4z n5z=>?_;try clear p1z;subst q3z;subst q4z;refine zX (n5z) fun i hr=>?_;try clear n5z
  cases hn:ea.size-i with
  | zero=>rw[hn]at hr;cases hr
  | succ m =>
   rw[hn,List.range'_succ]at hr
   injection hr with h1 h2
   subst h1
   have lt:x<ea.size:=by exact s5 hn
   have lt':x<ka.length:=by exact F2 (Re la) lt
   refine wpAny_bind (wpAny_dictEntries goa dta ?_);rw[Array.getElem?_eq_getElem lt];obtain⟨k,v,hkv⟩:∃k v,ka[x]?=some (k,v):=⟨_,_,List.getElem?_eq_getElem lt'⟩;obtain⟨hkey,hval⟩:=psa.get? (i:=x) (e:=ea[x]) (k:=k) (v:=v) (by rw[Array.getElem?_toList];exact Array.getElem?_eq_getElem lt) hkv;refine zn (ksa ea[x] (Array.getElem_mem lt)) fun k' hk' hh=>?_;obtain rfl:k'=k:=knd.inj _ _ _ hk' hkey;refine zn (tw x k' v hkv) fun y hy he=>?_;show wpAny _ _ (holding [ea[x].key,ea[x].val] _ >>= _) _ _ _;rw[hh];refine wpAny_bind (wpAny_holding (wpAny_bind (wpAny_dictFind_of hkey gob dtb ksb ?_)));rw[<-look,findBy_of_findIdx?]at hy
   cases hj:eb.findIdx? fun e=>knd.is k' e.key with
   | none=>rw[hj]at hy;cases hy
   | some j =>
    rw[hj]at hy;refine zn (Array.findIdx?_eq_some_iff_getElem.mp hj) fun ltj z z=>?_;refine wpAny_bind (wpAny_dictEntries gob dtb ?_);rw[Array.getElem?_eq_getElem ltj]
    have ey:eb[j].val=y:=by
     simp[Array.getElem?_eq_getElem ltj]at hy;exact hy
    rw[<-ey,<-hval]at he;refine wpAny_holding (he _ _ ?_);show wpAny _ _ (if (!true)=true then _ else _) _ _ _;rw[if_neg (by decide)];refine wpAny_bind (wpAny_dictEpoch goa dta ?_);rw[if_neg (by simp)];exact wpAny_pure ⟨rfl,rfl,x+1,by rw[h2,show ea.size-(x+1)=m from by exact s3 hn]⟩
 ·intro q s' p2z;refine t_ (p2z) fun q6z q7z z=>?_;try clear p2z;subst q6z;subst q7z;exact wpAny_pure h
theorem YD {a b:Addr} {ka kb:List (K×Value)} {Q:Value->Shared->Prop} (ha:(a==sysModules)=false) (hb:(b==sysModules)=false)
  (da:s.heap.DictOf knd a ka) (db:s.heap.DictOf knd b kb) (hu:A.units<cLine) (hl:ka.length=kb.length) (tw:V2 B A.in1 s ka kb) (h:Q (.bool true) s) :
  wpAny (model B.prog B.w) A (richCompare .Eq (.ref a) (.ref b)) Q E s:=by
 refine wpAny_richCompare_same_room (op:=.Eq) da.typeIs db.typeIs F.slot_dict_eq (wpAny_call_entry F.slot_dict_eq da.typeIs F.entry_dict_eq ?_ (F.args_dict_eq_2 _ _)) hu;refine wpAny_bind ?_;refine wpAny_bind (wpAny_notOrdered_dict da.typeIs ?_);refine wpAny_pure (wpAny_bind (wpAny_isInstance (T:="dict") db.typeIs F.sub_dict_dict ?_));simp only[Bool.not_true,Bool.false_eq_true,if_false];refine wpAny_bind (wpAny_pure (wpAny_bind (wpAny_pure (wpAny_bind (jx ha hb da db hl tw ?_)))));exact wpAny_pure ⟨_,rfl,(fun x=>nomatch x),h⟩
theorem YK {a b:Addr} {ka kb:List (K×Value)} {Q:Value->Shared->Prop} (ha:(a==sysModules)=false) (hb:(b==sysModules)=false)
  (da:s.heap.DictOf knd a ka) (db:s.heap.DictOf knd b kb) (hu:A.units<cLine) (hl:ka.length=kb.length) (tw:V2 B A.in1 s ka kb) (h:Q (.bool false) s) :
  wpAny (model B.prog B.w) A (richCompare .NotEq (.ref a) (.ref b)) Q E s:=by
 refine wpAny_richCompare_same_room (op:=.NotEq) da.typeIs db.typeIs F.slot_dict_ne (wpAny_call_entry F.slot_dict_ne da.typeIs F.entry_dict_ne ?_ (F.args_dict_ne_2 _ _)) hu;refine wpAny_bind ?_;refine wpAny_bind (wpAny_notOrdered_dict da.typeIs ?_);refine wpAny_pure (wpAny_bind (wpAny_isInstance (T:="dict") db.typeIs F.sub_dict_dict ?_));simp -iota only[Bool.not_true,Bool.false_eq_true,if_false];refine wpAny_bind (wpAny_pure (wpAny_bind (wpAny_pure (wpAny_bind (jx ha hb da db hl tw ?_)))));exact wpAny_pure ⟨_,rfl,(fun x=>nomatch x),h⟩
end
noncomputable def AEq (B:Base) (k:Nat) (st:St) (a b:AV) (r:Bool):Prop :=
 ∀(A:Around) (P:List Addr) (s:Shared) (φ:List Addr) (v w:Value),A.units+k<cLine->SR B s φ P st->VR B s.heap φ P a v->VR B s.heap φ P b w->X4 B A s v w r
noncomputable def Uq (B:Base) (k:Nat) (st:St):List AV->List AV->Bool->Prop
 | [],[],r=>r=true
 | a::as,b::bs,r=>∃p q,AEq B k st a b p/\Uq B k st as bs q/\r=(p&&q)
 | _,_,_=>False
noncomputable def jZ (B:Base) (k:Nat) (st:St) (x:AV):List AV->Bool->Prop
 | [],r=>r=false
 | a::as,r=>∃p q,AEq B k st a x p/\jZ B k st x as q/\r=(p||q)
section
variable {B:Base} {st:St} {k:Nat} {Q:AV->St->Prop}
theorem X4.same {A:Around} {s:Shared} (v:Value):X4 B A s v v true:=fun E Q h=>SeqAt.EqAt.same v B.prog B.w E Q h
theorem Sh:AEq B k st .none .none true:=by
 intro A P s φ v w hu S ra rb;rw[jb ra,jb rb];exact .same _
theorem TI {x:Bool}:AEq B k st (.bool x) (.bool x) true:=by
 intro A P s φ v w hu S ra rb;rw[jc ra,jc rb];exact .same _
theorem t4 {i j:Int}:AEq B k st (.int i) (.int j) (decide (i=j)):=by
 intro A P s φ v w hu S ra rb
 apply zO (zS ra);intro t
 apply zO (zS rb);intro u
 intro E Q h;refine wpAny_eqBool_int ?_;rw[show (i==j)=decide (i=j) from by by_cases q:i=j<;>simp[q]];exact h
theorem vZ {i j:List UInt8}:AEq B k st (.bytes i) (.bytes j) (decide (i=j)):=by
 intro A P s φ v w hu S ra rb
 apply zO (zF ra);intro t
 apply zO (zF rb);intro u
 intro E Q h;exact eqBool_bytes (by simpa using h)
theorem Uq.at {A:Around} {P:List Addr} {s:Shared} {φ:List Addr} (hu:A.units+k<cLine) (S:SR B s φ P st):∀{as bs:List AV} {vs ws:List Value} {r:Bool},Uq B k st as bs r->VRs B s.heap φ P as vs->VRs B s.heap φ P bs ws->tN B A s vs ws r
 | [],[],_,_,_,h,ra,rb=>by
  subst ra rb;exact h
 | a::as,b::bs,_,_,_,h,ra,rb=>by
  apply uL (ra);intro v t r1 r2
  apply uL (rb);intro w u r3 r4
  obtain⟨p,q,e1,e2,rfl⟩:=h;exact⟨p,q,e1 A P s φ v w hu S r1 r3,e2.at hu S r2 r4,rfl⟩
 | [],_::_,_,_,_,h,_,_=>h.elim
 | _::_,[],_,_,_,h,_,_=>h.elim
theorem jZ.at {A:Around} {P:List Addr} {s:Shared} {φ:List Addr} {x:AV} {v:Value} (hu:A.units+k<cLine) (S:SR B s φ P st) (rx:VR B s.heap φ P x v):∀{as:List AV} {vs:List Value} {r:Bool},jZ B k st x as r->VRs B s.heap φ P as vs->Z1 B A s v vs r
 | [],_,_,h,ra=>by
  subst ra;exact h
 | a::as,_,_,h,ra=>by
  apply uL (ra);intro u t r1 r2
  obtain⟨p,q,e1,e2,rfl⟩:=h;exact⟨p,q,e1 A P s φ u v hu S r1 rx,e2.at hu S rx r2,rfl⟩
noncomputable def u7 (B:Base) (k:Nat) (st:St) (xs ys:List AV) (r:Bool):Prop:=(xs.length≠ys.length/\r=false)\/Uq B k st xs ys r
theorem jH {A:Around} {P:List Addr} {s:Shared} {φ:List Addr} {m n:Nat} {xs ys:List AV} {r:Bool} {v w:Value} {E Q:Value->Shared->Prop} (hm:st[m]?=some (.list xs)) (hn:st[n]?=some (.list ys)) (h:u7 B k st xs ys r)
  (hu:A.units+(k+1)<cLine) (S:SR B s φ P st) (ra:VR B s.heap φ P (.ref m) v) (rb:VR B s.heap φ P (.ref n) w) (hQ:Q (.bool r) s):wpAny (model B.prog B.w) A (richCompare .Eq v w) Q E s:=by
 refine zn (zJ ra) fun a ha q12z=>?_;subst q12z;refine zn (zJ rb) fun b hb q13z=>?_;subst q13z;refine wL (S.listAt ha hm) fun vs z e1 r1=>?_;refine wL (S.listAt hb hn) fun ws z e2 r2=>?_
 rcases h with ⟨hl,rfl⟩ | h
 ·exact SeqAt.RcAt.lists_lengths (IsList.of_plain e1) (IsList.of_plain e2) (by simp[r1.length,r2.length,hl]) (F1 hu) B.prog B.w E Q hQ
 ·exact XP (IsList.of_plain e1) (IsList.of_plain e2) (F1 hu) (h.at (A:=A.in1) (by rw[Around.in1_units];exact F1 hu) S r1 r2) hQ
theorem WQ {A:Around} {P:List Addr} {s:Shared} {φ:List Addr} {m n:Nat} {xs ys:List AV} {r:Bool} {v w:Value} {E Q:Value->Shared->Prop} (hm:st[m]?=some (.list xs)) (hn:st[n]?=some (.list ys)) (h:u7 B k st xs ys r)
  (hu:A.units+(k+1)<cLine) (S:SR B s φ P st) (ra:VR B s.heap φ P (.ref m) v) (rb:VR B s.heap φ P (.ref n) w) (hQ:Q (.bool (!r)) s):wpAny (model B.prog B.w) A (richCompare .NotEq v w) Q E s:=by
 refine zn (zJ ra) fun a ha q14z=>?_;subst q14z;refine zn (zJ rb) fun b hb q15z=>?_;subst q15z;refine wL (S.listAt ha hm) fun vs z e1 r1=>?_;refine wL (S.listAt hb hn) fun ws z e2 r2=>?_
 rcases h with ⟨hl,rfl⟩ | h
 ·exact SeqAt.RcNeAt.lists_lengths (IsList.of_plain e1) (IsList.of_plain e2) (by simp[r1.length,r2.length,hl]) (F1 hu) B.prog B.w E Q hQ
 ·exact Xy (IsList.of_plain e1) (IsList.of_plain e2) (Nat.lt_of_le_of_lt (Nat.le_add_right _ _) hu) (h.at (A:=A.in1) (by rw[Around.in1_units];exact F1 hu) S r1 r2) hQ
theorem YS {s:Shared} {φ P:List Addr} {m n:Nat} {a b:Addr} (S:SR B s φ P st) (hne:m≠n) (ha:φ[m]?=some a) (hb:φ[n]?=some b):a≠b:=by
 intro e;subst e;obtain⟨l1,f1⟩:=List.getElem?_eq_some_iff.mp ha;obtain⟨l2,f2⟩:=List.getElem?_eq_some_iff.mp hb;exact hne ((List.getElem_inj S.nodup).mp (f1.trans f2.symm))
theorem X4.of_refs {A:Around} {s:Shared} {l b:Addr} {r:Bool} (hne:l≠b) (h:∀(E Q:Value->Shared->Prop),Q (.bool r) s->wpAny (model B.prog B.w) A (richCompare .Eq (.ref l) (.ref b)) Q E s):X4 B A s (.ref l) (.ref b) r:=fun E Q hq=>by
 refine wpAny_holding ?_;refine wpAny_ite_split (fun hab=>absurd (by have:=eq_of_beq hab;injection this) hne) (fun z=>?_);exact wpAny_bind (h E _ (wpAny_truthy_bool hq))
theorem XA {m n:Nat} {xs ys:List AV} {r:Bool} (hne:m≠n) (hm:st[m]?=some (.list xs)) (hn:st[n]?=some (.list ys)) (h:u7 B k st xs ys r):AEq B (k+1) st (.ref m) (.ref n) r:=by
 intro A P s φ v w hu S ra rb;refine zn (zJ ra) fun a ha q16z=>?_;subst q16z;refine zn (zJ rb) fun b hb q17z=>?_;subst q17z;exact .of_refs (YS S hne ha hb) fun E Q hQ=>jH hm hn h hu S ra rb hQ
theorem j4 {n:Nat}:AEq B k st (.ref n) (.ref n) true:=by
 intro A P s φ v w hu S ra rb;refine zn (zJ ra) fun a ha q18z=>?_;subst q18z;refine zn (zJ rb) fun b hb q19z=>?_;subst q19z;obtain rfl:a=b:=Option.some.inj (ha.symm.trans hb);exact .same _
noncomputable def tn (B:Base) (k:Nat) (st:St) {K:Type} [DecidableEq K] (kvs lws:List (K×AV)):Prop :=
 kvs.length=lws.length /\ ∀(i:Nat) (key:K) (a:AV),kvs[i]?=some (key,a)->∃b,yq lws key=some b/\AEq B k st a b true
theorem tn.at {K K':Type} [DecidableEq K] [DecidableEq K'] (D:DK B K K') {kvs lws:List (K×AV)} (h:tn B k st kvs lws) {A:Around} {P:List Addr} {s:Shared} {φ:List Addr} (hu:A.units+k<cLine) (S:SR B s φ P st)
  {vs ws:List Value} (rv:VRs B s.heap φ P (kvs.map (fun x=>x.2)) vs) (rw_:VRs B s.heap φ P (lws.map (fun x=>x.2)) ws):V2 B A s ((kvs.map fun p=>D.f p.1).zip vs) ((lws.map fun p=>D.f p.1).zip ws):=by
 intro i key v hi;rw[List.getElem?_zip_eq_some]at hi;refine xn (hi) fun h1 h2=>?_;try clear hi;rw[List.getElem?_map]at h1
 cases hk:kvs[i]? with
 | none=>rw[hk]at h1;cases h1
 | some p =>
  rw[hk]at h1
  obtain rfl:D.f p.1=key:=by exact Option.some.inj h1
  refine zn (h.2 i p.1 p.2 hk) fun b hb e=>?_;have hg:=ZP D rw_ p.1;rw[hb]at hg;refine zn (hg) fun u hu' ru=>?_;try clear hg;obtain⟨v',hv',rv'⟩:=rv.at (k:=i) (a:=p.2) (by rw[List.getElem?_map,hk];rfl);obtain rfl:v'=v:=Option.some.inj (hv'.symm.trans h2);exact⟨u,hu',e A P s φ v' u hu S rv' ru⟩
theorem Tm {K K':Type} [DecidableEq K] [DecidableEq K'] (D:DK B K K') (hB:BOk B) {m n ep ep':Nat} {kvs lws:List (K×AV)} (hne:m≠n) (hm:st[m]?=some (D.ao ep kvs)) (hn:st[n]?=some (D.ao ep' lws)) (h:tn B k st kvs lws):AEq B (k+1) st (.ref m) (.ref n) true:=by
 intro A P s φ v w hu S ra rb;refine uR (D.at S hm ra) fun a vs ha q20z da rs=>?_;subst q20z;refine uR (D.at S hn rb) fun b ws hb q21z db rs'=>?_;subst q21z;refine .of_refs (YS S hne ha hb) fun E Q hQ=>YD (S.notSys hB (List.mem_of_getElem? ha)) (S.notSys hB (List.mem_of_getElem? hb)) da.dictOf db.dictOf (Nat.lt_of_le_of_lt (Nat.le_add_right _ _) hu) ?_ (h.at D (A:=A.in1) (by rw[Around.in1_units];exact F1 hu) S rs rs') hQ;have l1:=rs.length;have l2:=rs'.length;simp only[List.length_map]at l1 l2;simp[l1,l2,h.1]
theorem vA {m n:Nat} {xs ys:List AV} {r:Bool} (hm:st[m]?=some (.list xs)) (hn:st[n]?=some (.list ys)) (h:u7 B 40 st xs ys r) (hQ:Q (.bool r) st):yl B (compareOp .Eq) (.ref m) (.ref n) Q st:=by
 intro A P s φ v w hh hu S ra rb;exact jH hm hn h (F1 hu) S ra rb (z8 S (zw _ ya hQ))
theorem xA {m n:Nat} {xs ys:List AV} {r:Bool} (hm:st[m]?=some (.list xs)) (hn:st[n]?=some (.list ys)) (h:u7 B 40 st xs ys r) (hQ:Q (.bool (!r)) st):yl B (compareOp .NotEq) (.ref m) (.ref n) Q st:=by
 intro A P s φ v w hh hu S ra rb;exact WQ hm hn h (F1 hu) S ra rb (z8 S (zw _ ya hQ))
theorem Y7 {K K':Type} [DecidableEq K] [DecidableEq K'] (D:DK B K K') (hB:BOk B) {m n ep ep':Nat} {kvs lws:List (K×AV)} (hm:st[m]?=some (D.ao ep kvs)) (hn:st[n]?=some (D.ao ep' lws)) (h:tn B 40 st kvs lws) (hQ:Q (.bool false) st) :
  yl B (compareOp .NotEq) (.ref m) (.ref n) Q st:=by
 intro A P s φ v w hh hu S ra rb;refine uR (D.at S hm ra) fun a vs ha q22z da rs=>?_;subst q22z;refine uR (D.at S hn rb) fun b ws hb q23z db rs'=>?_;subst q23z;have l1:=rs.length;have l2:=rs'.length;simp only[List.length_map]at l1 l2;exact YK (S.notSys hB (List.mem_of_getElem? ha)) (S.notSys hB (List.mem_of_getElem? hb)) da.dictOf db.dictOf (F1 hu) (by simp[l1,l2,h.1]) (h.at D (A:=A.in1) (by rw[Around.in1_units];exact F1 hu) S rs rs') (z8 S ⟨_,ya,hQ⟩)
theorem Xx (hQ:Q (.bool false) st):yl B (compareOp .NotEq) .none .none Q st:=by
 intro A P s φ v w hh hu S ra rb;rw[jb ra,jb rb];exact PySem.EqNone.ne_none_none (z8 S (zw _ ya hQ))
theorem x9 {m:Nat} {xs:List AV} {x:AV} {r:Bool} (hm:st[m]?=some (.list xs)) (h:jZ B 40 st x xs r) (hQ:Q (.bool r) st):yl B (compareOp .In) x (.ref m) Q st:=by
 intro A P s φ v w hh hu S rx ra;refine zn (zJ ra) fun a ha q24z=>?_;subst q24z;refine wL (S.listAt ha hm) fun vs z e1 r1=>?_;exact jY (zw _ e1 rfl) F.slot_list_contains F.entry_list_contains (F.args_list_contains_2 _ _) Ta ⟨e1,by simpa using h.at (A:=A.in1) (by rw[Around.in1_units];exact F1 hu) S rx r1,_,rfl,z8 S (zw _ ya hQ)⟩
theorem vd {xs:List AV} {x:AV} {r:Bool} (h:jZ B 40 st x xs r) (hQ:Q (.bool r) st):yl B (compareOp .In) x (.tup xs) Q st:=by
 revert B st Q xs x r h hQ
 intros B st Q xs x r h hQ;intros A P s φ v w hh hu S rx ra;obtain⟨a,vs,rfl,_,_,⟨o,ho,hc,n,hd⟩,r1⟩:_:=ra;obtain⟨cls,dd,data,sl⟩:_:=o;subst hc hd;exact jY ⟨_,ho,rfl⟩ F.slot_tuple_contains F.entry_tuple_contains (F.args_tuple_contains_2 _ _) Zy ⟨ho,by simpa using h.at (A:=A.in1) (by rw[Around.in1_units];exact F1 hu) S rx r1,_,rfl,z8 S ⟨_,ya,hQ⟩⟩
theorem kD {xs:List AV} {x:AV} {r:Bool} (h:jZ B 40 st x xs r) (hQ:Q (.bool (!r)) st):yl B (compareOp .NotIn) x (.tup xs) Q st:=by
 revert B st Q xs x r h hQ
 intros B st Q xs x r h hQ;intros A P s φ v w hh hu S rx ra;obtain⟨a,vs,rfl,_,_,⟨o,ho,hc,n,hd⟩,r1⟩:_:=ra;obtain⟨cls,dd,data,sl⟩:_:=o;subst hc hd;exact kP ⟨_,ho,rfl⟩ F.slot_tuple_contains F.entry_tuple_contains (F.args_tuple_contains_2 _ _) Zy ⟨ho,by simpa using h.at (A:=A.in1) (by rw[Around.in1_units];exact F1 hu) S rx r1,_,rfl,z8 S ⟨_,ya,hQ⟩⟩
end
section
open PySem.Builtin
theorem j_:Slot "bytes" "strip" "bytes.strip" :=
 .of (owner:="bytes") (n:="strip") (by rw[typeLookup_type,builtinLookup_eq_fast];kernel_rfl) (by decide +kernel) (by decide +kernel) (by decide +kernel)
  (by first | exact .inl (by decide +kernel) | exact .inr (by decide +kernel)) (by rw[isSubtype_type];kernel_rfl)
theorem Wm:typeOf (.builtin "bytes.strip")=pure (.type "method_descriptor"):=by show builtinType _=_;rw[builtinType_eq_fast];kernel_rfl
theorem Yw:entryFor table "bytes.strip"=some Builtin.«bytes.strip»:=entryFor_of_tree (by kernel_rfl)
theorem Wz (a b:Value):argsOk "bytes.strip" ⟨[a,b],[]⟩:=by unfold argsOk;kernel_rfl
theorem qG:Slot "bytes" "lstrip" "bytes.lstrip" :=
 .of (owner:="bytes") (n:="lstrip") (by rw[typeLookup_type,builtinLookup_eq_fast];kernel_rfl) (by decide +kernel) (by decide +kernel) (by decide +kernel)
  (by first | exact .inl (by decide +kernel) | exact .inr (by decide +kernel)) (by rw[isSubtype_type];kernel_rfl)
theorem XF:typeOf (.builtin "bytes.lstrip")=pure (.type "method_descriptor"):=by show builtinType _=_;rw[builtinType_eq_fast];kernel_rfl
theorem Yn:entryFor table "bytes.lstrip"=some Builtin.«bytes.lstrip»:=entryFor_of_tree (by kernel_rfl)
theorem Y0 (a b:Value):argsOk "bytes.lstrip" ⟨[a,b],[]⟩:=by unfold argsOk;kernel_rfl
theorem qy:Slot "bytes" "rstrip" "bytes.rstrip" :=
 .of (owner:="bytes") (n:="rstrip") (by rw[typeLookup_type,builtinLookup_eq_fast];kernel_rfl) (by decide +kernel) (by decide +kernel) (by decide +kernel)
  (by first | exact .inl (by decide +kernel) | exact .inr (by decide +kernel)) (by rw[isSubtype_type];kernel_rfl)
theorem Yy:typeOf (.builtin "bytes.rstrip")=pure (.type "method_descriptor"):=by show builtinType _=_;rw[builtinType_eq_fast];kernel_rfl
theorem Yk:entryFor table "bytes.rstrip"=some Builtin.«bytes.rstrip»:=entryFor_of_tree (by kernel_rfl)
theorem Xf (a b:Value):argsOk "bytes.rstrip" ⟨[a,b],[]⟩:=by unfold argsOk;kernel_rfl
theorem se:Slot "bytes" "split" "bytes.split" :=
 .of (owner:="bytes") (n:="split") (by rw[typeLookup_type,builtinLookup_eq_fast];kernel_rfl) (by decide +kernel) (by decide +kernel) (by decide +kernel)
  (by first | exact .inl (by decide +kernel) | exact .inr (by decide +kernel)) (by rw[isSubtype_type];kernel_rfl)
theorem jn:typeOf (.builtin "bytes.split")=pure (.type "method_descriptor"):=by show builtinType _=_;rw[builtinType_eq_fast];kernel_rfl
theorem Xd:entryFor table "bytes.split"=some Builtin.«bytes.split»:=entryFor_of_tree (by kernel_rfl)
theorem XY (a b:Value):argsOk "bytes.split" ⟨[a,b],[]⟩:=by unfold argsOk;kernel_rfl
theorem t7:Slot "bytes" "join" "bytes.join" :=
 .of (owner:="bytes") (n:="join") (by rw[typeLookup_type,builtinLookup_eq_fast];kernel_rfl) (by decide +kernel) (by decide +kernel) (by decide +kernel)
  (by first | exact .inl (by decide +kernel) | exact .inr (by decide +kernel)) (by rw[isSubtype_type];kernel_rfl)
theorem qt:typeOf (.builtin "bytes.join")=pure (.type "method_descriptor"):=by show builtinType _=_;rw[builtinType_eq_fast];kernel_rfl
theorem Wc:entryFor table "bytes.join"=some Builtin.«bytes.join»:=entryFor_of_tree (by kernel_rfl)
theorem Ui (a b:Value):argsOk "bytes.join" ⟨[a,b],[]⟩:=by unfold argsOk;kernel_rfl
theorem vz {name:Str} {id:String} (h:Slot "bytes" name id) (t:typeOf (.builtin id)=pure (.type "method_descriptor")):tP "bytes" name id:=⟨FB.plainAttrs_bytes,h,t⟩
end
section
open PySem.Builtin
noncomputable def yv (l r:Bool) (drop:UInt8->Bool) (b:List UInt8):List UInt8 :=
 let k:=if l then b.dropWhile drop else b
 if r then (k.reverse.dropWhile drop).reverse else k
theorem uk {α:Type} (p:α->Bool) (l:List α):(l.dropWhile p).length<=l.length:=(List.dropWhile_sublist p).length_le
theorem qh (l r:Bool) (drop:UInt8->Bool) (b:List UInt8):(yv l r drop b).length<=b.length:=by
 unfold yv;have h1:=uk drop b
 cases l<;>cases r<;>simp only[Bool.false_eq_true,if_false,if_true]
 ·exact wC
 ·have:=uk drop b.reverse;simpa using this
 ·exact h1
 ·have:=uk drop (b.dropWhile drop).reverse;simp only[List.length_reverse]at this ⊢;exact F2 h1 this
theorem Xj {l r:Bool} {drop:UInt8->Bool} {b:List UInt8} (h:(yv l r drop b).length=b.length):yv l r drop b=b:=by
 have sub:(yv l r drop b).Sublist b:=by
  unfold yv
  have s1:(if l then b.dropWhile drop else b).Sublist b:=by
   cases l
   ·exact List.Sublist.refl _
   ·exact List.dropWhile_sublist drop
  cases r
  ·exact s1
  ·simp only[if_true];refine List.Sublist.trans ?_ s1;have:=(List.dropWhile_sublist (l:=(if l then b.dropWhile drop else b).reverse) drop).reverse;simpa using this
 exact sub.eq_of_length h
section
variable {M:Model} {A:Around} {E:Value->Shared->Prop} {s:Shared}
theorem qi {name:String} {l r:Bool} {b c:List UInt8} {t u:Tok} {R:Value->Shared->Prop} (hz:b.length<=16777216) (h:∀t' k,R (.bytes (yv l r c.contains b).toArray t') { s with toks:=k }) :
  wpAny M A (Bytes.stripM .bytes name l r ⟨[.bytes b.toArray t,.bytes c.toArray u],[]⟩) (fun fin s'=>∃v,fin = .done (.ret v)/\R v s') E s:=by
 revert M A E s name l r b c t u R hz h
 intros M A E s name l r b c t u R hz h
 have hc:c.toArray.contains=c.contains:=by funext x;simp
 show wpAny M A (Bytes.bytesLike _ (.bytes c.toArray u) >>= fun set=>_) _ E s;refine wpAny_bind ?_;refine wpAny_bind (wpAny_of_eq KBy.buffer_eq ?_);refine wpAny_pure ?_;show wpAny M A (Bytes.payload (.bytes b.toArray t) >>= fun r=>_) _ _ s;refine wpAny_bind (wpAny_of_eq (a:=b.toArray) rfl ?_);rw[hc];show wpAny M A (if ((yv l r c.contains b).length==b.toArray.size)=true then _ else _) _ E s
 by_cases hq:(yv l r c.contains b).length=b.length
 ·rw[if_pos (by exact decide_eq_true hq)];refine wpAny_bind (wpAny_rule ?_);have:=h t s.toks;rw[Xj hq]at this;refine wpAny_bind ?_;unfold Bytes.Kind.same;rw[if_pos (by decide)];refine wpAny_bind (wpAny_typeOf (typeIs_bytes s _ t) ?_);exact wpAny_pure (wpAny_pure ⟨_,rfl,this⟩)
 ·rw[if_neg (by simpa using hq)];have hle:=qh l r c.contains b;exact wpAny_bind (wpAny_mkBytes (wpAny_pure ⟨_,rfl,h _ _⟩) (show (yv l r c.contains b).toArray.size<=sizeLine by rw[sizeLine_eq,List.size_toArray];exact F2 hz hle))
end
section
variable {B:Base} {Q:AV->St->Prop} {st:St}
theorem TC {b c:List UInt8} (hz:b.length<=16777216) (h:Q (.bytes (yv true true c.contains b)) st):vS B "bytes.strip" [.bytes b,.bytes c] Q st:=by
 revert B Q st b c hz h
 intros B Q st b c hz h;intros A P s φ vs hh hu S ras;obtain⟨v,w,rfl,ra,rb⟩:_:=xw ras;obtain⟨t,rfl⟩:_:=zF ra;obtain⟨u,rfl⟩:_:=zF rb;exact wpAny_call_entry j_ (typeIs_bytes ..) Yw (qi hz fun t' k=>zE S ⟨_,yV,h⟩) (Wz _ _)
theorem Un {b c:List UInt8} (hz:b.length<=16777216) (h:Q (.bytes (yv true false c.contains b)) st):vS B "bytes.lstrip" [.bytes b,.bytes c] Q st:=by
 revert B Q st b c hz h
 intros B Q st b c hz h;intros A P s φ vs hh hu S ras;obtain⟨v,w,rfl,ra,rb⟩:_:=xw ras;obtain⟨t,rfl⟩:_:=zF ra;obtain⟨u,rfl⟩:_:=zF rb;exact wpAny_call_entry qG (typeIs_bytes ..) Yn (qi hz fun t' k=>zE S ⟨_,yV,h⟩) (Y0 _ _)
theorem VU {b c:List UInt8} (hz:b.length<=16777216) (h:Q (.bytes (yv false true c.contains b)) st):vS B "bytes.rstrip" [.bytes b,.bytes c] Q st:=by
 revert B Q st b c hz h
 intros B Q st b c hz h;intros A P s φ vs hh hu S ras;obtain⟨v,w,rfl,ra,rb⟩:_:=xw ras;obtain⟨t,rfl⟩:_:=zF ra;obtain⟨u,rfl⟩:_:=zF rb;exact wpAny_call_entry qy (typeIs_bytes ..) Yk (qi hz fun t' k=>zE S ⟨_,yV,h⟩) (Xf _ _)
theorem kg {b:Array UInt8} {i:Int} {t u:Tok} (h0:0<=i) (h1:i<256):Gives (Builtin.«bytes.__contains__» ⟨[.bytes b t,.int i u],[]⟩) (.val (.bool (b.contains i.toNat.toUInt8))):=by
 refine .of_wp fun M A E s Q hq=>?_;show wpAny M A (Bytes.containsIn "bytes.__contains__" (.bytes b t) (.int i u) >>= fun r=>_) _ E s;refine wpAny_bind ?_;unfold Bytes.containsIn;have ha:(asIndex (.int i u)).attempt=pure (.ok i):=rfl;rw[ha];refine wpAny_bind (wpAny_pure (wpAny_bind (wpAny_of_eq KBy.buffer_eq ?_)));show wpAny M A (if (decide (i<0)||decide (i>=256))=true then _ else _) _ E s;rw[if_neg (by simp;exact⟨h0,h1⟩)];exact wpAny_pure (wpAny_pure ⟨_,rfl,hq⟩)
theorem sq {b:List UInt8} {i:Nat} (h1:i<256) (h:Q (.bool (b.contains i.toUInt8)) st):yl B (compareOp .In) (.int i) (.bytes b) Q st:=by
 intro A P s φ v w hh hu S ra rb
 apply zO (zS ra);intro t
 apply zO (zF rb);intro u
 refine SeqRoads2.in_meets (typeIs_bytes ..) FB.slot_bytes_contains FB.entry_bytes_contains (FB.args_bytes_contains_2 _ _) (kg (kL (0) (i) (by exact wD)) (kT (i) (256) (F1 h1))).meets ?_;refine⟨_,rfl,z8 S ⟨_,ya,?_⟩⟩;simpa using h
end
end
section
open PySem.Builtin
noncomputable def zK (c:UInt8):List UInt8->List (List UInt8)
 | []=>[[]]
 | x::r=>if x=c then []::zK c r else match zK c r with
  | []=>[[x]]
  | p::ps=>(x::p)::ps
theorem YG:∀(c:UInt8),zK c []=[[]]:=fun a=>rfl
theorem ud:∀(c x:UInt8) (r:List UInt8),zK c (x::r)=if x=c then []::zK c r else match zK c r with | []=>[[x]] | p::ps=>(x::p)::ps:=fun a a a=>rfl
noncomputable def SG (w:List UInt8):List (List UInt8)->List (List UInt8)
 | []=>[]
 | p::ps=>(w++p)::ps
noncomputable def vJ (c:UInt8):Nat->List UInt8->List Nat
 | _,[]=>[]
 | k,x::r=>if x=c then k::vJ c (k+1) r else vJ c (k+1) r
theorem SN:∀(c:UInt8) (x:Nat),vJ c x []=[]:=fun a a=>rfl
theorem ZY:∀(c:UInt8) (x:Nat) (y:UInt8) (r:List UInt8),vJ c x (y::r)=if y=c then x::vJ c (x+1) r else vJ c (x+1) r:=fun a a a a=>rfl
theorem wR (c:UInt8) (l:List UInt8):∃p ps,zK c l=p::ps:=by
 revert c l
 intros c l
 rcases Wo (l)with c1_ | w2_
 ·subst c1_;exact X0 _ _ rfl
 ·obtain⟨x,r,c1_⟩:_:=w2_;subst c1_;rw[ud]
  by_cases h:x=c
  ·rw[if_pos h];exact X0 _ _ rfl
  ·rw[if_neg h]
   cases zK c r<;>exact X0 _ _ rfl
theorem sH (c:UInt8):∀(k:Nat) (l:List UInt8),(vJ c k l).length<=l.length
 | _,[]=>wC
 | k,x::r=>by
  rw[ZY];have:=sH c (k+1) r
  by_cases h:x=c
  ·rw[if_pos h];simp;exact this
  ·rw[if_neg h];simp;exact F1 this
theorem Qa (b:List UInt8) (c:UInt8):∀(r pre:List UInt8) (acc:List Nat) (nx:Nat),b=pre++r->nx<=pre.length ->
  ((List.range' pre.length r.length).foldl (fun (acc:List Nat×Nat) (i:Nat)=>if i>=acc.2&&b.toArray.extract i (i+1) == #[c] then (i::acc.1,i+1) else acc) (acc,nx)).1=(vJ c pre.length r).reverse++acc:=by
 intro l_
 induction l_ with
 | nil =>
  intro pre acc nx hb hn;exact rfl
 | cons x r ih_ =>
  intro pre acc nx hb hn
  have hx:b.toArray.extract pre.length (pre.length+1) = #[x]:=by
   subst hb;simp
  rw[List.length_cons,List.range'_succ,List.foldl_cons];simp -iota only[hx];rw[ZY]
  have hl:(pre++[x]).length=pre.length+1:=by exact List.length_append
  by_cases h:x=c
  ·subst h;rw[if_pos (by simpa using hn),if_pos rfl];have ih:=ih_ (pre++[x]) (pre.length::acc) (pre.length+1) (hb.trans mc) (by rw[hl];exact wC);rw[hl]at ih;rw[ih];simp
  ·rw[if_neg (by simp -iota [h]),if_neg h];have ih:=ih_ (pre++[x]) acc nx (hb.trans mc) (by rw[hl];exact F1 hn);rw[hl]at ih;exact ih
theorem occ_eq (b:List UInt8) (c:UInt8):Bytes.occurrences b.toArray #[c] 0 b.toArray.size=vJ c 0 b:=by
 revert b c
 intros b c;have:=Qa b c b [] [] 0 rfl (wC);unfold Bytes.occurrences
 have e:(List.range (b.toArray.size+1-(0+(#[c]:Array UInt8).size))).map (fun x=>x+0)=List.range' 0 b.length:=by
  simp -iota [List.range_eq_range']
 rw[e];rw[show (#[c]:Array UInt8).size=1 from rfl];have h2:=congrArg List.reverse this;simpa using h2
theorem Vh (b:List UInt8) (c:UInt8):∀(r pre:List UInt8) (parts:Array (Array UInt8)) (last:Nat),b=pre++r->last<=pre.length ->
  (match (vJ c pre.length r).foldl (fun (x:Array (Array UInt8)×Nat) p=>(x.1.push (b.toArray.extract x.2 p),p+1)) (parts,last)with
   | (ps,l)=>(ps.push (b.toArray.extract l b.toArray.size)).toList)=parts.toList++(SG (pre.drop last) (zK c r)).map List.toArray:=by
 intro l_
 induction l_ with
 | nil =>
  intro pre parts last hb hl;subst hb;simp[SN,YG,SG];exact List.take_of_length_le (by simp)
 | cons x r ih_ =>
  intro pre parts last hb hl
  have hp:(pre++[x]).length=pre.length+1:=by exact List.length_append
  rw[ZY,ud]
  by_cases h:x=c
  ·rw[if_pos h,if_pos h,List.foldl_cons];have ih:=ih_ (pre++[x]) (parts.push (b.toArray.extract last pre.length)) (pre.length+1) (hb.trans mc) (by rw[hp];exact wC);rw[hp]at ih;rw[ih];refine qP (wR c r) fun p ps e=>?_;rw[e]
   have hd:(pre++[x]).drop (pre.length+1)=[]:=by simp
   rw[hd]
   have hx:b.toArray.extract last pre.length=(pre.drop last).toArray:=by
    subst hb;rw[List.extract_toArray,List.extract_eq_take_drop];rw[List.drop_append_of_le_length hl,List.take_append_of_le_length (by simp)];rw[List.take_of_length_le (by simp)]
   rw[hx];simp[SG]
  ·rw[if_neg h,if_neg h];have ih:=ih_ (pre++[x]) parts last (hb.trans mc) (by rw[hp];exact F1 hl);rw[hp]at ih;rw[ih];refine qP (wR c r) fun p ps e=>?_;rw[e,List.drop_append_of_le_length hl];simp[SG]
theorem kw (b:List UInt8) (c:UInt8):Bytes.between b.toArray 1 (vJ c 0 b)=(zK c b).map List.toArray:=by
 revert b c
 intros b c;have:=Vh b c b [] #[] 0 rfl (wC);obtain⟨p,ps,e⟩:_:=wR c b;simp -iota only[List.length_nil,List.drop_nil]at this;rw[e]at this ⊢;exact this
theorem Xr {b:List UInt8} {c:UInt8} (h:vJ c 0 b=[]):zK c b=[b]:=by
 revert b c h
 intros b c h;have:=kw b c;rw[h]at this;obtain⟨p,ps,e⟩:_:=wR c b;rw[e]at this ⊢;rw[show Bytes.between b.toArray 1 []=[b.toArray.extract 0 b.toArray.size] from rfl]at this;simp at this;obtain⟨h1,h2⟩:_:=this;rw[h2,h1]
theorem sY (c:UInt8) (b:List UInt8):∀p∈zK c b,p.length<=b.length:=by
 induction b with
 | nil=>intro p hp;simp -iota [YG]at hp;simp -iota [hp]
 | cons x r ih =>
  intro p hp;rw[ud]at hp
  by_cases h:x=c
  ·rw[if_pos h]at hp
   rcases List.mem_cons.mp hp with rfl | hp
   ·exact wD
   ·have:=ih p hp;simp;exact F1 this
  ·rw[if_neg h]at hp;refine qP (wR c r) fun q qs e=>?_;rw[e]at hp ih
   rcases List.mem_cons.mp hp with rfl | hp
   ·have:=ih q (List.mem_cons_self ..);simp;exact this
   ·have:=ih p (List.mem_cons_of_mem _ hp);simp;exact F1 this
end
section
open PySem.Builtin
section
variable {B:Base} {Q:AV->St->Prop} {st:St}
theorem jJ {M:Model} {A:Around} {E:Value->Shared->Prop} {h:Heap} {φ P:List Addr}:∀(l:List (List UInt8)) (s:Shared) {R:List Value->Shared->Prop} (hz:∀p∈l,p.length<=16777216)
  (k:∀vs tk,VRs B h φ P (l.map AV.bytes) vs->R vs { s with toks:=tk }),wpAny M A ((l.map List.toArray).mapM (Bytes.Kind.new .bytes)) R E s
 | [],s,R,hz,k=>by
  rw[List.map_nil,List.mapM_nil];exact wpAny_pure (k [] s.toks (rfl))
 | p::r,s,R,hz,k=>by
  rw[List.map_cons,List.mapM_cons];refine wpAny_bind (wpAny_mkBytes ?_ (show p.toArray.size<=sizeLine by rw[sizeLine_eq,List.size_toArray];exact hz p (List.mem_cons_self ..)));refine wpAny_bind (jJ (h:=h) (φ:=φ) (P:=P) r _ (fun q hq=>hz q (List.mem_cons_of_mem _ hq)) fun vs tk rs=>?_);exact wpAny_pure (k _ tk (zV _ _ rfl yV rs))
theorem wx (c:UInt8) (b:List UInt8):(zK c b).length<=b.length+1:=by
 revert c b
 intros c b
 induction b with
 | nil=>exact wC
 | cons x r ih =>
  rw[ud];obtain⟨p,ps,e⟩:_:=wR c r
  by_cases h:x=c
  ·rw[if_pos h];simp;exact ih
  ·rw[if_neg h,e];rw[e]at ih;simp at ih ⊢;exact F1 ih
theorem Xv {b:List UInt8} {c:UInt8} (hz:b.length<=16777000) (h:Q (.ref st.length) (st++[.list ((zK c b).map AV.bytes)])):vS B "bytes.split" [.bytes b,.bytes [c]] Q st:=by
 revert B Q st b c hz h
 intros B Q st b c hz h;intros A P s φ vs hh hu S ras;obtain⟨v,w,rfl,ra,rb⟩:_:=xw ras;obtain⟨t,rfl⟩:_:=zF ra;obtain⟨u,rfl⟩:_:=zF rb;refine wpAny_call_entry se (typeIs_bytes ..) Xd ?_ (XY _ _);show wpAny _ _ (Bytes.payload (.bytes b.toArray t) >>= fun b=>_) _ _ s;refine wpAny_bind (wpAny_of_eq (a:=b.toArray) rfl ?_);show wpAny _ _ (Bytes.bytesLike _ (.bytes [c].toArray u) >>= fun b=>_) _ _ s;refine wpAny_bind ?_;refine wpAny_bind (wpAny_of_eq KBy.buffer_eq ?_);refine wpAny_pure ?_
 have hp:(Bytes.occurrences b.toArray #[c] 0 b.toArray.size).take (b.toArray.size+1)=vJ c 0 b:=by
  rw[occ_eq];exact List.take_of_length_le (by have:=sH c 0 b;simp;exact F1 this)
 show wpAny _ _ (if ((Bytes.occurrences b.toArray #[c] 0 b.toArray.size).take (b.toArray.size+1)).isEmpty=true then _ else _) _ _ s;rw[hp]
 by_cases hn:vJ c 0 b=[]
 ·rw[if_pos (by rw[hn];rfl)];refine wpAny_bind (wpAny_rule (wpAny_bind ?_));unfold Bytes.Kind.same;rw[if_pos (by decide)];refine wpAny_bind (wpAny_typeOf (typeIs_bytes s _ t) ?_);refine wpAny_pure (wpAny_bind (wpAny_newList ?_));refine wpAny_pure ⟨_,rfl,?_⟩;rw[Xr hn]at h;exact wd (as:=[.bytes b]) (vs:=[.bytes b.toArray t]) (t:=s.toks) S (⟨_,_,rfl,yV,by exact rfl⟩) h
 ·rw[if_neg (by simpa using hn)];refine wpAny_bind ?_;show wpAny _ _ ((Bytes.between b.toArray 1 ((Bytes.occurrences b.toArray #[c] 0 b.toArray.size).take (b.toArray.size+1))).mapM (Bytes.Kind.new .bytes)) _ _ s;rw[hp,kw];refine jJ (B:=B) (φ:=φ) (P:=P) (h:=s.heap) _ s (fun p hp=>Nat.le_trans (sY c b p hp) (F1 hz)) ?_;intros vs tk rs;have hv:=rs.length;rw[List.length_map]at hv;have hl:=wx c b;refine wpAny_bind (wpAny_newList ?_ (hsz:=by rw[sizeLine_eq];exact F3 hz (Le hv) hl));exact wpAny_pure ⟨_,rfl,wd (t:=tk) S rs h⟩
end
end
section
open PySem.Builtin
noncomputable def zC {α:Type} (sep:List α):List (List α)->List α
 | []=>[]
 | p::r=>p++r.flatMap (fun x=>sep++x)
theorem yR:∀{α:Type} (sep p:List α) (r:List (List α)),zC sep (p::r)=p++r.flatMap (fun x=>sep++x):=fun a a a=>rfl
theorem VN (sep:List UInt8):∀(r:List (List UInt8)) (k:Nat) (out:List UInt8),
  ((r.map List.toArray).zipIdx (k+1)).foldl (fun (out:Array UInt8) (x:Array UInt8×Nat)=>(if x.2>0 then out++sep.toArray else out)++x.1) out.toArray=(out++r.flatMap (fun x=>sep++x)).toArray:=by
 intro l_
 induction l_ with
 | nil =>
  intro k out;simp
 | cons p r ih_ =>
  intro k out;rw[List.map_cons,List.zipIdx_cons,List.foldl_cons];have:=ih_ (k+1) (out++sep++p);simp -iota only[gt_iff_lt,Nat.zero_lt_succ,if_true];rw[List.append_toArray,List.append_toArray,this];simp
theorem U5 (sep:List UInt8) (l:List (List UInt8)):Bytes.joined sep.toArray (l.map List.toArray)=(zC sep l).toArray:=by
 revert sep l
 intros sep l;unfold Bytes.joined
 rcases Wo (l)with c1_ | w2_
 ·subst c1_
  rfl
 ·obtain⟨p,r,c1_⟩:_:=w2_;subst c1_;rw[List.map_cons,List.zipIdx_cons,List.foldl_cons];have:=VN sep r 0 p;simp -iota only[gt_iff_lt,Nat.lt_irrefl,if_false];simpa[yR]using this
theorem Vc:∀(l:List (List UInt8)) (n:Nat),(l.map List.toArray).foldl (fun (a:Nat) (p:Array UInt8)=>a+p.size) n=n+(l.map List.length).sum:=by
 intro l_
 induction l_ with
 | nil =>
  intro n;exact rfl
 | cons p r ih_ =>
  intro n;rw[List.map_cons,List.foldl_cons,ih_];simp;exact AS (by simp +arith only) (by simp +arith only)
theorem Yu {α:Type} (sep:List α):∀(r:List (List α)),(r.flatMap (fun x=>sep++x)).length=sep.length*r.length+(r.map List.length).sum:=by
 intro l_
 induction l_ with
 | nil =>
  exact rfl
 | cons p r ih_ =>
  rw[List.flatMap_cons,List.length_append,ih_];simp -iota [Nat.mul_add];exact AS (by simp +arith only) (by simp +arith only)
theorem UA (sep:List UInt8) (l:List (List UInt8)):(l.map List.toArray).toArray.foldl (fun x y=>x+y.size) (sep.toArray.size*((l.map List.toArray).toArray.size-1))=(zC sep l).length:=by
 rw[List.size_toArray,List.foldl_toArray,Vc]
 cases l with
 | nil=>exact rfl
 | cons p r =>
  rw[yR,List.length_append,Yu];simp -iota only[List.length_map,List.length_cons,List.map_cons,List.sum_cons,Nat.add_sub_cancel,List.size_toArray];exact AS (by simp +arith only) (by simp +arith only)
section
variable {M:Model} {A:Around} {E:Value->Shared->Prop} {s:Shared}
theorem Yd {id:String} {b:Array UInt8} {t:Tok}:Bytes.takeBufferQuiet? id (.bytes b t) 0=pure (some (b,none)):=by
 revert id b t
 intros id b t;unfold Bytes.takeBufferQuiet? Bytes.takeBuffer?;rw[KBy.special_eq KBy.look_buffer,KBy.own_buffer];simp -iota only[pure_bind]
 have hf:(decide ((0:Int)=Bytes.fullReadOnly))=false:=by decide +kernel
 show (Sem.attempt (Bytes.buffer? id (.bytes b t) ((0:Int)==Bytes.fullReadOnly) >>= _) >>= _)=_;rw[show ((0:Int)==Bytes.fullReadOnly)=false from by decide +kernel,KBy.buffer_eq]
 rfl
theorem uB {keep:List Value}:∀{taken:List (Value×Option Value)} {Q:Unit->Shared->Prop} (ht:∀y∈taken,y.2=none/\y.1.onHeap=false) (h:Q () s),wpAny M A (Bytes.joinLetGo taken keep) Q E s
 | [],Q,ht,h=>wpAny_pure h
 | (x,w)::r,Q,ht,h=>by
  obtain⟨hw,_⟩:=ht (x,w) (List.mem_cons_self ..);subst hw;show wpAny M A (letGo _ _ >>= fun z=>Bytes.joinLetGo r keep) Q E s;exact wpAny_bind (wpAny_letGo (uB (fun y hy=>ht y (List.mem_cons_of_mem _ hy)) h))
end
theorem Qd {α:Type} {M:Model} {A:Around} {E:Value->Shared->Prop} {s:Shared} {R:α->Shared->Prop} {xs:Array Value} {f:Value->Sem α} {g:Sem α} (h1:∀x,xs = #[x]->wpAny M A (f x) R E s) (h2:wpAny M A g R E s) :
  wpAny M A (match xs with | #[x]=>f x | _=>g) R E s:=by
 obtain⟨l⟩:=xs
 rcases l with _ | ⟨x,_ | ⟨y,r⟩⟩
 ·exact h2
 ·exact h1 x rfl
 ·exact h2
section
variable {B:Base} {Q:AV->St->Prop} {st:St}
theorem ZW {sep:List UInt8} {l:List (List UInt8)} {m:Nat} (hm:st[m]?=some (.list (l.map AV.bytes))) (hz:(zC sep l).length<=16777216) (h:Q (.bytes (zC sep l)) st):vS B "bytes.join" [.bytes sep,.ref m] Q st:=by
 revert B Q st sep l m hm hz h
 intros B Q st sep l m hm hz h;intros A P s φ vs hh hu S ras;obtain⟨v,w,rfl,ra,rb⟩:_:=xw ras;obtain⟨t,rfl⟩:_:=zF ra;obtain⟨a,ha,rfl⟩:_:=zJ rb;obtain⟨xs,k,hl,rs⟩:_:=S.listAt ha hm
 have hlen:xs.length=l.length:=by rw[rs.length,List.length_map]
 refine wpAny_call_entry t7 (typeIs_bytes ..) Wc ?_ (Ui _ _);show wpAny _ _ (Bytes.joinItems (.ref a) >>= fun seq=>_) _ _ s;refine wpAny_bind ?_;unfold Bytes.joinItems;refine wpAny_bind (wpAny_typeOf (T:="list") ⟨_,hl,rfl⟩ ?_);refine wpAny_pure ?_;refine wpAny_bind (wpAny_seqItems hl rfl ?_);dsimp only
 have cell:∀(i:Nat) (v:Value),xs[i]?=some v->∃p t',l[i]?=some p/\v = .bytes p.toArray t':=by
  intros i v hv;have hi:i<xs.length:=(List.getElem?_eq_some_iff.mp hv).1;have hp:l[i]?=some (l[i]'(F2 (Le hlen) hi)):=List.getElem?_eq_getElem (F2 hi (Le hlen));obtain⟨v',hv',rv⟩:_:=rs.at (k:=i) (a:=.bytes (l[i]'(hlen▸hi))) (by rw[List.getElem?_map,hp];rfl);obtain rfl:v'=v:=Option.some.inj (hv'.symm.trans hv);obtain⟨t',e⟩:_:=zF rv;exact⟨_,t',hp,e⟩
 rw[if_pos (by decide)];refine Qd ?_ ?_
 ·intros x hX
  have hx':xs=[x]:=by simpa using congrArg Array.toList hX
  obtain⟨p,t',hp,rfl⟩:_:=cell 0 x (by rw[hx'];rfl)
  have hl1:l=[p]:=by
   rw[hx']at hlen
   rcases Wo (l)with c1_ | w2_
   ·subst c1_;exact nomatch hlen
   ·obtain⟨q,r,c1_⟩:_:=w2_;subst c1_
    have:r=[]:=by cases r with
     | nil=>rfl
     | cons _ _=>exact nomatch hlen
    subst this;simpa using hp
  refine wpAny_bind (wpAny_typeOf (typeIs_bytes s _ t') ?_);rw[if_pos (by decide +kernel)];refine wpAny_bind (wpAny_rule (wpAny_pure ⟨_,rfl,?_⟩));subst hl1;rw[show zC sep [p]=p from by exact List.append_nil _]at h;exact z8 S ⟨_,yV,h⟩
 ·refine wpAny_bind ?_;rw[Std.Legacy.Range.forIn_eq_forIn_range'];simp -iota only[Std.Legacy.Range.size,Nat.sub_zero,Nat.add_sub_cancel,Nat.div_one];refine wpAny_forIn_list _ (fun rest q s'=>s'=s /\ ∃i,rest=List.range' i (xs.length-i)/\i<=xs.length/\q.1=((l.take i).map List.toArray).toArray /\ ∀y∈q.2,y.2=none/\y.1.onHeap=false) _ ?_ ?_ _ _ ⟨rfl,0,rfl,wD,rfl,nn⟩
  ·intros x rest p5_ s' p6_;obtain⟨parts,taken⟩:_:=p5_;obtain⟨rfl,i,hr,hi,hp,ht⟩:_:=p6_;subst hp
   rcases Qi (xs.length-i)with hn | w3_
   ·try rewrite[hn]
    rw[hn]at hr;cases hr
   ·obtain⟨n,hn⟩:_:=w3_
    try rewrite[hn]
    rw[hn,List.range'_succ]at hr
    injection hr with h1 h2
    subst h1
    have lt:x<xs.length:=by exact s5 hn
    obtain⟨p,t',hp,he⟩:_:=cell x _ (List.getElem?_eq_getElem lt);refine wpAny_bind (wpAny_seqItems hl rfl ?_);dsimp only
    have hg:xs.toArray.getD x Value.none = .bytes p.toArray t':=by
     rw[Array.getD_eq_getD_getElem?];simp -iota [List.getElem?_eq_getElem lt,he]
    have hany:(taken.any fun x=>x.fst.onHeap)=false:=by
     rw[List.any_eq_false];intros y hy;rw[(ht y hy).2];simp
    rw[if_neg (by rw[hany];decide),hg];refine wpAny_bind (wpAny_holding (wpAny_of_eq Yd ?_));refine wpAny_bind (wpAny_seqItems hl rfl ?_);dsimp only;rw[if_neg (by simp)];refine wpAny_pure ⟨rfl,x+1,by rw[h2,show xs.length-(x+1)=n from by exact s3 hn],lt,?_,?_⟩
    ·rw[List.take_add_one,hp];simp
    ·intros y hy
     rcases List.mem_append.mp hy with hy | hy
     ·exact ht y hy
     ·rw[List.mem_singleton.mp hy];exact⟨rfl,rfl⟩
  ·intros p7_ s' p8_;obtain⟨parts,taken⟩:_:=p7_;obtain⟨rfl,i,hr,hi,hp,ht⟩:_:=p8_
   have hin:i=xs.length:=by
    rcases Qi (xs.length-i)with hn | w4_
    ·try rewrite[hn]
     exact s4 hi hn
    ·obtain⟨n,hn⟩:_:=w4_
     try rewrite[hn]
     rw[hn,List.range'_succ]at hr;cases hr
   rw[hin,hlen,List.take_length]at hp;subst hp;refine wpAny_bind (wpAny_of_eq (a:=sep.toArray) rfl ?_);rw[UA,if_neg (by rw[KBy.tooLong_not hz];decide),U5];refine wpAny_bind ?_;show wpAny _ _ (mkBytes (zC sep l).toArray) _ _ _;refine wpAny_mkBytes ?_ (show (zC sep l).toArray.size<=sizeLine by rw[sizeLine_eq,List.size_toArray];exact hz);refine wpAny_bind (wpAny_holding (wpAny_point ?_));refine wpAny_bind (uB ht ?_);exact wpAny_pure ⟨_,rfl,zE S ⟨_,yV,h⟩⟩
end
end
section
open PySem.Builtin PySem.Builtin.Str
noncomputable def unS (x:Str):List Nat:=x.cps.toList
theorem qr (x:Str):mkS (unS x)=x:=by cases x;simp[mkS,unS]
theorem jA {name:Str} {id:String} (h:Slot "str" name id) (t:typeOf (.builtin id)=pure (.type "method_descriptor")):tP "str" name id:=⟨F.plainAttrs_str,h,t⟩
noncomputable def uX (x:List Nat) (c:Nat):List (List Nat):=(Txt.split (mkS x) (mkS [c])).map unS
noncomputable def Vj (x:List Nat) (c:Nat):Int:=Txt.find (mkS x) (mkS [c])
section
variable {B:Base} {Q:AV->St->Prop} {st:St} {h:Heap} {φ P:List Addr}
theorem U9:∀{xs:List (List Nat)} {vs:List Value},VRs B h φ P (xs.map AV.str) vs->∃l:List (Str×Tok),vs=strValues l/\l.map (fun x=>x.1)=xs.map mkS:=by
 intro l_
 induction l_ with
 | nil =>
  intro vs e
  change _=_ at e
  subst e;exact zw ([]) rfl rfl
 | cons x r ih_ =>
  intro vs e
  apply uL (e);intro v t r1 r2
  try clear e
  apply zO (xb r1);intro tk
  apply jB (ih_ r2);intro l hl
  exact zw ((mkS x,tk)::l) rfl (congrArg _ hl)
theorem U0:∀(xs:List Str) (tk:Nat),VRs B h φ P ((xs.map unS).map AV.str) (strsFrom tk xs):=by
 intro l_
 induction l_ with
 | nil =>
  intro tk;exact rfl
 | cons x r ih_ =>
  intro tk;refine zV _ _ rfl ?_ (ih_ (tk+1));exact⟨tk,by rw[qr]⟩
theorem TJ (sep:List Nat):∀(r:List (List Nat)) (acc:List Nat),(r.map mkS).foldl (fun (acc:Array Nat) (p:Str)=>acc++(mkS sep).cps++p.cps) acc.toArray=(acc++r.flatMap (fun x=>sep++x)).toArray:=by
 intro l_
 induction l_ with
 | nil =>
  intro acc;simp
 | cons p r ih_ =>
  intro acc;rw[List.map_cons,List.foldl_cons];have:=ih_ (acc++sep++p)
  have e:acc.toArray++(mkS sep).cps++(mkS p).cps=(acc++sep++p).toArray:=by simp[mkS]
  rw[e,this];simp
theorem Ss (sep:List Nat) (xs:List (List Nat)):Txt.join (mkS sep) (xs.map mkS)=mkS (zC sep xs):=by
 unfold Txt.join glued
 cases xs with
 | nil=>rfl
 | cons p r =>
  have:=TJ sep r p;simp only[List.map_cons,List.drop_one,List.tail_cons,List.headD_cons];show (⟨_⟩:Str)=⟨_⟩
  congr 1
theorem Ye (n:Nat):∀(xs:List (List Nat)) (a:Nat),(xs.map mkS).foldl (fun (a:Nat) (p:Str)=>a+p.length+n) a=a+(xs.map List.length).sum+xs.length*n:=by
 intro l_
 induction l_ with
 | nil =>
  intro a;simp
 | cons p r ih_ =>
  intro a;rw[List.map_cons,List.foldl_cons,ih_,z_];simp[Nat.add_mul];exact AS (by simp +arith only) (by simp +arith only)
theorem w5 {sep:List Nat} {xs:List (List Nat)} {m:Nat} (hm:st[m]?=some (.list (xs.map AV.str))) (hz:(xs.map List.length).sum+xs.length*sep.length<=16777216) (hQ:Q (.str (zC sep xs)) st) :
  vS B "str.join" [.str sep,.ref m] Q st:=by
 revert B Q st sep xs m hm hz hQ
 intros B Q st sep xs m hm hz hQ;intros A P s φ vs hh hu S ras;obtain⟨v,w,rfl,ra,rb⟩:_:=xw ras;obtain⟨t,rfl⟩:_:=xb ra;obtain⟨a,ha,rfl⟩:_:=zJ rb;obtain⟨ys,k,hl,rs⟩:_:=S.listAt ha hm;obtain⟨l,rfl,hl'⟩:_:=U9 rs;refine SC.join (IsList.of_plain hl) hl' ?_ ?_
 ·unfold JoinOk;rw[List.foldl_toArray,z_,Ye];unfold tooLong;rw[sizeLine_eq];simp;exact hz
 ·intros t' k';rw[Ss];exact zE S ⟨_,u4,hQ⟩
theorem Xp {x:List Nat} {c:Nat} (hQ:Q (.int (Vj x c)) st):vS B "str.find" [.str x,.str [c]] Q st:=by
 revert B Q st x c hQ
 intros B Q st x c hQ;intros A P s φ vs hh hu S ras;obtain⟨v,w,rfl,ra,rb⟩:_:=xw ras;obtain⟨t,rfl⟩:_:=xb ra;obtain⟨u,rfl⟩:_:=xb rb;exact SC.find (zE S ⟨_,yG,hQ⟩)
theorem Z7 {x:List Nat} {c:Nat} (hz:x.length<=16777000) (hQ:Q (.ref st.length) (st++[.list ((uX x c).map AV.str)])):vS B "str.split" [.str x,.str [c]] Q st:=by
 revert B Q st x c hz hQ
 intros B Q st x c hz hQ;intros A P s φ vs hh hu S ras;obtain⟨v,w,rfl,ra,rb⟩:_:=xw ras;obtain⟨t,rfl⟩:_:=xb ra;obtain⟨u,rfl⟩:_:=xb rb
 have hy:((mkS [c]).length==0)=false:=by rw[z_];rfl
 have hle:=PyProof.Rows.split_le (mkS x) (mkS [c]);rw[z_]at hle
 have one:Txt.split (mkS x) (mkS [c])=[mkS x]->wants (Po B P s.heap φ (Val B P Q)) (fun z z=>False) (.ok (.ret (.ref s.heap.objs.size))) { s with heap:=s.heap.push { cls:=.type "list",data:=.seq #[.str (mkS x) t] } }:=by
  intros e
  have e':uX x c=[x]:=by unfold uX;rw[e];exact rfl
  rw[e']at hQ;exact wd (as:=[.str x]) (vs:=[.str (mkS x) t]) (t:=s.toks) S (⟨_,_,rfl,u4,by exact rfl⟩) hQ
 cases h1:(decide ((mkS x).length<(mkS [c]).length)||decide (strKind (mkS x)<strKind (mkS [c])))
 ·cases hf:(occurrences (mkS x) (mkS [c]) 0 (mkS x).length ((mkS x).length+1)).isEmpty
  ·have e:Txt.split (mkS x) (mkS [c])=partsBetween (mkS x) (occurrences (mkS x) (mkS [c]) 0 (mkS x).length ((mkS x).length+1)) (mkS [c]).length:=by
    unfold Txt.split;rw[if_neg (by rw[h1];decide),if_neg (by rw[hf];decide)]
   refine call_meets F.slot_str_split (typeIs_str _ _ _) F.entry_str_split (F.args_str_split_2 _ _) (meets_str_split_sep _ _ t u h1 hy hf (by rw[z_,sizeLine_eq];exact F1 hz) (by rw[<-e,sizeLine_eq];exact F2 hz hle)) ?_;rw[<-e];exact wd (as:=(uX x c).map AV.str) S (U0 _ s.toks) hQ
  ·exact call_meets F.slot_str_split (typeIs_str _ _ _) F.entry_str_split (F.args_str_split_2 _ _) (meets_str_split_not_found _ _ t u h1 hy hf) (one (by
    unfold Txt.split
    rw[if_neg (by rw[h1];decide),if_pos hf]))
 ·exact call_meets F.slot_str_split (typeIs_str _ _ _) F.entry_str_split (F.args_str_split_2 _ _) (meets_str_split_cannot_occur _ _ t u h1) (one (by
   unfold Txt.split
   rw[if_pos h1]))
end
end
section
open PySem.Builtin
section
variable {B:Base} {Q X:AV->St->Prop} {st:St} {h:Heap} {φ P:List Addr}
theorem xj {b:List UInt8} (hz:b.length<=16777216) (hQ:Q (.int b.length) st):w7 B (.builtin "len") [.bytes b] Q st:=by
 intro A P s φ vs hh hu S ras
 apply jB (yQ ras);intro v ra
 apply zO (zF ra);intro t
 exact len_bytes (by simp;exact F1 hz) (zE S ⟨_,by simpa using yG,hQ⟩)
theorem vH {m:Nat} {xs:List AV} (hm:st[m]?=some (.list xs)) (hz:xs.length<=16777216) (hQ:Q (.int xs.length) st):w7 B (.builtin "len") [.ref m] Q st:=by
 revert B Q st m xs hm hz hQ
 intros B Q st m xs hm hz hQ;intros A P s φ vs hh hu S ras;obtain⟨v,rfl,ra⟩:_:=yQ ras;obtain⟨a,ha,rfl⟩:_:=zJ ra;obtain⟨ys,k,hl,rs⟩:_:=S.listAt ha hm;refine Calls.call_len_list (IsList.of_plain hl) (by rw[List.size_toArray,rs.length];exact J6 (j:=(xs.length)) (F1 hz)) (zE S ⟨.int xs.length,?_,hQ⟩);rw[List.size_toArray,rs.length];exact yG
theorem Wg {c:Nat} (hQ:Q (.int c) st):w7 B (.builtin "ord") [.str [c]] Q st:=by
 intro A P s φ vs hh hu S ras
 apply jB (yQ ras);intro v ra
 apply zO (xb ra);intro t
 exact PySem.P.ord_of_char (zE S (zw _ yG hQ))
theorem Vd {i:Int} (hQ:Q (.int i) st):w7 B (.type "int") [.int i] Q st:=by
 intro A P s φ vs hh hu S ras
 apply jB (yQ ras);intro v ra
 apply zO (zS ra);intro t
 exact call_int_int (z8 S (zw _ yG hQ))
theorem WG {x:List Nat} {i:Int} (hi:PySem.intText? (mkS x)=some i) (hl:x.length<=640) (hQ:Q (.int i) st):w7 B (.type "int") [.str x] Q st:=by
 intro A P s φ vs hh hu S ras
 apply jB (yQ ras);intro v ra
 apply zO (xb ra);intro t
 exact KIN.call_text hi (by rw[z_];exact hl) (zE S (zw _ yG hQ))
noncomputable def wg (i:Int):List Nat:=unS (toString i)
theorem y_ {i:Int} (hl:i.natAbs<2 ^ 1900) (hQ:Q (.str (wg i)) st):w7 B (.type "str") [.int i] Q st:=by
 intro A P s φ vs hh hu S ras
 apply jB (yQ ras);intro v ra
 apply zO (zS ra);intro t
 refine PySem.P.str_of_int ?_ (zE S (zw (.str (wg i)) ?_ hQ))
 ·by_cases h0:i.natAbs=0
  ·rw[h0];exact wB
  ·exact Nat.lt_of_lt_of_le ((Nat.log2_lt h0).mpr hl) (by decide)
 ·skip
  exact⟨_,by rw[wg,qr]⟩
noncomputable def vt (l:List Int):List UInt8:=l.map fun n=>n.toNat.toUInt8
theorem Xu:∀{l:List Int} {vs:List Value},VRs B h φ P (l.map AV.int) vs->IntsAre vs l:=by
 intro l_
 induction l_ with
 | nil =>
  intro vs e
  change _=_ at e;subst e;exact .nil
 | cons n r ih_ =>
  intro vs e
  apply uL (e);intro v t r1 r2
  try clear e
  apply zO (zS r1);intro tk
  exact .cons n tk (ih_ r2)
theorem xv {m:Nat} {l:List Int} (hm:st[m]?=some (.list (l.map AV.int))) (hr:∀n∈l,0<=n/\n<256) (hz:l.length<=16777216) (hQ:Q (.bytes (vt l)) st):w7 B (.type "bytes") [.ref m] Q st:=by
 revert B Q st m l hm hr hz hQ
 intros B Q st m l hm hr hz hQ;intros A P s φ vs hh hu S ras;obtain⟨v,rfl,ra⟩:_:=yQ ras;obtain⟨a,ha,rfl⟩:_:=zJ ra;obtain⟨ys,k,hl,rs⟩:_:=S.listAt ha hm;refine call_bytes_ints (IsList.of_plain hl) (Xu rs) hr (by rw[rs.length,List.length_map,sizeLine_eq];exact hz) hh ?_;intros h' t k' hk;refine zV φ st (S.grow hk) (Go.of_keep hk) ⟨.bytes (vt l),?_,hQ⟩;exact⟨t,rfl⟩
end
end
section
open PySem.Builtin
theorem UQ:typeLookup (.type "bytes") "__class__"=pure (some (.builtin "object.__class__")):=by rw[typeLookup_type,builtinLookup_eq_fast];kernel_rfl
theorem TT:isSubtype (.type "bytes") (.type (".".intercalate ("object.__class__".cutAt '.').dropLast))=pure true:=by rw[F.owner_object_class,isSubtype_type];kernel_rfl
theorem u5:Slot "bytes" "__getattribute__" "bytes.__getattribute__" :=
 .of (owner:="bytes") (n:="__getattribute__") (by rw[typeLookup_type,builtinLookup_eq_fast];kernel_rfl) (by decide +kernel) (by decide +kernel) (by decide +kernel)
  (by first | exact .inl (by decide +kernel) | exact .inr (by decide +kernel)) (by rw[isSubtype_type];kernel_rfl)
theorem QM:entryFor table "bytes.__getattribute__"=some Builtin.«object.__getattribute__» :=
 entryFor_alias (id':="object.__getattribute__") (by kernel_rfl) (by first | rfl | decide +kernel) (by decide +kernel) (by kernel_rfl)
theorem ST (a b:Value):argsOk "bytes.__getattribute__" ⟨[a,b],[]⟩:=by unfold argsOk;kernel_rfl
section
variable {prog:Program} {w:World} {A:Around} {E:Value->Shared->Prop} {h:Heap} {g:Array GenState} {d:Drawn} {t:Nat} {os:OsState} {x:Array UInt8} {u:Tok}
theorem Qf {R:Result->Shared->Prop} (hq:R (.ok (.ret (.type "bytes"))) ⟨h,g,d,t,os⟩) :
  codeAny (model prog w) A (.call (.builtin "getset_descriptor.__get__") ⟨[.builtin "object.__class__",.bytes x u,.type "bytes"],[]⟩) R ⟨h,g,d,t,os⟩:=by
 have hT:(⟨h,g,d,t,os⟩:Shared).TypeIs (.bytes x u) "bytes":=rfl;have hT5:(⟨h,g,d,t,os⟩:Shared).TypeIs (.builtin "object.__class__") "getset_descriptor":=F.typeOf_object_class;have f8:=TT;refine codeAny_call_builtin F.slot_gs_get.plain F.entry_gs_get (F.slot_gs_get.check _ _ _ _ _ _ _ _ hT5 (F.args_gs_get _ _ _) ?_)
 repeat (any_goals (first | assumption | wp_step))
 refine⟨Code.quiet_builtin _ (by decide +kernel),codeAny_builtin F.entry_object_class ?_⟩
 repeat (any_goals (first | assumption | wp_step))
theorem Tb {tk:Tok} {Q:Fin->Shared->Prop} (hq:Q (.done (.ret (.type "bytes"))) ⟨h,g,d,t,os⟩) :
  wpAny (model prog w) A (Builtin.«object.__getattribute__» ⟨[.bytes x u,.str "__class__" tk],[]⟩) Q E ⟨h,g,d,t,os⟩:=by
 have hT:(⟨h,g,d,t,os⟩:Shared).TypeIs (.bytes x u) "bytes":=rfl;have hT5:(⟨h,g,d,t,os⟩:Shared).TypeIs (.builtin "object.__class__") "getset_descriptor":=F.typeOf_object_class;have f4:=UQ;have f5:=F.typeOf_object_class;have f6:=F.slot_gs_get.lookup;have f7:=F.slot_gs_set.lookup
 repeat (any_goals (first | assumption | wp_step))
 refine Qf ?_
 repeat (any_goals (first | assumption | wp_step))
theorem SV {tk:Tok} {R:Result->Shared->Prop} (hq:R (.ok (.ret (.type "bytes"))) ⟨h,g,d,t,os⟩) :
  codeAny (model prog w) A (.call (.builtin "bytes.__getattribute__") ⟨[.bytes x u,.str "__class__" tk],[]⟩) R ⟨h,g,d,t,os⟩ :=
 codeAny_call_builtin u5.plain QM (u5.check _ _ _ _ _ _ _ _ (show (⟨h,g,d,t,os⟩:Shared).TypeIs (.bytes x u) "bytes" from rfl) (ST _ _) (Tb hq))
theorem QB {tk:Tok} {Q:Value->Shared->Prop} (hq:Q (.type "bytes") ⟨h,g,d,t,os⟩):wpAny (model prog w) A (getAttrBy (.bytes x u) (.str "__class__" tk) false) Q E ⟨h,g,d,t,os⟩:=by
 have hT:(⟨h,g,d,t,os⟩:Shared).TypeIs (.bytes x u) "bytes":=rfl;have f2:=u5.lookup;have f3:=u5.bind (.bytes x u)
 repeat (any_goals (first | assumption | wp_step))
 refine SV ?_
 repeat (any_goals (first | assumption | wp_step))
theorem SK {Q:Option Value->Shared->Prop} (hq:Q (some (.type "bytes")) ⟨h,g,d,t+1,os⟩):wpAny (model prog w) A (getAttr? (.bytes x u) "__class__") Q E ⟨h,g,d,t,os⟩:=by
 unfold getAttr? getAttrBy?
 repeat (any_goals (first | assumption | with_reducible apply QB | wp_step))
set_option maxHeartbeats 1000000 in
theorem UM {T:String} {dep:Int} {tk:Tok} {Q:Fin->Shared->Prop} (hne:(Value.type "bytes"==Value.type T)=false) (hty:typeOf (.type T)=pure (.type "type"))
  (hsub:isSubtype (.type "bytes") (.type T)=pure false) (hq:Q (.done (.ret (.bool false))) ⟨h,g,d,t+1,os⟩) :
  wpAny (model prog w) A (Builtin.«isinstance.nested» ⟨[.bytes x u,.type T,.int dep tk],[]⟩) Q E ⟨h,g,d,t,os⟩:=by
 have hT:(⟨h,g,d,t,os⟩:Shared).TypeIs (.bytes x u) "bytes":=rfl
 repeat (any_goals (first | assumption | with_reducible apply SK | wp_step))
theorem R5 {T:String} {s:Shared} {Q:Value->Shared->Prop} (hne:(Value.type "bytes"==Value.type T)=false) (hty:typeOf (.type T)=pure (.type "type")) (hsub:isSubtype (.type "bytes") (.type T)=pure false)
  (hQ:Q (.bool false) { s with toks:=s.toks+1 }):wpAny (model prog w) A (call (.builtin "isinstance") [.bytes x u,.type T]) Q E s:=by
 refine PyProof.Rows.call_isinstance_of ?_;obtain⟨h,g,d,t,os⟩:=s;exact UM hne hty hsub hQ
end
theorem kr:isSubtype (.type "bytes") (.type "bool")=pure false:=by rw[isSubtype_type];kernel_rfl
theorem kA:isSubtype (.type "bytes") (.type "int")=pure false:=by rw[isSubtype_type];kernel_rfl
theorem U8:typeOf (.type "list")=pure (.type "type"):=by kernel_rfl
inductive IsI (st:St):AV->String->Bool->Prop
 | bb {x}:IsI st (.bool x) "bool" true
 | ib {x}:IsI st (.int x) "bool" false
 | yb {x}:IsI st (.bytes x) "bool" false
 | ii {x}:IsI st (.int x) "int" true
 | yi {x}:IsI st (.bytes x) "int" false
 | l {m xs}:st[m]?=some (.list xs)->IsI st (.ref m) "list" true
section
variable {B:Base} {nm:Nat->Str} {nN n:Nat} {sc:Scope} {ρ:Rho} {Q X:AV->St->Prop} {st:St}
theorem RU {A:Around} {P:List Addr} {s:Shared} {φ:List Addr} {a:AV} {T:String} {r:Bool} {v:Value} (hi:IsI st a T r) (S:SR B s φ P st) (ra:VR B s.heap φ P a v) (hQ:Q (.bool r) st) :
  wpAny (model B.prog B.w) A (PySem.call (.builtin "isinstance") [v,.type T]) (Po B P s.heap φ (Val B P Q)) (fun z z=>False) s:=by
 revert B Q st A P s φ a T r v hi S ra hQ
 intros B Q st A P s φ a T r v hi S ra hQ
 cases hi with
 | bb=>rw[jc ra];exact IsiPair.bool_bool (z8 S ⟨_,ya,hQ⟩)
 | ib=>apply zO (zS ra);intro t;exact IsiPair.int_bool (zE S ⟨_,ya,hQ⟩)
 | yb=>apply zO (zF ra);intro t;exact R5 (by decide +kernel) F.isi_meta_bool kr (zE S ⟨_,ya,hQ⟩)
 | ii=>apply zO (zS ra);intro t;exact IsiPair.int_int (z8 S ⟨_,ya,hQ⟩)
 | yi=>apply zO (zF ra);intro t;exact R5 (by decide +kernel) F.isi_meta_int kA (zE S ⟨_,ya,hQ⟩)
 | l hx =>
  obtain⟨a,ha,rfl⟩:=zJ ra;obtain⟨ys,k,hl,rs⟩:=S.listAt ha hx;exact PyProof.Rows.call_isinstance_yes (Tx:="list") ⟨_,hl,rfl⟩ U8 AutoSeq1.sub_list_list (z8 S ⟨_,ya,hQ⟩)
theorem UK {px pos p2:Pos} {e:Expr} {x:Str} {T:String} (hk:sc.names.lookup ("isinstance":Str)=some .globalImplicit) (hg:xl B "isinstance" (.builtin "isinstance"))
  (hkT:sc.names.lookup x=some .globalImplicit) (hd:(x==("__debug__":Str))=false) (hgT:xl B x (.type T))
  (he:∀env,starEach [e,.Name x p2] env=[(false,eval e env),(false,eval (.Name x p2) env)]) (h:WE B nm nN n sc e ρ (fun a st'=>∃r,IsI st' a T r/\Q (.bool r) st') X st) :
  WE B nm nN n sc (.Call (.Name "isinstance" px) [e,.Name x p2] [] pos) ρ Q X st:=by
 revert B nm nN n sc ρ Q X st px pos p2 e x T hk hg hkT hd hgT he h
 intros B nm nN n sc ρ Q X st px pos p2 e x T hk hg hkT hd hgT he h;refine⟨?_⟩;intros c s φ O hs S FF;refine wpAny_Call_Name_kw (wS O S (by unfold Env.kindOf;rw[hs];exact hk) (by decide +kernel) hg ?_);show wpAny _ _ (callWith pos (.builtin "isinstance") [] (backTo pos (starEach [e,.Name x p2] c.env)) []) _ _ s
 have hp:(backTo pos (starEach [e,.Name x p2] c.env)).any (fun x=>x.1)=false:=by rw[he];rfl
 refine callWith_of (P:=fun h=>∀b o,B.H₀.get? b=some o->h.get? b=some o) (by rw[hp];rfl) (fun h hP=>kept_builtin _ _ h hP) ?_;refine v0 hp ?_;rw[he];refine Calls.spliced_cons (wpAny_mono (h.run c s φ O hs S FF) ?_ fun z z y=>y);intros v s₁ p2_;obtain⟨φ₁,st₁,S₁,g₁,a,ra,r,hi,hQ⟩:_:=p2_;refine Calls.spliced_cons (wS O S₁ (by unfold Env.kindOf;rw[hs];exact hkT) hd hgT ?_);refine Calls.spliced_nil ⟨S₁.base,after g₁ (v6 ?_)⟩;exact RU hi S₁ ra hQ
end
end
section
open PySem.Builtin
theorem UI:typeLookup (.type "list") ("keys":Str)=pure none:=by rw[typeLookup_type,builtinLookup_eq_fast];kernel_rfl
theorem Rs {prog:Program} {w:World} {A:Around} {E:Value->Shared->Prop} {s:Shared} {a:Addr} {xs:Array Value} {k:Nat} {Q:Option Value->Shared->Prop}
  (hx:s.heap.get? a=some { cls:=.type "list",dict:=none,data:=.seq xs k,slots:=#[] }) (hA:A.handled=none)
  (h:∀h' tk,(∀b o,s.heap.get? b=some o->h'.get? b=some o)->Q none { s with heap:=h',toks:=tk }):wpAny (model prog w) A (getAttr? (.ref a) "keys") Q E s:=by
 revert prog w A E s a xs k Q hx hA h
 intros prog w A E s a xs k Q hx hA h;obtain⟨hp,g,d,tk,os⟩:_:=s;have hT:∀tk',(⟨hp,g,d,tk',os⟩:Shared).TypeIs (.ref a) "list":=fun z=>⟨_,hx,rfl⟩;have f1:=sub_AttributeError;have f3:=F.slot_list_getattribute.lookup;have f4:=F.slot_list_getattribute.bind (.ref a);have f5:=am_list_getattr_none;unfold getAttr? getAttrBy? getAttrBy
 repeat (any_goals (first | assumption | exact hT _ | ((with_reducible show wpAny _ _ (call (Value.builtin "list.__getattribute__") _ _) _ _ _);refine call_meets F.slot_list_getattribute (hT _) am_entry_list_getattribute (F.args_list_getattribute_2 _ _) (meets_getattribute_miss_list a xs k #[] _ _ UI (by decide +kernel) (by decide +kernel)) ⟨hx,hA,fun h' tk' e hx'=>?_⟩) | wp_step))
 obtain⟨t',u',he⟩:_:=hx'.there;show wpAny _ _ (getattributeRaised _ _ _ _ _ _ _) _ _ _;unfold getattributeRaised
 repeat (any_goals (first | assumption | wp_step))
 exact h _ _ hx'.keeps
end
section
open PySem.Builtin
theorem tC:plainId "dict.update.loop"=true:=by decide +kernel
theorem Zu:entryFor table "dict.update.loop"=some Builtin.«dict.update.loop»:=entryFor_of_fast (by kernel_rfl)
section
variable {prog:Program} {w:World} {K:Type} [DecidableEq K] {knd:KeyKind prog w K} {A:Around} {E:Value->Shared->Prop}
noncomputable def Qv (knd:KeyKind prog w K) (h:Heap) (I d:Addr) (v:Value) (p:K×Value):Prop:=∃a kv,v = .ref a/\IsTup h a #[kv,p.2]/\knd.is p.1 kv=true/\a≠I/\a≠d
theorem Wq {R:Result->Shared->Prop} {l I d:Addr} {vs:List Value} {ps:List (K×Value)} (hh:A.handled=none) (hlen:vs.length=ps.length) (hId:I≠d) (hlI:l≠I) (hld:l≠d) :
  ∀(k i:Nat) (s:Shared) (acc:List (K×Value)),ps.length-i=k->i<=ps.length->s.heap.IsList l vs.toArray->s.heap.IsListIter I l i->s.heap.DictOf knd d acc->acc.length+k<=sizeLine ->
   (∀j v p,i<=j->vs[j]?=some v->ps[j]?=some p->Qv knd s.heap I d v p) ->
   (∀h' t,(∀b o,b≠I->b≠d->s.heap.get? b=some o->h'.get? b=some o)->h'.DictOf knd d (merged acc (ps.drop i))->R (.ok (.ret .none)) { s with heap:=h',toks:=t }) ->
   codeAny (model prog w) A (.builtin "dict.update.loop" ⟨[.ref d,.ref I,rawInt i,.none],[]⟩) R s:=by
 intro k
 induction k with
 | zero =>
  intro i s acc hk hle hl hit hd hz hp hR
  have hin:i=ps.length:=by exact s4 hle hk
  refine codeAny_builtin Zu ?_;rw[Around.under_plainId tC _];show wpAny _ A.in1 (pyNext (.ref I) >>= _) _ _ s;refine wpAny_bind (wpAny_pyNext_list_end hh hit hl (by simp[hlen,hin]) fun h' he=>?_);show wpAny _ _ (Builtin.Dict.addKeywords d [] >>= _) _ _ _;refine wpAny_bind (wpAny_pure (wpAny_pure ?_));refine hR h' s.toks (fun b o hb z e=>he b o hb e) ?_;rw[hin,List.drop_length];exact hd.extBut he (Ne.symm hId)
 | succ k ih =>
  intro i s acc hk hle hl hit hd hz hp hR
  have lt:i<ps.length:=by exact s5 hk
  obtain⟨v,hv⟩:∃v,vs[i]?=some v:=⟨vs[i]'(F2 (Re hlen) lt),List.getElem?_eq_getElem (F2 lt (Re hlen))⟩;obtain⟨p,hpi⟩:∃p,ps[i]?=some p:=⟨ps[i],List.getElem?_eq_getElem lt⟩;refine Sr (hp i v p (wC) hv hpi) fun a kv q1z n2z hkv haI had=>?_;subst q1z;refine yY (n2z) fun o ho hc n4z=>?_;try clear n2z;refine zX (n4z) fun n hdat=>?_;try clear n4z;refine codeAny_builtin Zu ?_;rw[Around.under_plainId tC _];show wpAny _ A.in1 (pyNext (.ref I) >>= _) _ _ s;refine wpAny_bind (wpAny_pyNext_list_item (x:=.ref a) hit hl (by simpa using hv) fun h' hit' hs=>?_);have hoa:h'.get? a=some o:=(hs.2 a haI).trans ho;have hd':h'.DictOf knd d acc:=hd.extBut hs.extBut (Ne.symm hId);refine wpAny_bind (wpAny_holding (wpAny_bind (wpAny_tryCatch ?_)));unfold Builtin.Dict.pairItems;refine wpAny_bind (wpAny_typeOf (T:="tuple") ⟨o,hoa,hc⟩ ?_);refine wpAny_ite_true (by decide) ?_;refine wpAny_bind (wpAny_seqItems hoa hdat ?_);refine wpAny_pure ?_;show wpAny _ _ (holding _ (dictSet d kv p.2)) _ _ _;refine wpAny_holding (wpAny_dictSet_pairs hkv hd' (fun h₂ hd2 hs2=>?_) (F1 hz));refine wpAny_pure ?_;refine⟨plainId_quiet tC _,?_⟩;show codeAny _ _ (.builtin "dict.update.loop" ⟨[.ref d,.ref I,rawInt ((i:Int)+1),.none],[]⟩) _ _;rw[show ((i:Int)+1)=((i+1:Nat):Int) from by push_cast;rfl];have keep:∀b o,b≠I->b≠d->s.heap.get? b=some o->h₂.get? b=some o:=fun b o hb hb' e=>(hs2.2 b hb').trans ((hs.2 b hb).trans e)
  have hdrop:ps.drop i=p::ps.drop (i+1):=by
   rw[List.drop_eq_getElem_cons lt];rw[List.getElem?_eq_getElem lt]at hpi;rw[Option.some.inj hpi]
  refine ih (i+1) _ (stored acc p.1 p.2) (s3 hk) lt ((hl.extBut hs.extBut hlI).extBut hs2.extBut hld) ?_ hd2 ?_ ?_ fun h₃ t hk3 hd₃=>?_
  ·refine zn (hit') fun oI hoI rI=>?_;try clear hit';exact⟨oI,(hs2.2 I hId).trans hoI,rI⟩
  ·have hl':(stored acc p.1 p.2).length<=acc.length+1:=by unfold stored;split<;>simp
   exact F2 hz hl'
  ·intro j v' p' hj hv' hp';refine Sr (hp j v' p' (F1 hj) hv' hp') fun a' kv' e1 n3z e3 e4 e5=>?_;refine zn (n3z) fun o' ho' r'=>?_;try clear n3z;exact⟨a',kv',e1,⟨o',keep _ _ e4 e5 ho',r'⟩,e3,e4,e5⟩
  ·refine hR h₃ t (fun b o hb hb' e=>hk3 b o hb hb' (keep b o hb hb' e)) ?_;rw[hdrop];exact hd₃
end
end
section
open PySem.Builtin
section
variable {B:Base} {K K':Type} [DecidableEq K] [DecidableEq K'] (D:DK B K K') {Q:AV->St->Prop} {st:St}
theorem T2 {h:Heap} {φ P:List Addr}:∀{kvs:List (K×AV)} {vs:List Value},VRs B h φ P (kvs.map fun p=>.tup [D.key p.1,p.2]) vs ->
  ∃us,VRs B h φ P (kvs.map (fun x=>x.2)) us /\ ∀(j:Nat) (v:Value) (p:K'×Value),vs[j]?=some v->((kvs.map fun p=>D.f p.1).zip us)[j]?=some p ->
   ∃a kv,v = .ref a/\IsTup h a #[kv,p.2]/\D.knd.is p.1 kv=true:=by
 intro l_
 induction l_ with
 | nil =>
  intro vs e
  change _=_ at e
  subst e;exact zw ([]) (rfl) (fun j v p e=>by exact nomatch e)
 | cons q r ih_ =>
  intro vs e
  apply uL (e);intro v t r1 r2
  try clear e;refine zn (ih_ r2) fun us rus hp=>?_
  apply Pc (r1);intro a ws h1 h2 h3 h4
  try clear r1;refine xH (h4) fun kv t' q3z rk h5=>?_;try clear h4;subst q3z;refine xH (h5) fun u t'' q4z ru h6=>?_;try clear h5;subst q4z;subst h6;refine⟨u::us,zV u us rfl ru rus,fun j v p ev ep=>?_⟩
  cases j with
  | zero =>
   simp at ev ep;subst ev ep;exact zV a kv rfl h3 (D.is rk)
  | succ j =>
   simp at ev ep;exact hp j v p ev (by simpa using ep)
theorem wz {m:Nat} {kvs:List (K×AV)} (hm:st[m]?=some (.list (kvs.map fun p=>.tup [D.key p.1,p.2]))) (hz:kvs.length<=16777216) (h:∀ep,Q (.ref st.length) (st++[D.ao ep (yy [] kvs)])):w7 B (.type "dict") [.ref m] Q st:=by
 intro A P s φ vs hh hu S ras
 apply jB (yQ ras);intro v ra
 refine zn (zJ ra) fun l hl' q7z=>?_;subst q7z;refine wL (S.listAt hl' hm) fun vs c hl rs=>?_;refine zn (T2 D rs) fun us rus hp=>?_
 have hvl:vs.length=kvs.length:=by rw[rs.length,List.length_map]
 have hul:us.length=kvs.length:=by rw[rus.length,List.length_map]
 have hpl:((kvs.map fun p=>D.f p.1).zip us).length=kvs.length:=by exact zl hul
 have old:∀b o,s.heap.get? b=some o->b≠s.heap.objs.size:=fun b o e=>Nat.ne_of_lt (Heap.lt_size e);refine callType_codes (Q₁:=fun obj s₁=>obj = .ref s.heap.objs.size/\s₁={ s with heap:=s.heap.push { cls:=.type "dict",data:=.dict #[] } }) F.kt_called_dict (F.kt_typeCall_dict_1 _) F.entry_dict_init (kt_code_dict_new _ ⟨rfl,rfl⟩) ?_;intro obj s₁ p1z;refine xn (p1z) fun q8z q9z=>?_;try clear p1z;subst q8z;subst q9z;have hnew:(s.heap.push { cls:=.type "dict",data:=.dict #[] }).DictOf D.knd s.heap.objs.size []:=Heap.DictOf.new s.heap;have hlp:(s.heap.push { cls:=.type "dict",data:=.dict #[] }).get? l=some { cls:=.type "list",dict:=none,data:=.seq vs.toArray c,slots:=#[] }:=Heap.get?_push_of_some _ hl;refine d3_ hnew.typeIs (F.args_dict_init_2 _ _) ?_;unfold Builtin.«dict.__init__»;refine wpAny_bind ?_;unfold Builtin.Dict.selfAndRest;refine wpAny_bind (wpAny_notOrdered_dict hnew.typeIs ?_);show wpAny _ _ (pure (s.heap.objs.size,[Value.ref l])) _ _ _;refine wpAny_pure ?_;show wpAny _ _ (Builtin.Dict.updateFrom "dict.__init__" s.heap.objs.size (.ref l) [] .none) _ _ _;unfold Builtin.Dict.updateFrom;refine wpAny_bind (wpAny_typeOf (T:="list") (zw _ hlp rfl) ?_);refine wpAny_ite_true (by decide) ?_;refine wpAny_bind (Rs hlp hh fun h1 tk hk1=>?_);refine wpAny_ite_true rfl ?_;refine wpAny_bind (wpAny_rule ?_);have hl₁:=hk1 _ _ hlp;refine wpAny_bind (wpAny_pyIter_list (IsList.of_plain hl₁) ?_);refine wpAny_pure ?_;have hk2:∀b o,s.heap.get? b=some o->(h1.push { cls:=.type "list_iterator",data:=.fields #[.ref l,.int 0 0] }).get? b=some o:=fun b o e=>Heap.get?_push_of_some _ (hk1 b o (Heap.get?_push_of_some _ e))
 have hd1:h1.DictOf D.knd s.heap.objs.size []:=by
  refine Uh (hnew) fun o es ep e r=>?_;try clear hnew;exact Qw o es ep (hk1 _ _ e) r
 have hI:∀b o,h1.get? b=some o->b≠h1.objs.size:=fun b o e=>Nat.ne_of_lt (Heap.lt_size e)
 have hId:h1.objs.size≠s.heap.objs.size:=by
  refine Uh (hd1) fun o es ep e r=>?_;try clear hd1;exact(hI _ _ e).symm
 refine⟨plainId_quiet tC _,Wq (A:=A.in1) (knd:=D.knd) (vs:=vs) (ps:=(kvs.map fun p=>D.f p.1).zip us) hh (by rw[hvl,hpl]) hId (hI l _ hl₁) (old l _ hl) _ 0 _ [] rfl (wD) (IsList.of_plain (Heap.get?_push_of_some _ hl₁)) (uG ({ cls:=.type "list_iterator",data:=.fields #[.ref l,.int 0 0] }) (Heap.get?_push_size _ rfl) rfl rfl) ?_ ?_ ?_ ?_⟩
 ·refine Uh (hd1) fun o es ep e r=>?_;try clear hd1;exact Qw o es ep (Heap.get?_push_of_some _ e) r
 ·rw[hpl,sizeLine_eq];simp;exact hz
 ·intro j v p _ ev ep;refine xH (hp j v p ev ep) fun a kv e1 n10z e3=>?_;refine zn (n10z) fun o ho r=>?_;try clear n10z;exact⟨a,kv,e1,(zw o (hk2 _ _ ho) r),e3,hI a _ (hk1 a _ (Heap.get?_push_of_some _ ho)),old a _ ho⟩
 ·intro h' t hk' hd';rw[List.drop_zero]at hd';refine zn (jd D (more:=kvs) (kvs:=[]) (ws:=[]) (rfl) rus) fun ws' e rws=>?_
  have e':merged [] ((kvs.map fun p=>D.f p.1).zip us)=((yy [] kvs).map fun p=>D.f p.1).zip ws':=by exact e
  rw[e']at hd';refine zX (hd'.dictAt) fun ep hd''=>?_;have hk:∀b o,s.heap.get? b=some o->h'.get? b=some o:=fun b o e=>hk' b o (hI b _ (hk1 b o (Heap.get?_push_of_some _ e))) (old b o e) (hk2 b o e);obtain⟨S',g⟩:=S.more (o:=default) (o':=D.ao ep (yy [] kvs)) (t:=t) hk (wL (hd'') fun o zy e zy=>⟨o,e⟩) fun g=>D.or_iff.mpr ⟨ws',hd'',rws.go g⟩;exact⟨rfl,_,_,S',g,.ref st.length,by exact(zw _ (by rw[<-S.len];exact gn) rfl),h ep⟩
end
end
section
open PySem.Builtin
theorem YN:Slot "bytes" "__lt__" "bytes.__lt__" :=
 .of (owner:="bytes") (n:="__lt__") (by rw[typeLookup_type,builtinLookup_eq_fast];kernel_rfl) (by decide +kernel) (by decide +kernel) (by decide +kernel)
  (by first | exact .inl (by decide +kernel) | exact .inr (by decide +kernel)) (by rw[isSubtype_type];kernel_rfl)
theorem U2:entryFor table "bytes.__lt__"=some Builtin.«bytes.__lt__»:=entryFor_of_tree (by kernel_rfl)
theorem Sc (a b:Value):argsOk "bytes.__lt__" ⟨[a,b],[]⟩:=by unfold argsOk;kernel_rfl
noncomputable def uz (b:List UInt8):List Nat:=b.map UInt8.toNat
theorem YP:∀a b:List UInt8,(Bytes.order a b == .lt)=decide (uz a<uz b)
 | [],[]=>by exact rfl
 | [],_::_=>by exact rfl
 | _::_,[]=>by exact rfl
 | x::a,y::b=>by
  have ih:=YP a b;unfold uz at ih ⊢;rw[List.map_cons,List.map_cons];unfold Bytes.order
  by_cases h1:x<y
  ·rw[if_pos h1];have:x.toNat<y.toNat:=h1;simp -iota [List.cons_lt_cons_iff,this]
  ·rw[if_neg h1]
   by_cases h2:x>y
   ·rw[if_pos h2];have h3:y.toNat<x.toNat:=h2
    have h4:¬x.toNat<y.toNat:=by exact Qt (F1 h3)
    have h5:¬x.toNat=y.toNat:=by exact Qr (F1 h3)
    simp -iota [List.cons_lt_cons_iff,h4,h5]
   ·rw[if_neg h2]
    have h3:x.toNat=y.toNat:=by
     have a1:¬x.toNat<y.toNat:=h1;have a2:¬y.toNat<x.toNat:=h2;exact AS (F1 (Nt a2)) (F1 (Nt a1))
    rw[ih];simp -iota [List.cons_lt_cons_iff,h3]
noncomputable def WC:PyProof.Rows.KeyKind where
 α:=List Nat
 blt a b:=decide (a<b)
 irrefl a:=by simpa using List.lt_irrefl a
 trans a b c h1 h2:=by simp -iota only[decide_eq_true_eq]at *;exact List.lt_trans h1 h2
 negTrans a b c h:=by
  simp -iota only[decide_eq_true_eq]at *
  by_cases hab:a<b
  ·exact .inl hab
  ·exact .inr (List.lt_of_le_of_lt (List.not_lt.mp hab) h)
 total a b h1 h2:=by simp -iota only[decide_eq_false_iff_not]at *;exact List.le_antisymm (List.not_lt.mp h2) (List.not_lt.mp h1)
 keyOf v:=match v with | .bytes x _=>some (uz x.toList) | _=>none
 dflt:=[]
section
variable {prog:Program} {w:World} {A:Around} {E:Value->Shared->Prop} {s:Shared}
theorem UO (b c:Array UInt8) (t u:Tok):Gives (Builtin.«bytes.__lt__» ⟨[.bytes b t,.bytes c u],[]⟩) (.val (.bool (decide (uz b.toList<uz c.toList)))):=by
 refine .of_wp fun M A E s Q hq=>?_;show wpAny M A (isInstance (.bytes c u) (.type "bytes") >>= fun r=>_) _ E s;refine wpAny_bind (wpAny_isInstance (typeIs_bytes s c u) F.sub_bytes_bytes ?_);exact wpAny_pure (zw _ rfl (by rw[<-YP]at hq;exact hq))
theorem XG {a b:Array UInt8} {t u:Tok} {Q:Bool->Shared->Prop} (h:Q (decide (uz a.toList<uz b.toList)) s):wpAny (model prog w) A (oneLt' true (.bytes a t) (.bytes b u)) Q E s:=by
 rw[oneLt'_eq];simp -iota only[if_true];refine wpAny_bind (wpAny_cRoomFor_byValue rfl ?_);refine wpAny_bind (wpAny_callSpecialIfBound?_slot (typeIs_bytes s a t) YN (call_gives YN (typeIs_bytes s a t) U2 (Sc _ _) (UO a b t u) ?_));exact wpAny_truthy_bool h
end
theorem ZI:WC.OneLt:=by
 intro prog w A E s x y a b Q ha hb h
 cases x<;>simp only[WC,reduceCtorEq]at ha
 cases y<;>simp only[WC,reduceCtorEq]at hb
 obtain rfl:=Option.some.inj ha;obtain rfl:=Option.some.inj hb;exact XG h
theorem kB {v1 v2:Value} {vs:List Value} (hS:∀v∈v1::v2::vs,∃b t,v=Value.bytes b t):keyKind' (v1::v2::vs).toArray=pure oneType':=by
 have first:∀{vs:List Value},(∀v∈vs,∃b t,v=Value.bytes b t)->vs.mapM firstOfTuple'=pure (vs.map fun z=>none):=by
  intro vs
  induction vs with
  | nil=>intro _;exact rfl
  | cons v r ih =>
   intro h
   apply RY (h v (List.mem_cons_self ..));intro b t
   rw[List.mapM_cons,show firstOfTuple' (.bytes b t)=pure none from rfl,ih fun u hu=>h u (List.mem_cons_of_mem _ hu)];exact rfl
 have types:∀{vs:List Value},(∀v∈vs,∃b t,v=Value.bytes b t)->vs.mapM typeOf=pure (vs.map fun z=>Value.type "bytes"):=by
  intro vs
  induction vs with
  | nil=>intro _;exact rfl
  | cons v r ih =>
   intro h
   apply RY (h v (List.mem_cons_self ..));intro b t
   rw[List.mapM_cons,ih fun u hu=>h u (List.mem_cons_of_mem _ hu)];show (pure (Value.type "bytes") >>= fun b=>pure _ >>= fun bs=>pure (b::bs))=_;exact rfl
 rw[keyKind'_eq,List.mapM_toArray,first hS];simp only[map_pure,pure_bind];rw[if_neg (by simp),if_neg (nofun)];rw[oneTypeOnly'_eq,List.mapM_toArray,types hS];simp only[map_pure,pure_bind]
 have hall:((List.map (fun z=>Value.type "bytes") (v1::v2::vs)).toArray.all fun x=>x==Value.type "bytes")=true:=by
  simp only[List.all_toArray,List.all_map,List.all_eq_true];intro _ _
  rfl
 have h0:(List.map (fun z=>Value.type "bytes") (v1::v2::vs)).toArray[0]?=some (Value.type "bytes"):=by exact rfl
 rw[h0];simp only[hall,if_true,pure_bind,Option.isSome_some]
end
section
open PySem.Builtin
noncomputable def vh:Value->List UInt8
 | .bytes b _=>b.toList
 | _=>[]
section
variable {B:Base} {Q:AV->St->Prop} {st:St}
theorem Va {h:Heap} {φ P:List Addr}:∀{vs:List Value},(∀v∈vs,∃b t,v=Value.bytes b t)->VRs B h φ P ((vs.map vh).map AV.bytes) vs:=by
 intro l_
 induction l_ with
 | nil =>
  intro _;exact rfl
 | cons v r ih_ =>
  intro e
  apply RY (e v (List.mem_cons_self ..));intro b t
  refine zV _ r rfl ?_ (ih_ fun u hu=>e u (List.mem_cons_of_mem _ hu));exact⟨t,by simp[vh]⟩
theorem VV (hB:BOk B) {m ep:Nat} {kvs:List (List UInt8×AV)} (hm:st[m]?=some (.dictB ep kvs)) (hz:kvs.length<64)
  (h:∀ks:List (List UInt8),ks.Perm (kvs.map (fun x=>x.1))->Q (.ref st.length) (st++[.list (ks.map AV.bytes)])):w7 B (.builtin "sorted") [.ref m] Q st:=by
 revert B Q st hB m ep kvs hm hz h
 intros B Q st hB m ep kvs hm hz h;intros A P s φ vs hh hu S ras;obtain⟨v,rfl,ra⟩:_:=yQ ras;obtain⟨d,hd',rfl⟩:_:=zJ ra;obtain⟨ws,hd,rs⟩:_:=S.objs m d _ hd' hm;have lo:=S.notSys hB (List.mem_of_getElem? hd')
 have hlen:((kvs.map (fun x=>x.1)).zip ws).length=kvs.length:=by simp[rs.length]
 refine Calls.call_function_entry kind_sorted plain_sorted entry_sorted (args_sorted1 _) ?_;unfold Builtin.«sorted»;refine wpAny_bind (m:=checkCount "sorted" 1 1 _) (wpAny_pure ?_);refine wpAny_bind (kdu_collect (A:=A.in1) (kdl_dict (knd:=bytesKind B.prog B.w) (kvs:=(kvs.map (fun x=>x.1)).zip ws) (ep:=ep) lo) hh hd (by rw[hlen,sizeLine_eq];exact F1 hz) ?_);intros h1 tk acc hk hacc;obtain⟨hsz,hat⟩:_:=hacc;rw[hlen]at hsz
 have cell:∀(j:Nat) (u:Value),acc.toList[j]?=some u->∃k t,(kvs.map (fun x=>x.1))[j]?=some k/\u = .bytes k.toArray t:=by
  intros j u hu;obtain⟨k,x,hx,hkk⟩:_:=hat j u (by rw[<-Array.getElem?_toList];exact hu);rw[List.getElem?_zip_eq_some]at hx;obtain⟨t,rfl⟩:_:=isBytes_shape hkk;exact wm k t hx.1 rfl
 have allB:∀u∈acc.toList,∃b t,u=Value.bytes b t:=by
  intros u hu;obtain⟨j,hj⟩:_:=List.mem_iff_getElem?.mp hu;obtain⟨k,t,_,e⟩:_:=cell j u hj;exact X0 _ t e
 have keys:acc.toList.map vh=kvs.map (fun x=>x.1):=by
  apply List.ext_getElem?
  intros j;rw[List.getElem?_map]
  rcases tF (acc.toList[j]?)with hu | w1_
  ·try rewrite[hu]
   have:acc.toList.length<=j:=List.getElem?_eq_none_iff.mp hu;rw[List.getElem?_eq_none (by simp at this ⊢;exact F2 (Re hsz) this)];rfl
  ·obtain⟨u,hu⟩:_:=w1_
   try rewrite[hu]
   obtain⟨k,t,e,rfl⟩:_:=cell j u hu;rw[e];simp[vh]
 have hal:acc.toList.length=kvs.length:=by rw[Array.length_toList];exact hsz
 refine wpAny_bind (wpAny_newList ?_ (by rw[hal,sizeLine_eq];exact F1 hz));have hoL:(h1.push { cls:=.type "list",data:=.seq acc.toList.toArray }).get? h1.objs.size=some (seqObj "list" acc.toList.toArray 0):=Heap.get?_push_size _ rfl;refine wpAny_bind (wpAny_holding (wpAny_call_entry slot_list_sort (zw _ hoL rfl) entry_list_sort (list_sort_treeK (s:={ s with heap:=h1.push { cls:=.type "list",data:=.seq acc.toList.toArray },toks:=tk }) ZI hoL ?_ ?_ (F2 hz (Le hal)) ?_) (args_list_sort _)))
 ·intros p hp;rw[pairsOf_toList]at hp;obtain⟨b,t,e⟩:_:=allB _ (mem_zip_self hp).2;exact⟨uz b.toList,by rw[e];rfl⟩
 ·intros v1 v2 rest e;exact kB (by rw[<-e];exact allB)
 ·intros st' a1 a2;refine zw _ rfl ?_
  have pm:((arrOf st').map (fun x=>x.2)).toList.Perm acc.toList:=by
   have:=a1.toList.map (fun x=>x.2);rw[pairsOf_toList]at this;simpa[List.map_snd_zip]using this
  obtain⟨e,hat'⟩:_:=sortedHeap_at (out:=(arrOf st').map (fun x=>x.2)) hoL
  have hks:(((arrOf st').map (fun x=>x.2)).toList.map vh).Perm (kvs.map (fun x=>x.1)):=by
   have:=pm.map vh
   rwa [keys]at this
  have allO:∀u∈((arrOf st').map (fun x=>x.2)).toList,∃b t,u=Value.bytes b t:=fun u hu=>allB u (pm.mem_iff.mp hu)
  have hk':∀b o,h1.get? b=some o->(sortedHeap (h1.push { cls:=.type "list",data:=.seq acc.toList.toArray }) h1.objs.size acc.toList ((arrOf st').map (fun x=>x.2))).get? b=some o:=by
   intros b o e;have l1:=Heap.lt_size e;rw[sortedHeap_old (Nat.ne_of_lt l1) (Heap.lt_size (Heap.get?_push_of_some _ e))];exact Heap.get?_push_of_some _ e
  have S₁:=S.grow (h':=h1) (t:=tk) hk;obtain⟨S',g⟩:_:=S₁.more (o:=default) (o':=.list ((((arrOf st').map (fun x=>x.2)).toList.map vh).map AV.bytes)) (t:=tk) hk' ⟨_,hat'⟩ fun g=>(wm (((arrOf st').map (fun x=>x.2)).toList) e hat' (Va allO));have g₀:Go P [] s.heap φ h1 φ:=Go.of_keep hk;refine wpAny_pure (zw _ rfl ?_);exact⟨_,_,S',g₀.trans g,.ref st.length,by exact(zw _ (by rw[<-S.len];exact gn) rfl),h _ hks⟩
end
end
noncomputable def zx (l:List String) (i:Nat):Str:=Str.ofString (l.getD i "?")
section
variable {B:Base} {nm:Nat->Str} {nN n:Nat} {sc:Scope} {ρ:Rho} {R:Fl->Rho->St->Prop} {X:AV->Rho->St->Prop} {QT:Bool->St->Prop} {st:St}
theorem zo {A C:Prop} (h:A):if true=true then A else C:=by exact h
theorem zm {A C:Prop} (h:C):if false=true then A else C:=by exact h
theorem bo {b:Bool} (h1:b=true->QT true st) (h2:b=false->QT false st):xR QT (.bool b) st:=by
 cases b with
 | true=>exact zw _ rfl (h1 rfl)
 | false=>exact zw _ rfl (h2 rfl)
theorem bod {p:Prop} [Decidable p] (h1:p->QT true st) (h2:¬p->QT false st):xR QT (.bool (decide p)) st :=
 bo (fun e=>h1 (of_decide_eq_true e)) fun e=>h2 (of_decide_eq_false e)
theorem bon {p:Prop} [Decidable p] (h1:p->QT false st) (h2:¬p->QT true st):xR QT (.bool (!decide p)) st :=
 bo (fun e=>h2 (by simpa using e)) fun e=>h1 (by simpa using e)
theorem WS.mono {p:Stmt} {R':Fl->Rho->St->Prop} {X':AV->Rho->St->Prop} (h:WS B nm nN n sc p ρ R X st) (hR:∀f ρ st,R f ρ st->R' f ρ st) (hX:∀t ρ st,X t ρ st->X' t ρ st):WS B nm nN n sc p ρ R' X' st:=by
 revert B nm nN n sc ρ R X st p R' X' h hR hX
 intros B nm nN n sc ρ R X st p R' X' h hR hX;refine⟨?_⟩;intros c s φ O hs S F;refine wpAny_mono (h.run c s φ O hs S F) ?_ ?_
 ·intros f s₁ p2_;obtain⟨φ₁,st₁,r1,S₁,g₁,F₁,h1⟩:_:=p2_
  cases f with
  | next=>exact yD φ₁ st₁ r1 S₁ g₁ F₁ (hR _ _ _ h1)
  | cont=>exact yD φ₁ st₁ r1 S₁ g₁ F₁ (hR _ _ _ h1)
  | brk=>exact yD φ₁ st₁ r1 S₁ g₁ F₁ h1
  | ret v =>
   obtain⟨a,ra,h1⟩:_:=h1;exact yD φ₁ st₁ r1 S₁ g₁ F₁ ⟨a,ra,hR _ _ _ h1⟩
 ·intros x s₁ h;obtain⟨φ₁,st₁,told,r1,S₁,g₁,F₁,e1,h1⟩:_:=h;exact Uz φ₁ st₁ told r1 S₁ g₁ F₁ e1 (hX _ _ _ h1)
theorem xx {p:Stmt} {ps:List Stmt} (J:Rho->St->Prop) (h1:WS B nm nN n sc p ρ (fun f r' st'=>match f with | .next=>J r' st' | f=>R f r' st') X st) (h2:∀r' st',J r' st'->WSs B nm nN n sc ps r' R X st'):WSs B nm nN n sc (p::ps) ρ R X st :=
 za (h1.mono (fun f r' st' h=>match f,h with
  | .next,h=>h2 r' st' h
  | .cont,h=>h
  | .ret _,h=>h) fun z z z h=>h)
end
theorem WE.mono {B:Base} {nm:Nat->Str} {nN n:Nat} {sc:Scope} {e:Expr} {ρ:Rho} {Q Q' X X':AV->St->Prop} {st:St} (h:WE B nm nN n sc e ρ Q X st) (hQ:∀a st,Q a st->Q' a st) (hX:∀a st,X a st->X' a st):WE B nm nN n sc e ρ Q' X' st :=
 ⟨fun c s φ O hs S F=>v9 (h.run c s φ O hs S F) (fun _ _ _ _ zz=>zn zz fun a ra q=>⟨a,ra,hQ _ _ q⟩) hX⟩
theorem Su {B:Base} {nm:Nat->Str} {nN n:Nat} {sc:Scope} {ρ:Rho} {Q X:AV->St->Prop} {st:St} {l m r:Expr} {op1 op2:CmpOp} {pos:Pos} (hm:lastMarks [op1,op2] [m,r]=false)
  (h:WE B nm nN n sc l ρ (fun a st₁=>WE B nm nN n sc m ρ (fun b st2=>yl B (compareOp op1) a b (xR fun t st₃=>if t then WE B nm nN n sc r ρ (fun d st4=>yl B (compareOp op2) b d (xR fun t st=>Q (.bool t) st) st4) X st₃ else Q (.bool false) st₃) st2) X st₁) X st) :
  WE B nm nN n sc (.Compare l [op1,op2] [m,r] pos) ρ Q X st :=
 (R3 (QT:=fun t st=>Q (.bool t) st) hm h).mono (fun _ _ zz=>zn zz fun b e q=>e▸q) fun z z q=>q
theorem zg {ρ:Rho} {i:Nat} {a:AV}:(ρ.set i a).get i=some a:=by rw[Rho.get_set,if_pos rfl]
noncomputable def yX:List (String×Value):=[("bytes",.type "bytes"),("ord",.builtin "ord"),("len",.builtin "len"),("isinstance",.builtin "isinstance"),("bool",.type "bool"),("int",.type "int"),("str",.type "str"),("list",.type "list"),("dict",.type "dict"),("sorted",.builtin "sorted"),("range",.type "range"),("enumerate",.type "enumerate")]
noncomputable def Glo (B:Base):Prop:=∀(i:Nat) (x:String) (v:Value),yX[i]?=some (x,v)->xl B (Str.ofString x) v
theorem vp {B:Base} {nm:Nat->Str} {nN n:Nat} {sc:Scope} {ρ:Rho} {Q X:AV->St->Prop} {st:St} (G:Glo B) (i:Nat) {x:String} {f:Value} {px pos:Pos} {es:List Expr} (hi:yX[i]?=some (x,f)) (hk:sc.names.lookup (Str.ofString x)=some .globalImplicit) (hd:(Str.ofString x==("__debug__":Str))=false)
  (hK:sM B f) (he:∀env,(starEach es env).any (fun x=>x.1)=false) (h:WEs B nm nN n sc es ρ (fun as st'=>w7 B f as Q st') X st):WE B nm nN n sc (.Call (.Name (Str.ofString x) px) es [] pos) ρ Q X st :=
 qX hk hd (G i x f hi) hK he ⟨fun c s φ pos O hs S F=>v9 (h.run c s φ pos O hs S F) (fun _ _ _ _ zz=>zn zz fun as ras q=>⟨as,ras,Vs q⟩) fun z z q=>q⟩
structure Nms (l:List String):Prop where
 ok:∀i,i<l.length->(zx l i==("__debug__":Str))=false/\(zx l i==("__classdict__":Str))=false
 inj:u3 (zx l) l.length
theorem Nms.of {l:List String} (h:(List.range l.length).all (fun i=>!(zx l i==("__debug__":Str))&&!(zx l i==("__classdict__":Str))&&(List.range l.length).all fun j=>i==j||!(zx l i==zx l j))=true):Nms l:=by
 revert l h
 intros l h;rw[List.all_eq_true]at h;refine⟨?_,?_⟩
 ·intros i hi;have:=h i (List.mem_range.mpr hi);simp only[Bool.and_eq_true,Bool.not_eq_true']at this;exact this.1
 ·intros i j hi hj e;have:=h i (List.mem_range.mpr hi);simp only[Bool.and_eq_true]at this;have:=List.all_eq_true.mp this.2 j (List.mem_range.mpr hj);rw[Bool.or_eq_true]at this
  rcases this with q | q
  ·exact eq_of_beq q
  ·rw[e]at q;simp at q
theorem wM {B:Base} {n:Nat} {sc:Scope} {ρ:Rho} {Q X:AV->St->Prop} {st:St} {l:List String} {i:Nat} {a:AV} {pos:Pos} (N:Nms l) (hl:i<l.length) (hi:ρ.get i=some a) (h:Q a st):WE B (zx l) l.length n sc (.Name (zx l i) pos) ρ Q X st :=
 TK (N.ok i hl).1 (N.ok i hl).2 hi h
section
variable {B:Base} {n:Nat} {R:Fl->Rho->St->Prop} {X:AV->Rho->St->Prop} {st:St}
noncomputable def X2 (i:Int):AV:=if 48<=i/\i<=57 then .int (i-48) else if 65<=i/\i<=70 then .int (i-55) else if 97<=i/\i<=102 then .int (i-87) else .none
noncomputable def nHex:List String:=["octet"]
theorem ZV:Nms nHex:=.of (by kernel_rfl)
theorem wc {l:List String} {sc:Scope} {ρ:Rho} {i a b:Int} {k:Nat} {p1 p2 p3 p4:Pos} {k1 k2:Nat} {QT:Bool->St->Prop} {XE:AV->St->Prop} (N:Nms l) (hl:k<l.length) (hi:ρ.get k=some (.int i)) (h1:a<=i/\i<=b->QT true st) (h2:¬(a<=i/\i<=b)->QT false st) :
  WT B (zx l) l.length n sc (.Compare (.Constant (.int a) k1 p1) [.LtE,.LtE] [.Name (zx l k) p2,.Constant (.int b) k2 p3] p4) ρ QT XE st :=
 SB rfl (zb (wM N hl hi (z6 rfl (bod (fun q1=>zo (zb (z6 rfl (bod (fun q2=>h1 ⟨q1,q2⟩) (fun q2=>h2 fun q=>q2 q.2))))) (fun q1=>zm (h2 fun q=>q1 q.1))))))
theorem Si {i:Int} (h:∀ρ,R (.ret (X2 i)) ρ st):WSs B (zx nHex) 1 n (zT 6) (xq 6) (Rho.of [0] [.int i]) R X st:=by
 revert B n R X st i h
 intros B n R X st i h;refine za (z7 (wc (k:=0) ZV (by decide) rfl (?_) (?_)))
 ·intros q1;refine zo ?_;refine za (zq (ze (wM (i:=0) ZV (by decide) rfl (zb (w8 ?_)))));have:=h (Rho.of [0] [.int i])
  rwa [X2,if_pos q1]at this
 intros q1;refine zm (zd ?_);refine za (z7 (wc (k:=0) ZV (by decide) rfl (?_) (?_)))
 ·intros q2;refine zo ?_;refine za (zq (ze (wM (i:=0) ZV (by decide) rfl (zb (w8 ?_)))));have:=h (Rho.of [0] [.int i])
  rwa [X2,if_neg q1,if_pos q2]at this
 intros q2;refine zm (zd ?_);refine za (z7 (wc (k:=0) ZV (by decide) rfl (?_) (?_)))
 ·intros q3;refine zo ?_;refine za (zq (ze (wM (i:=0) ZV (by decide) rfl (zb (w8 ?_)))));have:=h (Rho.of [0] [.int i])
  rwa [X2,if_neg q1,if_neg q2,if_pos q3]at this
 intros q3;refine zm (zd ?_);refine za (zq (yt ?_));have:=h (Rho.of [0] [.int i])
 rwa [X2,if_neg q1,if_neg q2,if_neg q3]at this
theorem WW {i:Int} (h:∀ρ,R (.ret (.bool (decide (48<=i/\i<=55)))) ρ st):WSs B (zx nHex) 1 n (zT 18) (xq 18) (Rho.of [0] [.int i]) R X st:=by
 revert B n R X st i h
 intros B n R X st i h;have done:∀b,decide (48<=i/\i<=55)=b->R (.ret (.bool b)) (Rho.of [0] [.int i]) st:=fun b e=>e▸h _;refine za (zq (Su rfl (zb (wM (i:=0) ZV (by decide) rfl (z6 rfl (bod (fun q1=>zo (zb (z6 rfl (bod (fun q2=>?_) (fun q2=>?_))))) (?_)))))))
 ·exact done _ (by simp;exact⟨q1,q2⟩)
 ·exact done _ (by simp;exact fun _=>Int.not_le.mp q2)
 ·intros q1;refine zm ?_;exact done _ (by simp;exact fun h=>absurd h q1)
noncomputable def nDec:List String:=["number","rest","found"]
theorem tV:Nms nDec:=.of (by decide +kernel)
noncomputable def Vx:Nat->Nat->List Nat
 | 0,_=>[]
 | f+1,m=>(48+m%10)::if m/10=0 then [] else Vx f (m/10)
noncomputable def qM (m:Nat):List Nat:=Vx (m+1) m
noncomputable def jh (m:Nat):List UInt8:=vt ((qM m).map fun n:Nat=>(n:Int)).reverse
noncomputable def xy (l:List Nat):List AV:=l.map fun n:Nat=>AV.int (n:Int)
theorem Wi {m f:Nat} (h:m<f+1) (h0:¬m/10=0):m/10<f :=
 Nat.lt_of_lt_of_le (Nat.div_lt_self (Nat.pos_of_ne_zero fun e=>h0 (by rw[e])) (Nat.le_add_left 2 8)) (Nat.le_of_lt_succ h)
theorem Th (f:Nat):∀(g m:Nat),m<f->m<g->Vx f m=Vx g m:=by
 induction f with
 | zero=>exact fun z z h=>(Nat.not_lt_zero _ h).elim
 | succ f ih =>
  intro g m h k
  cases g with
  | zero=>exact(Nat.not_lt_zero _ k).elim
  | succ g =>
   show _::ite (m/10=0) _ _=_::ite (m/10=0) _ _
   by_cases h0:m/10=0
   ·rw[if_pos h0,if_pos h0]
   ·rw[if_neg h0,if_neg h0,ih g _ (Wi h h0) (Wi k h0)]
theorem qQ (m:Nat):qM m=(48+m%10)::if m/10=0 then [] else qM (m/10):=by
 show _::ite (m/10=0) _ _=_::ite (m/10=0) _ _
 by_cases h0:m/10=0
 ·rw[if_pos h0,if_pos h0]
 ·rw[if_neg h0,if_neg h0,Th m (m/10+1) _ (Wi (Nat.lt_succ_self m) h0) (Nat.lt_succ_self _)];rfl
theorem YJ (k m:Nat) (h:m<10 ^ (k+1)):(qM m).length<=k+1:=by
 induction k generalizing m with
 | zero=>rw[qQ,if_pos (Nat.div_eq_of_lt h)];exact wC
 | succ k ih =>
  rw[qQ]
  by_cases h0:m/10=0
  ·rw[if_pos h0];exact wB
  ·rw[if_neg h0];exact Nat.succ_le_succ (ih _ (Nat.div_lt_of_lt_mul (Nat.mul_comm .. ▸ h)))
theorem Rt (m:Nat):∀d∈qM m,48<=d/\d<58:=by
 unfold qM;generalize m+1=f
 induction f generalizing m with
 | zero=>exact nn
 | succ f ih =>
  intro d hd
  rcases List.mem_cons.mp hd with e | hd
  ·rw[e];exact⟨Nat.le_add_right ..,F1 (M10 m)⟩
  ·by_cases h0:m/10=0
   ·rw[if_pos h0]at hd;cases hd
   ·rw[if_neg h0]at hd;exact ih _ d hd
theorem UW (G:Glo B) {m:Nat} (hm:m<10 ^ 18) (h:∀ρ st',R (.ret (.bytes (jh m))) ρ (st++st')):WSs B (zx nDec) 3 n (zT 5) (xq 5) (Rho.of [0] [.int (m:Nat)]) R X st:=by
 revert B n R X st G m hm h
 intros B n R X st G m hm h;have flen:=YJ 17 m hm;refine za (qd (i:=1) tV.inj (by decide) (.inl (by kernel_rfl)) (fun z z z=>rfl) ?_);refine yE (zk rfl (wM (i:=0) tV (by decide) rfl (zb (z6 rfl (bod (?_) fun q=>by exact Z (F1 (iNL q)))))));intros q;refine zo (wM (i:=0) tV (by decide) rfl ?_);refine za (qd (i:=2) tV.inj (by decide) (.inl (by kernel_rfl)) (fun z z z=>rfl) ?_);refine zr (zM (fun z=>rfl) (ze (zb (ze (wM (i:=1) tV (by decide) rfl (zb (zB (by decide) (zj (zA ⟨wB,?_⟩)))))))));refine za (qd (i:=1) tV.inj (by decide) (.inl (by kernel_rfl)) (fun z z z=>rfl) ?_);refine ze (wM (i:=1) tV (by decide) rfl (zb (yx (by decide) (by decide) ?_)));refine xx (fun r' st'=>r'=[(0,.int (m:Nat)),(1,.int ((0:Nat):Int)),(2,.ref st.length)]/\st'=st++[.list (xy (qM m))]) ?_ ?_
 ·refine sF (fun k r' st'=>∃acc:List Nat,r'=[(0,.int (m:Nat)),(1,.int (k:Nat)),(2,.ref st.length)]/\st'=st++[.list (xy acc)]/\acc++(if k=0 then [] else qM k)=qM m) ?_ (m/10) ?_
  ·intros k r' st' p3_;obtain⟨acc,rfl,rfl,hacc⟩:_:=p3_;refine zk rfl (wM (i:=1) tV (by decide) rfl (zb (z6 rfl (bod (?_) ?_))))
   ·intros q;refine zo ?_
    have hk:k≠0:=by exact Qr (F1 (iT q))
    rw[if_neg hk,qQ]at hacc
    have hal:acc.length<=18:=by have:=congrArg List.length hacc;simp at this;exact F2 flen (Le this)
    refine za (ul rfl (fun z z z=>rfl) (yf ⟨fun z=>rfl,fun z=>rfl,rfl,fun z=>rfl⟩ (wM (i:=2) tV (by decide) rfl ⟨_,_,ke F.slot_list_append F.type_list_append,.list List.getElem?_concat_length,?_⟩)));refine zM (fun z=>rfl) (ze (zb (ze (wM (i:=1) tV (by decide) rfl (zb (zB (by decide) (zj (zA (vW List.getElem?_concat_length (by simp[xy];exact F1 hal) ⟨rfl,?_⟩)))))))));refine za (qd (i:=1) tV.inj (by decide) (.inl (by kernel_rfl)) (fun z z z=>rfl) ?_);refine ze (wM (i:=1) tV (by decide) rfl (zb (yx (by decide) (by decide) ?_)));refine zd ⟨k/10,Nat.div_lt_self (Nat.pos_of_ne_zero hk) (by decide),acc++[48+k%10],?_,?_,?_⟩
    ·exact rfl
    ·simp[xy]
    ·rw[<-hacc];exact List.append_assoc ..
   ·intros q;refine zm ?_
    have hk:k=0:=by exact AS (F1 (iNT q)) (wD)
    subst hk;rw[if_pos rfl,List.append_nil]at hacc;subst hacc;exact⟨rfl,rfl⟩
  ·refine⟨[48+m%10],?_,?_,?_⟩
   ·exact rfl
   ·exact rfl
   ·rw[qQ m];exact rfl
 ·intros r' st' p4_;obtain⟨rfl,rfl⟩:_:=p4_;refine za (z7 (zk rfl (wM (i:=0) tV (by decide) rfl (zb (z6 rfl (bod (fun q=>by exact Z (F1 (iT q))) ?_))))));intros q;refine zm (zd ?_);refine za (zq (vp G 0 rfl (by kernel_rfl) (by kernel_rfl) (kept_type _) (fun z=>rfl) (zM (fun z=>rfl) ?_)));refine RH (wM (i:=2) tV (by decide) rfl (uZ (zb (vn ⟨rfl,_,_,rfl,List.getElem?_concat_length,(by simp[xy];exact F1 flen),zA (xv (l:=((qM m).map fun n:Nat=>(n:Int)).reverse) ?_ ?_ ?_ ?_)⟩))))
  ·simp[xy]
  ·intros x hx;simp only[List.mem_reverse,List.mem_map]at hx;obtain⟨d,hd,rfl⟩:_:=hx;have:=Rt m d hd;exact⟨(kL (0) (d) (wD)),(kT (d) (256) (F1 this.2))⟩
  ·simp;exact F1 flen
  ·have:=h [(0,.int (m:Nat)),(1,.int ((0:Nat):Int)),(2,.ref st.length)] [.list (xy (qM m)),.list (xy (qM m)).reverse];simpa[jh]using this
end
section
variable {B:Base} {nm:Nat->Str} {nN n:Nat} {sc:Scope}
theorem ym {α:Type} {t:Tg} {elt:Expr} {ifs:List Expr} {r0:Rho} {U:AV->St->Prop} {items:List AV} {guard:St->Prop} {st₁:St} (xs:List α) (item v:α->AV) (p:α->Bool) (hitems:items=xs.map item) (hz:xs.length<=16777216)
  (hg:∀extra,guard (st₁++extra))
  (helt:∀x∈xs,∀extra,∃r'',t.bind (item x) r0=some r''/\Uo B nm nN n sc ifs r'' (fun ok st2=>if ok=true then p x=true/\WE B nm nN n sc elt r'' (fun a st'=>a=v x /\ ∃e',st'=(st₁++extra)++e') noX st2 else p x=false /\ ∃e',st2=(st₁++extra)++e') (st₁++extra))
  (hU:∀junk,U (.ref st₁.length) (st₁++[.list ((xs.filter p).map v)]++junk)):Zc B nm nN n sc t elt ifs r0 U items guard st₁:=by
 revert B nm nN n sc α t elt ifs r0 U items guard st₁ xs item v p hitems hz hg helt hU
 intros B nm nN n sc α t elt ifs r0 U items guard st₁ xs item v p hitems hz hg helt hU;subst hitems;refine⟨fun rest st'=>∃ys zs junk,xs=ys++zs/\rest=zs.map item/\st'=st₁++([.list ((ys.filter p).map v)]++junk),(Qb ([]) xs ([]) rfl rfl (rfl)),?_,?_⟩
 ·intros st' p11_;obtain⟨ys,zs,junk,h1,h2,rfl⟩:_:=p11_
  have:zs=[]:=by simpa using h2.symm
  subst this;rw[List.append_nil]at h1;subst h1;refine⟨hg _,?_⟩;rw[<-List.append_assoc];exact hU junk
 ·intros a rest st' p12_;obtain⟨ys,zs,junk,rfl,h2,rfl⟩:_:=p12_
  cases zs with
  | nil=>exact nomatch h2
  | cons x zs =>
   rw[List.map_cons]at h2
   injection h2 with h3 h4
   subst h3 h4;obtain⟨r'',hb,hi⟩:_:=helt x (by simp) ([.list ((ys.filter p).map v)]++junk);refine⟨hg _,r'',hb,?_⟩
   have len:∀e',((st₁++([AO.list ((ys.filter p).map v)]++junk))++e')[st₁.length]?=some (.list ((ys.filter p).map v)):=fun e'=>by exact gp (g0 rfl)
   have fl:(ys.filter p).length<=ys.length:=List.length_filter_le _ _
   have done:∀{es:List Expr} {st₀:St} {Q Q':Bool->St->Prop} {ρ:Rho},(∀b st,Q b st->Q' b st)->Uo B nm nN n sc es ρ Q st₀->Uo B nm nN n sc es ρ Q' st₀:=by
    intros es
    induction es with
    | nil=>intro st₀ Q Q' ρ hq h;exact hq _ _ h
    | cons e es ih =>
     intros st₀ Q Q' ρ hq h;refine⟨?_⟩;intros c s φ O hs S F;refine v9 (h.run c s φ O hs S F) (fun b z z st h=>?_) fun z z h=>h
     cases b with
     | true=>simp only[if_true]at h ⊢;exact ih hq h
     | false=>simp only[Bool.false_eq_true,if_false]at h ⊢;exact hq _ _ h
   refine done (?_) hi;intros ok st2 h
   cases ok with
   | true =>
    simp only[if_true]at h ⊢;obtain⟨hp,h⟩:=h;refine h.mono (?_) fun z z h=>h;intros a st₃ p10_;obtain⟨ha,e',hs⟩:_:=p10_;subst ha hs;refine uG _ (len e') (by simp at hz ⊢;exact F2 fl hz) ⟨ys++[x],zs,junk++e',mc,rfl,?_⟩;simp[hp]
   | false =>
    simp only[Bool.false_eq_true,if_false]at h ⊢;obtain⟨hp,e',hs⟩:_:=h;subst hs;exact Qb (ys++[x]) zs (junk++e') (mc) rfl (by simp[hp])
end
section
variable {B:Base} {n:Nat} {R:Fl->Rho->St->Prop} {X:AV->Rho->St->Prop} {st:St}
theorem wQ {α:Type} (xs:List α):(xs.filter fun z=>true)=xs:=List.filter_eq_self.mpr fun z z=>rfl
noncomputable def nTxt:List String:=["text","sign"]
theorem Z6:Nms nTxt:=.of (by decide +kernel)
noncomputable def ua (c:Nat):Int:=if c<256 then c else 63
theorem kc (G:Glo B) {t:List Nat} (hz:t.length<=16777216) (h:∀ρ st',R (.ret (.bytes (vt (t.map ua)))) ρ (st++st')):WSs B (zx nTxt) 2 n (zT 4) (xq 4) (Rho.of [0] [.str t]) R X st:=by
 revert B n R X st G t hz h
 intros B n R X st G t hz h;refine za (zq (vp G 0 rfl (by kernel_rfl) (by kernel_rfl) (kept_type _) (fun z=>rfl) (zM (fun z=>rfl) ?_)));refine yu (caps:=[]) (t:=.one 1) Z6.inj (.of (by kernel_rfl)) (.one (i:=1)) (nn) (fun z z=>rfl) (yj (wM (i:=0) Z6 (by decide) rfl (TN ?_)));refine ym t (fun c=>.str [c]) (fun c=>.int (ua c)) (fun z=>true) rfl hz (fun z=>trivial) (?_) ?_
 ·intros c hc extra;refine⟨_,rfl,?_⟩;refine⟨rfl,?_⟩;refine yE (zk rfl (vp G 1 rfl (by kernel_rfl) (by kernel_rfl) (kept_builtin _) (fun z=>rfl) (zM (fun z=>rfl) (wM (i:=1) Z6 (by decide) rfl (zA (Wg (zb (z6 rfl (bod (?_) ?_)))))))))
  ·intros q;refine zo ?_;refine vp G 1 rfl (by kernel_rfl) (by kernel_rfl) (kept_builtin _) (fun z=>rfl) (zM (fun z=>rfl) (wM (i:=1) Z6 (by decide) rfl (zA (Wg ⟨?_,[],(List.append_nil _).symm⟩))));rw[ua,if_pos (by exact F1 (iT q))]
  ·intros q;refine zm ?_;refine zb ⟨?_,[],(List.append_nil _).symm⟩;rw[ua,if_neg (Qt (F1 (iNT q)))]
 ·intros junk;refine zA (xv (l:=t.map ua) (gp (g0 (congrArg (fun l=>some (AO.list l)) (mf.trans (List.map_map ..).symm)))) ?_ (lm hz) ?_)
  ·intros x hx;obtain⟨c,_,rfl⟩:_:=List.mem_map.mp hx
   unfold ua;split<;>first | exact b8 (by assumption) | decide
  ·rw[List.append_assoc];exact h _ _
end
noncomputable def t9:List AV:=[.tup [.str [92,69],.int 27],.tup [.str [94,88],.int 24],.tup [.str [92,110],.int 10],.tup [.str [92,114],.int 13],.tup [.str [92,115],.int 32],.tup [.str [92,44],.int 44],.tup [.str [92,94],.int 94],.tup [.str [92,92],.int 92],
 .tup [.str [92,58],.int 58],.tup [.str [92,48,51,51],.int 27],.tup [.str [92,48],.int 128],.tup [.str [92,50,48,48],.int 128],.tup [.str [94,63],.int 127],.tup [.str [94,64],.int 128],.tup [.str [97],.int 97],.tup [.str [37],.int 37]]
noncomputable def wP:List (String×AV):=[("ESCAPE",.int 27),("INFO_COMMA",.int 44),("INFO_BACKSLASH",.int 92),("INFO_CARET",.int 94),("INFO_NOUGHT",.int 128),("INFO_BLANKS",.bytes [32,9,13]),("INFO_MOST",.int 2147483647),("_law_signs",.clist t9)]
noncomputable def Qn (B:Base):Prop:=∀(i:Nat) (x:String) (a:AV),wP[i]?=some (x,a)->∃f,xl B (Str.ofString x) f /\ ∀(s:Shared) (φ P:List Addr) (st:St),SR B s φ P st->VR B s.heap φ P a f
noncomputable def xe:List (String×Addr):=[("octets_of",52),("decimal_octets",59),("hex_value",66),("info_empty",96),("info_placed",103),("known_names",110),("info_is_octal",117),("info_fields",122),("info_short_signs",129),("info_escape",136),("info_string",143),("info_number",150),
 ("info_name",157),("info_split",164),("info_place_of",171),("info_put",178),("info_head",183),("read_info",190),("info_sign_octets",197),("info_string_octets",202),("info_field_octets",209),("info_octets",216),("info_named",223),("info_merged",230),("info_plain",235),
 ("info_resolved",242),("resolved",249),("_law_bad",273),("_law_deck",278),("_law_draw",285),("_law_octets",290),("_law_field",295),("_law_entry",300),("_law_seen",307),("_law_fields",314),("_law_whole",319),("_law_told",326),("_law_put_together",333)]
noncomputable def QV (B:Base):Prop:=∀(i:Nat) (x:String) (a:Addr),xe[i]?=some (x,a)->xl B (Str.ofString x) (.ref a)/\sM B (.ref a)
section
variable {B:Base} {nm:Nat->Str} {nN n:Nat} {sc:Scope} {ρ:Rho} {Q X:AV->St->Prop} {st:St}
theorem Wr (G:Qn B) (i:Nat) {x:String} {a:AV} {pos:Pos} (hi:wP[i]?=some (x,a)) (hk:sc.names.lookup (Str.ofString x)=some .globalImplicit) (hd:(Str.ofString x==("__debug__":Str))=false) (h:Q a st):WE B nm nN n sc (.Name (Str.ofString x) pos) ρ Q X st:=by
 refine zn (G i x a hi) fun f hg hv=>?_;exact Rr hk hd hg hv h
theorem Sw (G:QV B) (i:Nat) {x:String} {f:Addr} {px pos:Pos} {es:List Expr} (hi:xe[i]?=some (x,f)) (hk:sc.names.lookup (Str.ofString x)=some .globalImplicit) (hd:(Str.ofString x==("__debug__":Str))=false)
  (he:∀env,(starEach es env).any (fun x=>x.1)=false) (h:WEs B nm nN n sc es ρ (fun as st'=>Spec B n (.ref f) as st' Q X) X st):WE B nm nN n sc (.Call (.Name (Str.ofString x) px) es [] pos) ρ Q X st :=
 qX hk hd (G i x f hi).1 (G i x f hi).2 he ⟨fun c s φ pos O hs S F=>v9 (h.run c s φ pos O hs S F) (fun _ _ _ _ zz=>zn zz fun as ras q=>⟨as,ras,WR q⟩) fun z z q=>q⟩
end
section
variable {B:Base} {n:Nat} {R:Fl->Rho->St->Prop} {X:AV->Rho->St->Prop} {st:St}
theorem qL (G:Glo B) {t:List Nat} (hz:t.length<=16777216) (hc:∀c∈t,c<256) (h:∀ρ st',R (.ret (.bytes (t.map Nat.toUInt8))) ρ (st++st')):WSs B (zx nTxt) 2 n (zT 44) (xq 44) (Rho.of [0] [.str t]) R X st:=by
 revert B n R X st G t hz hc h
 intros B n R X st G t hz hc h;refine za (zq (vp G 0 rfl (by kernel_rfl) (by kernel_rfl) (kept_type _) (fun z=>rfl) (zM (fun z=>rfl) ?_)));refine yu (caps:=[]) (t:=.one 1) Z6.inj (.of (by kernel_rfl)) (.one (i:=1)) (nn) (fun z z=>rfl) (yj (wM (i:=0) Z6 (by decide) rfl (TN ?_)));refine ym t (fun c=>.str [c]) (fun c=>.int (c:Int)) (fun z=>true) rfl hz (fun z=>trivial) (?_) ?_
 ·intros c hc extra;refine⟨_,rfl,?_⟩;exact⟨rfl,vp G 1 rfl (by kernel_rfl) (by kernel_rfl) (kept_builtin _) (fun z=>rfl) (zM (fun z=>rfl) (wM (i:=1) Z6 (by decide) rfl (zA (Wg ⟨rfl,[],(List.append_nil _).symm⟩))))⟩
 ·intros junk;refine zA (xv (l:=t.map fun c:Nat=>(c:Int)) (gp (g0 (congrArg (fun l=>some (AO.list l)) (mf.trans (List.map_map ..).symm)))) ?_ (lm hz) ?_)
  ·intros x hx;obtain⟨c,hc',rfl⟩:_:=List.mem_map.mp hx;have:=hc c hc';exact⟨(kL (0) (c) (wD)),(kT (c) (256) (F1 this))⟩
  ·rw[List.append_assoc]
   have e:vt (t.map fun c:Nat=>(c:Int))=t.map Nat.toUInt8:=by exact List.map_map ..
   rw[e];exact h _ _
end
noncomputable def ju:List (Option Expr)->List Expr->Option (List (Expr×Expr))
 | [],[]=>some []
 | some k::ks,v::vs=>match ju ks vs with
  | some l=>some ((k,v)::l)
  | none=>none
 | _,_=>none
theorem VM {ks:List (Option Expr)} {vs:List Expr} {ps:List (Expr×Expr)} (h:ju ks vs=some ps):ks=ps.map (fun p=>some p.1)/\vs=ps.map (fun x=>x.2):=by
 induction ks generalizing vs ps with
 | nil =>
  cases vs with
  | nil=>cases h;exact⟨rfl,rfl⟩
  | cons v vs=>cases h
 | cons k ks ih =>
  cases k with
  | none=>cases h
  | some k =>
   cases vs with
   | nil=>cases h
   | cons v vs =>
    change (match ju ks vs with
     | some l=>some ((k,v)::l)
     | none=>none)=some ps at h
    cases hq:ju ks vs with
    | none=>rw[hq]at h;cases h
    | some l =>
     rw[hq]at h;cases h;have h:=ih hq;exact⟨congrArg (fun x=>some k::x) h.1,congrArg (fun x=>v::x) h.2⟩
section
variable {B:Base} {nm:Nat->Str} {nN n:Nat} {sc:Scope} {ρ:Rho} {Q X:AV->St->Prop} {st:St} {K K':Type} [DecidableEq K] [DecidableEq K'] (D:DK B K K')
theorem th {ks:List (Option Expr)} {vs:List Expr} {ps:List (Expr×Expr)} {pos:Pos} (hp:ju ks vs=some ps) (h0:ps≠[]) (hlen:ps.length<=15)
  (h:∀ep,WPs B nm nN n sc ps ρ (fun l st'=>∃kvs:List (K×AV),l=kvs.map (fun p=>(D.key p.1,p.2))/\(∃ep2,st'[st.length]?=some (D.ao ep2 [])) /\ ∀ep3,Q (.ref st.length) (st'.set st.length (D.ao ep3 (yy [] kvs)))) X (st++[D.ao ep []])) :
  WE B nm nN n sc (.Dict ks vs pos) ρ Q X st:=by
 obtain⟨rfl,rfl⟩:=VM hp;exact SZ D h0 hlen h
end
section
variable {B:Base} {n:Nat} {R:Fl->Rho->St->Prop} {X:AV->Rho->St->Prop} {st:St}
noncomputable def nSig:List String:=["signs"]
theorem Rf:Nms nSig:=.of (by kernel_rfl)
noncomputable def qq:List (Int×AV):=[(69,.int 27),(101,.int 27),(110,.int 10),(108,.int 10),(114,.int 13),(116,.int 9),(98,.int 8),(102,.int 12),(115,.int 32)]
noncomputable def jS:List (Int×AV):=[(94,.int 94),(92,.int 92),(44,.int 44),(58,.int 58)]
noncomputable def tO:List (Int×AV):=yy (yy [] qq) (yy [] jS)
theorem WN (hB:BOk B) (GD:Qn B) (h:∀ρ ep st',R (.ret (.ref st.length)) ρ (st++[.dictI ep tO]++st')):WSs B (zx nSig) 1 n (zT 20) (xq 20) (Rho.of [] []) R X st:=by
 revert B n R X st hB GD h
 intros B n R X st hB GD h;refine za ?_;refine qd (i:=0) ?_ ?_ ?_ ?_ ?_
 ·exact Rf.inj
 ·decide
 ·exact .inl (by kernel_rfl)
 ·exact fun z z z=>rfl
 refine th (dkI B) (rfl) (nofun) (by decide) ?_;intros ep;refine zb (Wr GD 0 rfl (by kernel_rfl) (by kernel_rfl) ?_);refine zb (Wr GD 0 rfl (by kernel_rfl) (by kernel_rfl) ?_);refine zb (zb (zb (zb (zb (zb (zb (zb (zb (zb (zb (zb (zb (zb ?_)))))))))))));refine⟨qq,rfl,⟨ep,List.getElem?_concat_length⟩,fun ep3=>?_⟩;rw[show (st++[(dkI B).ao ep []]).set st.length ((dkI B).ao ep3 (yy [] qq))=st++[.dictI ep3 (yy [] qq)] from by simp;rfl];refine za (ul rfl (fun z z z=>rfl) (yf ⟨fun z=>rfl,fun z=>rfl,rfl,fun z=>rfl⟩ (wM (i:=0) Rf (by decide) rfl ⟨_,_,⟨F.plainAttrs_dict,F.slot_dict_update,F.type_dict_update⟩,.dictI List.getElem?_concat_length,?_⟩)));refine zM (fun z=>rfl) ?_;refine th (dkI B) (rfl) (nofun) (by decide) ?_;intros ep4;refine zb (zb (zb (zb (zb (zb (zb (zb ?_)))))));refine⟨jS,rfl,⟨ep4,List.getElem?_concat_length⟩,fun ep5=>?_⟩;rw[show ∀a:St,∀x y:AO,(a++[x]).set a.length y=a++[y] from fun a x y=>by simp];refine zA (Uk (dkI B) hB (kvs:=yy [] qq) (more:=yy [] jS) (ep:=ep3) (ep':=ep5) ?_ ?_ ?_ ?_ ?_)
 ·simp;try rfl
 ·exact gn;try rfl
 ·simp
 ·decide
 ·intros ep6;refine⟨rfl,?_⟩;refine za (zq (wM (i:=0) Rf (by decide) rfl ?_));have:=h ((Rho.of [] []).set 0 (.ref st.length)) ep6 [.dictI ep5 (yy [] jS)];show R _ _ ((st++[AO.dictI ep3 (yy [] qq)]++[AO.dictI ep5 (yy [] jS)]).set st.length (AO.dictI ep6 tO));simpa using this
end
section
variable {B:Base} {n:Nat} {R:Fl->Rho->St->Prop} {X:AV->Rho->St->Prop} {st:St}
noncomputable def xN:List (List Nat):=[[9,99,111,108,115,61,56,48,44],[9,97,109,35,49,44],[9,122,122,64,120,44],[9,99,114,61,92,113,44],[9,99,111,108,115,35,56,120,44],[9,97,109],[9,99,114,35,51,44],[9,98,101,108,44]]
theorem Yc (h:∀ρ,R (.ret (.ref st.length)) ρ (st++[.list (xN.map AV.str)])):WSs B (zx []) 0 n (zT 41) (xq 41) (Rho.of [] []) R X st:=by
 refine za (zq ?_);refine zr ?_;refine zM (fun z=>rfl) (zh (y:=[9,99,111,108,115,61,56,48,44]) (by kernel_rfl) ?_);refine zM (fun z=>rfl) (zh (y:=[9,97,109,35,49,44]) (by kernel_rfl) ?_);refine zM (fun z=>rfl) (zh (y:=[9,122,122,64,120,44]) (by kernel_rfl) ?_);refine zM (fun z=>rfl) (zh (y:=[9,99,114,61,92,113,44]) (by kernel_rfl) ?_);refine zM (fun z=>rfl) (zh (y:=[9,99,111,108,115,35,56,120,44]) (by kernel_rfl) ?_);refine zM (fun z=>rfl) (zh (y:=[9,97,109]) (by kernel_rfl) ?_);refine zM (fun z=>rfl) (zh (y:=[9,99,114,35,51,44]) (by kernel_rfl) ?_);refine zM (fun z=>rfl) (zh (y:=[9,98,101,108,44]) (by kernel_rfl) ?_);exact zA ⟨by decide,h _⟩
end
noncomputable def tM (i:Nat):List Str:=match PySem.Challenge.pw_og0259_01.main.body[i]? with
 | some (.FunctionDef _ a _ _ _ _ _ _ _ _)=>a.args.map (fun x=>x.arg)
 | _=>[]
noncomputable def y6 (j:Nat):Nat:=if j<3 then j+4 else if j<27 then j+12 else j+14
structure Gl (B:Base):Prop where
 G:Glo B
 D:Qn B
 F:QV B
 hB:BOk B
 bad:qx B
 badG:xl B (Str.ofString "BadInfo") (.ref B.cBad)
 badK:sM B (.ref B.cBad)
 hasDict:hasDictIn B.K B.cBad=true
 info:jF B
 infoG:xl B (Str.ofString "Info") (.ref B.cInfo)
 infoK:sM B (.ref B.cInfo)
 fn:∀(j:Nat) (x:String) (a:Addr),xe[j]?=some (x,a)->∃fd,XR B a fd (xq (y6 j))/\fd.scope=zT (y6 j) /\ ∀vs:List Value,vs.length=(tM (y6 j)).length->bindArgs fd ⟨vs,[]⟩=pure ((tM (y6 j)).zip vs)
noncomputable def Ch (rs:List Nat) (st st':St):Prop:=st.length<=st'.length /\ ∀i,i<st.length->i∉rs->st'[i]?=st[i]?
theorem Ch.refl (rs:List Nat) (st:St):Ch rs st st:=⟨wC,fun u u u=>rfl⟩
theorem Ch.trans {rs:List Nat} {a b c:St} (h:Ch rs a b) (k:Ch rs b c):Ch rs a c :=
 ⟨Nat.le_trans h.1 k.1,fun i hi hn=>(k.2 i (Nat.lt_of_lt_of_le hi h.1) hn).trans (h.2 i hi hn)⟩
theorem Ch.push (rs:List Nat) (st t:St):Ch rs st (st++t):=⟨by simp,fun i hi u=>List.getElem?_append_left hi⟩
theorem Ch.set {rs:List Nat} (st:St) {m:Nat} (o:AO) (hm:m∈rs):Ch rs st (st.set m o) :=
 ⟨by simp,fun i hi hn=>List.getElem?_set_ne (fun e=>hn (by rw[<-e];exact hm))⟩
theorem Ch.new {rs rs':List Nat} {a b c:St} (h:Ch rs a b) (k:Ch rs' b c) (hn:∀i∈rs',i∈rs\/a.length<=i):Ch rs a c :=
 ⟨Nat.le_trans h.1 k.1,fun i hi hni=>(k.2 i (Nat.lt_of_lt_of_le hi h.1) (fun q=>(hn i q).elim hni (fun r=>by exact Z (F2 hi r)))).trans (h.2 i hi hni)⟩
theorem Ch.weak {rs rs':List Nat} {a b:St} (h:Ch rs a b) (hs:∀i∈rs,i∈rs'):Ch rs' a b:=⟨h.1,fun i hi hn=>h.2 i hi fun q=>hn (hs i q)⟩
theorem Ch.set' {rs:List Nat} {a b:St} (h:Ch rs a b) {m:Nat} (o:AO) (hm:m∈rs\/a.length<=m):Ch rs a (b.set m o) :=
 h.new (Ch.set b o (List.mem_singleton.mpr rfl)) fun i hi=>by rw[List.mem_singleton.mp hi];exact hm
theorem Ch.push' {rs:List Nat} {a b:St} (h:Ch rs a b) (t:St):Ch rs a (b++t):=h.trans (Ch.push rs b t)
theorem zv {st:St} {m:Nat} {o:AO} (h:st[m]?=some o):m<st.length:=(List.getElem?_eq_some_iff.mp h).1
theorem Ch.get {rs:List Nat} {a b:St} (h:Ch rs a b) {m:Nat} {o:AO} (hm:a[m]?=some o) (hn:m∉rs):b[m]?=some o:=(h.2 m (zv hm) hn).trans hm
theorem zc {st t:St} {m:Nat} {o:AO} (hm:st[m]?=some o):(st++t)[m]?=some o:=(List.getElem?_append_left (zv hm)).trans hm
theorem zf {st:St} {o:AO}:(st++[o])[st.length]?=some o:=List.getElem?_concat_length
theorem get_set {st:St} {m:Nat} {o:AO} (h:m<st.length):(st.set m o)[m]?=some o:=by rw[List.getElem?_set_self h]
noncomputable def uo (sc:Scope) (l:List String) (is:List Nat):Bool:=is.all fun i=>Nat.blt i l.length&&(decide (sc.names.lookup (zx l i)=some .local)||decide (sc.names.lookup (zx l i)=some .cell))
theorem uo.at {sc:Scope} {l:List String} {is:List Nat} (h:uo sc l is=true) (i:Nat) (hi:i∈is):i<l.length/\wH sc (zx l i):=by
 have:=List.all_eq_true.mp h i hi;rw[Bool.and_eq_true,Bool.or_eq_true,decide_eq_true_eq,decide_eq_true_eq]at this;exact⟨Nat.le_of_ble_eq_true this.1,this.2⟩
noncomputable def uN (sc:Scope) (x:String):Bool:=decide (sc.names.lookup (Str.ofString x)=some .globalImplicit/\(Str.ofString x==("__debug__":Str))=false)
theorem uN.h {sc:Scope} {x:String} (h:uN sc x=true):sc.names.lookup (Str.ofString x)=some .globalImplicit/\(Str.ofString x==("__debug__":Str))=false:=of_decide_eq_true h
noncomputable def P8 (j:Nat) (is:List Nat) (l:List String):Bool:=decide (tM (y6 j)=is.map (zx l)/\(∀i∈is,i<l.length)/\is.Nodup/\(∀i∈is,(zT (y6 j)).names.lookup (zx l i)=some .local) /\ ∀x∈(zT (y6 j)).names,x.2 ≠ .cell)
noncomputable def Q3 (j:Nat) (is:List Nat) (l:List String):Bool:=decide (tM (y6 j)=is.map (zx l)/\(∀i∈is,i<l.length)/\is.Nodup /\ ∀i∈is,(zT (y6 j)).names.lookup (zx l i)=some .local\/(zT (y6 j)).names.lookup (zx l i)=some .cell)
noncomputable def vV:List Expr->Bool
 | []=>true
 | .Starred _ _::_=>false
 | _::r=>vV r
theorem vV.cons {e:Expr} {es:List Expr} (h:vV (e::es)=true):vV es=true /\ ∀env,starEach (e::es) env=(false,eval e env)::starEach es env:=by
 cases e<;>first | exact⟨h,fun u=>rfl⟩ | cases h
theorem vV.all {es:List Expr} (h:vV es=true) (env:Env):(starEach es env).any (fun x=>x.1)=false:=by
 induction es with
 | nil=>rfl
 | cons e es ih=>rw[(vV.cons h).2];exact ih (vV.cons h).1
section
variable {B:Base} {l:List String} {n:Nat} {sc:Scope} {XS:AV->Rho->St->Prop} {R:Fl->Rho->St->Prop} {X:AV->St->Prop} {ρ:Rho} {st:St} {ps:List Stmt} {Q:AV->St->Prop} {QL:List AV->St->Prop}
theorem vv (N:Nms l) (i:Nat) {a:AV} {pos:Pos} (hi:ρ.get i=some a) (h:Q a st) (hl:autoParam (Nat.blt i l.length=true) ar_):WE B (zx l) l.length n sc (.Name (zx l i) pos) ρ Q X st:=wM N (Nat.le_of_ble_eq_true hl) hi h
theorem asg (N:Nms l) (i:Nat) {px pos:Pos} {e:Expr} (h:WE B (zx l) l.length n sc e ρ (fun a st'=>WSs B (zx l) l.length n sc ps (ρ.set i a) R XS st') (fun t st'=>XS t ρ st') st)
  (hst:autoParam (uo sc l [i]=true) ak_) (hv:autoParam (∀env t l,swapsWith e t l env=pure false) af_) :
  WSs B (zx l) l.length n sc (.Assign [.Name (zx l i) px] e pos::ps) ρ R XS st :=
 za (qd N.inj (uo.at hst i (.head _)).1 (uo.at hst i (.head _)).2 hv h)
theorem Zo (N:Nms l) (i0 i1:Nat) {q0 q1:Pos} {k:Nat} {tp pos:Pos} {e:Expr} (h:WE B (zx l) l.length n sc e ρ (fun a st'=>∃as,a = .tup as/\[i0,i1].length=as.length/\WSs B (zx l) l.length n sc ps (ρ.sets [i0,i1] as) R XS st') (fun t st'=>XS t ρ st') st)
  (hi:autoParam (uo sc l [i0,i1]=true) ak_) (hv:autoParam (∀env l',swapsWithSole [.Tuple [.Name (zx l i0) q0,.Name (zx l i1) q1] k tp] e l' env=pure false) af_)
  (hw:autoParam (∀env:Env,env.scope=sc->swappedStores [.Tuple [.Name (zx l i0) q0,.Name (zx l i1) q1] k tp] e env=pure none) aw_) :
  WSs B (zx l) l.length n sc (.Assign [.Tuple [.Name (zx l i0) q0,.Name (zx l i1) q1] k tp] e pos::ps) ρ R XS st :=
 za (Z9 (is:=[i0,i1]) (ps:=[q0,q1]) N.inj (uo.at hi) rfl hv hw h)
theorem uD (N:Nms l) (i0 i1:Nat) {q0 q1:Pos} {k:Nat} {tp pos:Pos} {e:Expr} (h:WE B (zx l) l.length n sc e ρ (fun a st'=>∃as,a = .tup as/\[i0,i1].length=as.length/\WSs B (zx l) l.length n sc ps (ρ.sets [i0,i1].reverse as.reverse) R XS st') (fun t st'=>XS t ρ st') st)
  (hi:autoParam (uo sc l [i0,i1]=true) ak_) (hv:autoParam (∀env l',swapsWithSole [.Tuple [.Name (zx l i0) q0,.Name (zx l i1) q1] k tp] e l' env=pure false) af_)
  (hw:autoParam (∀env:Env,env.scope=sc->swappedStores [.Tuple [.Name (zx l i0) q0,.Name (zx l i1) q1] k tp] e env=pure (some ([i0,i1].map (zx l)))) aw_) :
  WSs B (zx l) l.length n sc (.Assign [.Tuple [.Name (zx l i0) q0,.Name (zx l i1) q1] k tp] e pos::ps) ρ R XS st :=
 za (V3 (is:=[i0,i1]) (ps:=[q0,q1]) N.inj (uo.at hi) rfl hv hw h)
theorem QE (N:Nms l) (i0 i1 i2:Nat) {q0 q1 q2:Pos} {k:Nat} {tp pos:Pos} {e:Expr} (h:WE B (zx l) l.length n sc e ρ (fun a st'=>∃as,a = .tup as/\[i0,i1,i2].length=as.length/\WSs B (zx l) l.length n sc ps (ρ.sets [i0,i1,i2] as) R XS st') (fun t st'=>XS t ρ st') st)
  (hi:autoParam (uo sc l [i0,i1,i2]=true) ak_) (hv:autoParam (∀env l',swapsWithSole [.Tuple [.Name (zx l i0) q0,.Name (zx l i1) q1,.Name (zx l i2) q2] k tp] e l' env=pure false) af_)
  (hw:autoParam (∀env:Env,env.scope=sc->swappedStores [.Tuple [.Name (zx l i0) q0,.Name (zx l i1) q1,.Name (zx l i2) q2] k tp] e env=pure none) aw_) :
  WSs B (zx l) l.length n sc (.Assign [.Tuple [.Name (zx l i0) q0,.Name (zx l i1) q1,.Name (zx l i2) q2] k tp] e pos::ps) ρ R XS st :=
 za (Z9 (is:=[i0,i1,i2]) (ps:=[q0,q1,q2]) N.inj (uo.at hi) rfl hv hw h)
theorem UV (N:Nms l) (i0 i1 i2:Nat) {q0 q1 q2:Pos} {k:Nat} {tp pos:Pos} {e:Expr} (h:WE B (zx l) l.length n sc e ρ (fun a st'=>∃as,a = .tup as/\[i0,i1,i2].length=as.length/\WSs B (zx l) l.length n sc ps (ρ.sets [i0,i1,i2].reverse as.reverse) R XS st') (fun t st'=>XS t ρ st') st)
  (hi:autoParam (uo sc l [i0,i1,i2]=true) ak_) (hv:autoParam (∀env l',swapsWithSole [.Tuple [.Name (zx l i0) q0,.Name (zx l i1) q1,.Name (zx l i2) q2] k tp] e l' env=pure false) af_)
  (hw:autoParam (∀env:Env,env.scope=sc->swappedStores [.Tuple [.Name (zx l i0) q0,.Name (zx l i1) q1,.Name (zx l i2) q2] k tp] e env=pure (some ([i0,i1,i2].map (zx l)))) aw_) :
  WSs B (zx l) l.length n sc (.Assign [.Tuple [.Name (zx l i0) q0,.Name (zx l i1) q1,.Name (zx l i2) q2] k tp] e pos::ps) ρ R XS st :=
 za (V3 (is:=[i0,i1,i2]) (ps:=[q0,q1,q2]) N.inj (uo.at hi) rfl hv hw h)
noncomputable def LpG (B:Base) (l:List String) (n:Nat) (sc:Scope) (body:List Stmt) {α:Type} (upd:α->Rho->Rho) (guard:St->Prop) (R:Fl->Rho->St->Prop) (XS:AV->Rho->St->Prop) (I:List α->Rho->St->Prop):Prop :=
 ∀x rest ρ' st',I (x::rest) ρ' st'->guard st'/\WSs B (zx l) l.length n sc body (upd x ρ') (fun f ρ₃ st₃=>match f with
    | .next | .cont=>I rest ρ₃ st₃
    | .ret v=>R (.ret v) ρ₃ st₃) XS st'
noncomputable def LpE (B:Base) (l:List String) (n:Nat) (sc:Scope) (ps:List Stmt) (guard:St->Prop) (R:Fl->Rho->St->Prop) (XS:AV->Rho->St->Prop) {α:Type} (I:List α->Rho->St->Prop):Prop :=
 ∀ρ' st',I [] ρ' st'->guard st'/\WSs B (zx l) l.length n sc ps ρ' R XS st'
theorem WI.mono {nm:Nat->Str} {nN:Nat} {tg e:Expr} {Q Q':List AV->(St->Prop)->St->Prop} (h:WI B nm nN n sc tg e ρ Q X st) (k:∀a b c,Q a b c->Q' a b c):WI B nm nN n sc tg e ρ Q' X st:=by
 refine⟨fun c s φ O hs S F=>wpAny_mono (h.run c s φ O hs S F) (fun it s₁ y=>wpAny_mono y (fun it' s₂ z=>?_) fun u u z=>z) fun u u z=>z⟩;refine xH (z) fun φ₁ st₁ S₁ g₁ n4z=>?_;try clear z;refine RP (n4z) fun W J src sv items guard y1 y2 y3 y4 q=>?_;try clear n4z;exact zV φ₁ st₁ S₁ g₁ (QJ W J src sv items guard y1 y2 y3 y4 (k _ _ _ q))
theorem R7 {t:Tg} {body:List Stmt} {guard:St->Prop} {st₁:St} {α:Type} {xs:List α} {item:α->AV} {upd:α->Rho->Rho} {I:List α->Rho->St->Prop} {R₀:Fl->Rho->St->Prop} (hb:∀x ρ,t.bind (item x) ρ=some (upd x ρ)) (h1:I xs ρ st₁)
  (h2:∀r' st',I [] r' st'->guard st'/\R₀ .next r' st') (h3:LpG B l n sc body upd guard R₀ XS I) :
  ∃I':List AV->Rho->St->Prop,I' (xs.map item) ρ st₁/\LpN guard R₀ I'/\LpB B (zx l) l.length n sc body t guard R₀ XS I':=by
 refine⟨fun as r' st'=>∃ys,as=ys.map item/\I ys r' st',(zw _ rfl h1),?_,?_⟩
 ·intro r' st' p1z;refine zn (p1z) fun ys e hI=>?_;try clear p1z;rw[List.map_eq_nil_iff.mp e.symm]at hI;exact h2 _ _ hI
 ·intro a rest r' st' p2z;refine zn (p2z) fun ys e hI=>?_;try clear p2z;refine xH (List.map_eq_cons_iff.mp e.symm) fun y zs e1 e2 e3=>?_;rw[e1]at hI;refine xn (h3 _ _ _ _ hI) fun h4 h5=>?_;refine⟨h4,_,by rw[<-e2];exact hb _ _,⟨fun c s φ O hs S F=>wpAny_mono (h5.run c s φ O hs S F) (fun f s₁ y=>?_) fun u u y=>y⟩⟩;refine X9 (y) fun φ₁ st₁ r1 S₁ g₁ F₁ k=>?_;try clear y;refine yD φ₁ st₁ r1 S₁ g₁ F₁ ?_
  cases f with
  | next=>exact zw _ e3.symm k
  | cont=>exact zw _ e3.symm k
  | brk=>exact k
  | ret v=>exact k
theorem vN (N:Nms l) (i:Nat) {px pos:Pos} {e:Expr} {body:List Stmt} (h:WI B (zx l) l.length n sc (.Name (zx l i) px) e ρ (fun items guard st₁=>∃(α:Type) (xs:List α) (item:α->AV) (I:List α->Rho->St->Prop),items=xs.map item/\I xs ρ st₁/\LpE B l n sc ps guard R XS I /\
   LpG B l n sc body (fun x r'=>r'.set i (item x)) guard R XS I) (fun x st'=>XS x ρ st') st)
  (hst:autoParam (uo sc l [i]=true) ak_) (hf:autoParam (∀env x,foldedSetIterable e env x=pure x) af_):WSs B (zx l) l.length n sc (.For (.Name (zx l i) px) e body [] pos::ps) ρ R XS st:=by
 refine za (Ti N.inj (.one (i:=i)) (uo.at hst) hf (h.mono fun items guard st₁ z=>?_));obtain⟨α,xs,item,I,e,h1,h2,h3⟩:=z;rw[e];refine R7 (upd:=fun x r'=>r'.set i (item x)) ?_ h1 ?_ ?_
 ·exact fun u u=>rfl
 ·exact h2
 ·exact h3
theorem RT (N:Nms l) (i j:Nat) {px py tp pos:Pos} {k:Nat} {e:Expr} {body:List Stmt} (h:WI B (zx l) l.length n sc (.Tuple [.Name (zx l i) px,.Name (zx l j) py] k tp) e ρ (fun items guard st₁=>∃(α:Type) (xs:List α) (f g:α->AV) (I:List α->Rho->St->Prop),items=xs.map (fun x=>.tup [f x,g x])/\I xs ρ st₁/\LpE B l n sc ps guard R XS I /\
   LpG B l n sc body (fun x r'=>(r'.set i (f x)).set j (g x)) guard R XS I) (fun x st'=>XS x ρ st') st)
  (hst:autoParam (uo sc l [i,j]=true) ak_) (hf:autoParam (∀env x,foldedSetIterable e env x=pure x) af_):WSs B (zx l) l.length n sc (.For (.Tuple [.Name (zx l i) px,.Name (zx l j) py] k tp) e body [] pos::ps) ρ R XS st:=by
 refine za (Ti N.inj (.tup (is:=[i,j]) (ps:=[px,py]) rfl) (uo.at hst) hf (h.mono fun items guard st₁ z=>?_));obtain⟨α,xs,f,g,I,e,h1,h2,h3⟩:=z;rw[e];refine R7 (upd:=fun x r'=>(r'.set i (f x)).set j (g x)) ?_ h1 ?_ ?_
 ·exact fun u u=>rfl
 ·exact h2
 ·exact h3
theorem a1 {nm:Nat->Str} {nN:Nat} {e:Expr} (h:WE B nm nN n sc e ρ (fun a st₁=>QL [a] st₁) X st) (he:autoParam (vV [e]=true) ar_):WEs B nm nN n sc [e] ρ QL X st :=
 zM (vV.cons he).2 (h.mono (fun u u q=>zA q) fun u u q=>q)
theorem a2 {nm:Nat->Str} {nN:Nat} {e f:Expr} (h:WE B nm nN n sc e ρ (fun a st₁=>WE B nm nN n sc f ρ (fun b st2=>QL [a,b] st2) X st₁) X st) (he:autoParam (vV [e,f]=true) ar_):WEs B nm nN n sc [e,f] ρ QL X st :=
 zM (vV.cons he).2 (h.mono (fun u u q=>a1 q (vV.cons he).1) fun u u q=>q)
theorem aN {nm:Nat->Str} {nN:Nat} {e:Expr} {es:List Expr} (h:WE B nm nN n sc e ρ (fun a st₁=>WEs B nm nN n sc es ρ (fun as st2=>QL (a::as) st2) X st₁) X st) (he:autoParam (vV (e::es)=true) ar_):WEs B nm nN n sc (e::es) ρ QL X st :=
 zM (vV.cons he).2 h
theorem cB {nm:Nat->Str} {nN:Nat} (g:Gl B) (i:Nat) {x:String} {f:Value} {px pos:Pos} {es:List Expr} (hi:yX[i]?=some (x,f)) (h:WEs B nm nN n sc es ρ (fun as st'=>w7 B f as Q st') X st)
  (hk:autoParam (uN sc x=true) ak_)
  (hK:autoParam (sM B f) an_) (he:autoParam (vV es=true) ar_):WE B nm nN n sc (.Call (.Name (Str.ofString x) px) es [] pos) ρ Q X st :=
 vp g.G i hi (uN.h hk).1 (uN.h hk).2 hK (vV.all he) h
theorem cF {nm:Nat->Str} {nN:Nat} (g:Gl B) (i:Nat) {x:String} {f:Addr} {px pos:Pos} {es:List Expr} (hi:xe[i]?=some (x,f)) (h:WEs B nm nN n sc es ρ (fun as st'=>Spec B n (.ref f) as st' Q X) X st)
  (hk:autoParam (uN sc x=true) ak_)
  (he:autoParam (vV es=true) ar_):WE B nm nN n sc (.Call (.Name (Str.ofString x) px) es [] pos) ρ Q X st :=
 Sw g.F i hi (uN.h hk).1 (uN.h hk).2 (vV.all he) h
theorem dat {nm:Nat->Str} {nN:Nat} (g:Gl B) (i:Nat) {x:String} {a:AV} {pos:Pos} (hi:wP[i]?=some (x,a)) (h:Q a st) (hk:autoParam (uN sc x=true) ak_) :
  WE B nm nN n sc (.Name (Str.ofString x) pos) ρ Q X st:=Wr g.D i hi (uN.h hk).1 (uN.h hk).2 h
theorem rz {nm:Nat->Str} {nN:Nat} (g:Gl B) {np cpos pos:Pos} {e:Expr} (h:WE B nm nN n sc e ρ (fun a st'=>XS a ρ st') (fun t st'=>XS t ρ st') st) (hk:autoParam (uN sc "BadInfo"=true) ak_)
  (he:autoParam (∀env,starEach [e] env=[(false,eval e env)]) af_):WSs B nm nN n sc (.Raise (some (.Call (.Name (Str.ofString "BadInfo") np) [e] [] cpos)) none pos::ps) ρ R XS st :=
 za (Td g.hB g.bad (uN.h hk).1 (uN.h hk).2 g.badG g.badK he h)
theorem app (N:Nms l) (i:Nat) {m:Nat} {e:Expr} {p1 p2 p3 p4:Pos} (hi:ρ.get i=some (.ref m)) (hT:∃xs,st[m]?=some (.list xs))
  (h:WE B (zx l) l.length n sc e ρ (fun a st₁=>∃xs,st₁[m]?=some (.list xs)/\xs.length<=16777216/\WSs B (zx l) l.length n sc ps ρ R XS (st₁.set m (.list (xs++[a])))) (fun t st'=>XS t ρ st') st)
  (hl:autoParam (Nat.blt i l.length=true) ar_) (hm:autoParam (sc.kind = .function) af_) (hv:autoParam (∀env t l',swapsWith (.Call (.Attribute (.Name (zx l i) p1) "append" p2) [e] [] p3) t l' env=pure false) af_)
  (sh:autoParam (wf (.Name (zx l i) p1) "append" p2 p3 [e]) am_) (he:autoParam (vV [e]=true) ar_) :
  WSs B (zx l) l.length n sc (.Expr (.Call (.Attribute (.Name (zx l i) p1) "append" p2) [e] [] p3) p4::ps) ρ R XS st:=by
 refine zX (hT) fun ys hys=>?_;try clear hT;refine za (ul hm hv (yf sh (wM N (Nat.le_of_ble_eq_true hl) hi (zV _ _ (ke F.slot_list_append F.type_list_append) (.list hys) ?_))));exact a1 (h.mono (fun a st₁ zz=>yY zz fun xs h1 h2 h3=>vW h1 h2 ⟨rfl,h3⟩) fun u u q=>q) he
theorem Z4 {nm:Nat->Str} {nN:Nat} (g:Gl B) {o:Expr} {p1 p2 p3:Pos} (h:WE B nm nN n sc o ρ (fun a st₁=>∃b,a = .bytes b/\b.length<=16777216/\Q (.bytes (yv true true [32,9,13].contains b)) st₁) X st)
  (sh:autoParam (wf o "strip" p1 p3 [.Name (Str.ofString "INFO_BLANKS") p2]) am_) (hk:autoParam (uN sc "INFO_BLANKS"=true) ak_) :
  WE B nm nN n sc (.Call (.Attribute o "strip" p1) [.Name (Str.ofString "INFO_BLANKS") p2] [] p3) ρ Q X st :=
 yf sh (h.mono (fun a st₁ zz=>yY zz fun b e hz q=>by subst e;exact⟨_,_,vz j_ Wm,.bytes,a1 (dat g 5 rfl (TC hz q) hk)⟩) fun u u q=>q)
theorem TB {nm:Nat->Str} {nN:Nat} (g:Gl B) {o:Expr} {p1 p2 p3:Pos} (h:WE B nm nN n sc o ρ (fun a st₁=>∃b,a = .bytes b/\b.length<=16777216/\Q (.bytes (yv true false [32,9,13].contains b)) st₁) X st)
  (sh:autoParam (wf o "lstrip" p1 p3 [.Name (Str.ofString "INFO_BLANKS") p2]) am_) (hk:autoParam (uN sc "INFO_BLANKS"=true) ak_) :
  WE B nm nN n sc (.Call (.Attribute o "lstrip" p1) [.Name (Str.ofString "INFO_BLANKS") p2] [] p3) ρ Q X st :=
 yf sh (h.mono (fun a st₁ zz=>yY zz fun b e hz q=>by subst e;exact⟨_,_,vz qG XF,.bytes,a1 (dat g 5 rfl (Un hz q) hk)⟩) fun u u q=>q)
theorem tj {nm:Nat->Str} {nN:Nat} (g:Gl B) {o:Expr} {p1 p2 p3:Pos} (h:WE B nm nN n sc o ρ (fun a st₁=>∃b,a = .bytes b/\b.length<=16777216/\Q (.bytes (yv false true [32,9,13].contains b)) st₁) X st)
  (sh:autoParam (wf o "rstrip" p1 p3 [.Name (Str.ofString "INFO_BLANKS") p2]) am_) (hk:autoParam (uN sc "INFO_BLANKS"=true) ak_) :
  WE B nm nN n sc (.Call (.Attribute o "rstrip" p1) [.Name (Str.ofString "INFO_BLANKS") p2] [] p3) ρ Q X st :=
 yf sh (h.mono (fun a st₁ zz=>yY zz fun b e hz q=>by subst e;exact⟨_,_,vz qy Yy,.bytes,a1 (dat g 5 rfl (VU hz q) hk)⟩) fun u u q=>q)
theorem sub {nm:Nat->Str} {nN:Nat} {v i:Expr} {pos:Pos} (h:WE B nm nN n sc v ρ (fun a st₁=>WE B nm nN n sc i ρ (fun k st2=>ZX B a k Q st2) X st₁) X st) (hs:autoParam (∀o k,subscripted i false o k=operate [o,k] (getItem o k)) af_) :
  WE B nm nN n sc (.Subscript v i pos) ρ Q X st:=Qz hs h
theorem zP (g:Gl B) (j:Nat) {x:String} {a:Addr} (hj:xe[j]?=some (x,a)) (N:Nms l) (is:List Nat) {as:List AV}
  (h:WSs B (zx l) l.length n (zT (y6 j)) (xq (y6 j)) (Rho.of is as) (fun fl ρ st'=>match fl with | .ret a=>Q a st' | .next=>Q .none st' | .cont=>False) (fun t ρ st'=>X t st') st)
  (hc:autoParam (P8 j is l=true) ak_) (hl:autoParam (is.length=as.length) af_):Spec B (n+1) (.ref a) as st Q X:=by
 refine Tc (of_decide_eq_true hc) fun hp hi hnd hloc hcell=>?_;refine yY (g.fn j x a hj) fun fd h1 h2 h3=>?_;refine VA h1 g.hB.nolimit N.inj hi hnd hl (fun vs hv=>?_) (by rw[h2];exact hloc) (by rw[h2];exact hcell) (by rw[h2];exact h);rw[h3 vs (by rw[hp];simpa using hv),hp]
theorem q_ (g:Gl B) (j:Nat) {x:String} {a:Addr} (hj:xe[j]?=some (x,a)) (N:Nms l) (is:List Nat) {as:List AV}
  (h:WSs B (zx l) l.length n (zT (y6 j)) (xq (y6 j)) (Rho.of is as) (fun fl ρ st'=>match fl with | .ret a=>Q a st' | .next=>Q .none st' | .cont=>False) (fun t ρ st'=>X t st') st)
  (hsome:∀(k:Nat) x,(zT (y6 j)).names.lookup x=some .cell->((cellsFrom k (zT (y6 j)).names []).lookup x).isSome=true)
  (hc:autoParam (Q3 j is l=true) ak_) (hl:autoParam (is.length=as.length) af_):Spec B (n+1) (.ref a) as st Q X:=by
 refine XQ (of_decide_eq_true hc) fun hp hi hnd hloc=>?_;refine yY (g.fn j x a hj) fun fd h1 h2 h3=>?_;refine WJ h1 g.hB.nolimit N.inj hi hnd hl (fun vs hv=>?_) (by rw[h2];exact hloc) (by rw[h2];exact hsome) (by rw[h2];exact h);rw[h3 vs (by rw[hp];simpa using hv),hp]
end
theorem tt {n k:Nat} (h:k<=n):clipAt n (k:Int)=k:=by unfold clipAt;rw[if_neg (Int.not_lt.mpr (Int.natCast_nonneg k)),Int.min_eq_left (kL _ _ h),Int.max_eq_right (Int.natCast_nonneg k)];rfl
theorem Zj {n k:Nat} (h:n<=k):clipAt n (k:Int)=n:=by unfold clipAt;rw[if_neg (Int.not_lt.mpr (Int.natCast_nonneg k)),Int.min_eq_right (kL _ _ h),Int.max_eq_right (Int.natCast_nonneg n)];rfl
theorem Vr {α:Type} (p c r:List α):cut (some (p.length:Int)) (some ((p.length+c.length:Nat):Int)) (p++c++r)=c:=by
 unfold cut;simp only[Option.elim];rw[tt (by simp),tt (by simp)];rw[List.append_assoc,List.drop_left,show p.length+c.length-p.length=c.length from by exact s8,List.take_left]
theorem jv {α:Type} (p r:List α):cut (some (p.length:Int)) none (p++r)=r:=by
 unfold cut;simp only[Option.elim];rw[tt (by simp),List.drop_left,List.take_of_length_le (by simp)]
theorem Qx {α:Type} (p r:List α):cut none (some (p.length:Int)) (p++r)=p:=by
 unfold cut;simp only[Option.elim];rw[tt (by simp)];simp
theorem jz {α:Type} (p:List α) (c:α) (r:List α):idx (p++c::r) (p.length:Int)=some c:=by exact g0 rfl
theorem sE {α:Type} (l:List α) (k:Nat):idx l (k:Int)=l[k]?:=by exact rfl
theorem ji:∀(b:List UInt8) (k:Nat),tJ (k:Int) (ZL b)=(b.zipIdx k).map fun p=>.tup [.int (p.2:Nat),.int (p.1.toNat:Nat)]:=by
 intro l_
 induction l_ with
 | nil =>
  intro _;exact rfl
 | cons c r ih_ =>
  intro k;have:=ih_ (k+1);simp only[ZL,List.map_cons,List.zipIdx_cons]at this ⊢;rw[<-this];rfl
theorem jU {α:Type} (f:α->AV):∀(b:List α) (k:Nat),tJ (k:Int) (b.map f)=(b.zipIdx k).map fun p=>.tup [.int (p.2:Nat),f p.1]:=by
 intro l_
 induction l_ with
 | nil =>
  intro _;exact rfl
 | cons c r ih_ =>
  intro k;have:=ih_ (k+1);simp only[List.map_cons,List.zipIdx_cons]at this ⊢;rw[<-this];rfl
theorem qT:∀(m k:Nat),kM (k:Int) m=(List.range' k m).map fun i=>.int (i:Nat):=by
 intro l_
 induction l_ with
 | zero =>
  intro _;exact rfl
 | succ m ih_ =>
  intro k;have:=ih_ (k+1);rw[List.range'_succ,List.map_cons,<-this];rfl
section
variable {B:Base} {n:Nat} {Q X:AV->St->Prop} {st:St}
theorem jG (g:Gl B) {t:List Nat} (hz:t.length<=16777216) (h:∀st',Ch [] st st'->Q (.bytes (vt (t.map ua))) st'):Spec B (n+1) (.ref 52) [.str t] st Q X :=
 zP g 0 rfl Z6 [0] (kc g.G hz fun z st'=>h _ (Ch.push ..))
theorem y7 (g:Gl B) {t:List Nat} (hz:t.length<=16777216) (hc:∀c∈t,c<256) (h:∀st',Ch [] st st'->Q (.bytes (t.map Nat.toUInt8)) st'):Spec B (n+1) (.ref 290) [.str t] st Q X :=
 zP g 30 rfl Z6 [0] (qL g.G hz hc fun z st'=>h _ (Ch.push ..))
theorem S3 (g:Gl B) {m:Nat} (hm:m<10 ^ 18) (h:∀st',Ch [] st st'->Q (.bytes (jh m)) st'):Spec B (n+1) (.ref 59) [.int (m:Nat)] st Q X :=
 zP g 1 rfl tV [0] (UW g.G hm fun z st'=>h _ (Ch.push ..))
theorem To (g:Gl B) {i:Int} (h:Q (X2 i) st):Spec B (n+1) (.ref 66) [.int i] st Q X:=zP g 2 rfl ZV [0] (Si fun z=>h)
theorem jT (g:Gl B) {i:Int} (h:Q (.bool (decide (48<=i/\i<=55))) st):Spec B (n+1) (.ref 117) [.int i] st Q X:=zP g 6 rfl ZV [0] (WW fun z=>h)
theorem WA (g:Gl B) (h:∀m ep st',Ch [] st st'->st.length<=m->st'[m]?=some (.dictI ep tO)->Q (.ref m) st'):Spec B (n+1) (.ref 129) [] st Q X :=
 zP g 8 rfl Rf [] (WN g.hB g.D fun z ep st'=>h _ ep _ (by rw[List.append_assoc];exact Ch.push ..) (wC) (zc zf))
noncomputable def Ww:List (Int×Nat):=[(69,27),(101,27),(110,10),(108,10),(114,13),(116,9),(98,8),(102,12),(115,32),(94,94),(92,92),(44,44),(58,58)]
theorem Ur:tO=Ww.map fun p=>(p.1,.int (p.2:Int)):=by rfl
noncomputable def uY (d:Int):Option Nat:=(Ww.find? fun p=>p.1=d).map (fun x=>x.2)
theorem qb (d:Int):yq tO d=(uY d).map fun v=>.int (v:Int):=by
 unfold yq uY;rw[Ur,List.find?_map,Option.map_map,Option.map_map]
 rfl
theorem Ub {d:Int} {v:Nat} (h:uY d=some v):v<256:=by
 revert d v h
 intros d v h;unfold uY at h;rw[Option.map_eq_some_iff]at h;obtain⟨p,hp,rfl⟩:_:=h;have hm:=List.mem_of_find?_eq_some hp
 revert hm
 unfold Ww;simp only[List.mem_cons,wE,or_false]
 rintro (rfl | rfl | rfl | rfl | rfl | rfl | rfl | rfl | rfl | rfl | rfl | rfl | rfl)<;>decide
noncomputable def tH (c:UInt8):Bool:=decide (48<=c.toNat)&&decide (c.toNat<=55)
noncomputable def wt:Nat->Nat->List UInt8->Nat×Nat
 | 0,v,_=>(v,0)
 | _+1,v,[]=>(v,0)
 | k+1,v,c::r=>if tH c=true then ((wt k (v*8+(c.toNat-48)) r).1,(wt k (v*8+(c.toNat-48)) r).2+1) else (v,0)
theorem Qk:∀(x:Nat) (l:List UInt8),wt 0 x l=(x,0):=fun a a=>rfl
theorem ZE:∀(x k:Nat) (c:UInt8) (r:List UInt8),wt (k+1) x (c::r)=if tH c=true then ((wt k (x*8+(c.toNat-48)) r).1,(wt k (x*8+(c.toNat-48)) r).2+1) else (x,0):=fun a a a a=>rfl
noncomputable def nou (v:Nat):Nat:=if v≠0 then v else 128
noncomputable def YH:List UInt8->Option (Nat×Nat)
 | c::d::r =>
  if c.toNat=94 then
   if d.toNat=63 then some (127,2)
   else if 64<=d.toNat/\d.toNat<=95\/97<=d.toNat/\d.toNat<=122 then some (nou (d.toNat%32),2) else none
  else if tH d=true then (if (wt 3 0 (d::r)).1>255 then none else some (nou (wt 3 0 (d::r)).1,(wt 3 0 (d::r)).2+1))
  else (uY d.toNat).map fun v=>(v,2)
 | _=>none
theorem vO:∀(c d:UInt8) (r:List UInt8),YH (c::d::r)=if c.toNat=94 then if d.toNat=63 then some (127,2) else if 64<=d.toNat/\d.toNat<=95\/97<=d.toNat/\d.toNat<=122 then some (nou (d.toNat%32),2) else none else if tH d=true then if (wt 3 0 (d::r)).1>255 then none else some (nou (wt 3 0 (d::r)).1,(wt 3 0 (d::r)).2+1) else (uY d.toNat).map fun v=>(v,2):=fun a a a=>rfl
theorem V7 (d:UInt8):Builtin.bitAnd (d.toNat:Int) 31=((d.toNat%32:Nat):Int):=by
 have h:∀k:Fin 256,Builtin.bitAnd ((k:Nat):Int) 31=(((k:Nat)%32:Nat):Int):=by decide +kernel
 exact h ⟨d.toNat,d.toNat_lt⟩
noncomputable def nEsc:List String:=["octets","at","number","signs","sign","end","value"]
theorem yr:Nms nEsc:=.of (by kernel_rfl)
theorem Y2 (g:Gl B) {p tl:List UInt8} {num:Int} {m ep:Nat} (hz:(p++tl).length<=16777000) (hm:st[m]?=some (.dictI ep tO)) (hS:∀v k,YH tl=some (v,k)->Q (.tup [.int (v:Nat),.int ((p.length+k:Nat):Int)]) st) (hN:YH tl=none->X (.int num) st) :
  Spec B (n+2) (.ref 136) [.bytes (p++tl),.int (p.length:Nat),.int num,.ref m] st Q X:=by
 revert B n Q X st g p tl num m ep hz hm hS hN
 intros B n Q X st g p tl num m ep hz hm hS hN
 have hz':p.length+tl.length<=16777000:=by simpa using hz
 refine zP g 9 rfl yr [0,1,2,3] ?_;refine za (z7 (zk rfl (ze (vv yr 1 rfl (zb (zj (cB g 2 rfl (a1 (vv yr 0 rfl (xj (F1 hz) (z6 rfl (bod (?_) ?_))))))))))))
 ·intros q;refine zo ?_;refine rz g (vv yr 2 rfl (hN ?_))
  match tl,hz',q with
  | [],_,_=>rfl
  | [c],_,_=>rfl
  | _::_::_,_,q=>simp at q;exact Z (F1 (iL q))
 intros q;refine zm (zd ?_)
 have z1_:∃c d r,tl=c::d::r:=by
  match tl,q with
  | [],q=>simp at q;exact Z (F1 (iT q))
  | [c],q=>simp at q
  | c::d::r,_=>exact⟨c,d,r,rfl⟩
 obtain⟨c,d,r,rfl⟩:_:=z1_
 have hd:idx (p++c::d::r) ((p.length:Int)+1)=some d:=by
  have:=jz (p++[c]) d r;simpa using this
 have hd8:=d.toNat_lt;refine asg yr 4 (sub (vv yr 0 rfl (ze (vv yr 1 rfl (zb (zj (yN (I6 (j:=(p.length+1)) (F2 (iNL q) hz)) hd ?_)))))));refine za (z7 (zk rfl (sub (vv yr 0 rfl (vv yr 1 rfl (yN (I6 (j:=(p.length)) (F2 (iNL q) hz)) (jz ..) (dat g 3 rfl (z6 rfl (bod (?_) ?_)))))))))
 ·intros q1;refine zo ?_
  have hc:c.toNat=94:=by exact AS (F1 (Le (iE q1))) (F1 (Re (iE q1)))
  refine za (z7 (zk rfl (vv yr 4 rfl (zb (z6 rfl (bod (?_) ?_))))))
  ·intros q2;refine zo ?_;refine za (zq (zp (aN (zb (a1 (ze (vv yr 1 rfl (zb (zj ⟨wA,?_⟩)))))))));have:=hS 127 2 (by rw[vO,if_pos hc,if_pos (AS (F1 (Le (iE q2))) (F1 (Re (iE q2))))]);simpa using this
  intros q2;refine zm (zd ?_)
  have hq2:¬d.toNat=63:=by exact fun q5_=>(q2 (kE (d.toNat) (63) q5_))
  have fin:∀v:Nat,(64<=d.toNat/\d.toNat<=95\/97<=d.toNat/\d.toNat<=122)->v=nou (d.toNat%32)->Q (.tup [.int (v:Nat),.int ((p.length:Int)+2)]) st:=by
   intros v hv e;subst e;have:=hS (nou (d.toNat%32)) 2 (by rw[vO,if_pos hc,if_neg hq2,if_pos hv]);simpa using this
  refine za (z7 (xJ (qa (wc yr (k:=4) (by decide) rfl (?_) fun q3=>zo (xJ (qa (wc yr (k:=4) (by decide) rfl (fun q4=>zm (zd ?_)) fun q4=>zo (wa (zo ?_)))))))))
  ·intros q3;refine zm (zd ?_);refine za (zq (zp (aN (yE (zk rfl (ze (vv yr 4 rfl (zb (vw (zb (z6 rfl (bon (fun q5=>zm ?_) fun q5=>zo ?_))))))))))))
   all_goals rw[V7]at q5
   ·refine dat g 4 rfl (a1 (ze (vv yr 1 rfl (zb (zj ⟨wA,fin 128 (.inl (⟨(F1 (iL q3.1)),(F1 (iL q3.2))⟩)) (by rw[nou,if_neg (fun q5_=>(q5_ (AS (F1 (Le (iE q5))) (by exact wD))))])⟩)))))
   ·refine ze (vv yr 4 rfl (zb (vw (a1 (ze (vv yr 1 rfl (zb (zj ⟨by exact wA,?_⟩))))))));rw[V7];exact fin _ (.inl (by exact⟨(F1 (iL q3.1)),(F1 (iL q3.2))⟩)) (by rw[nou,if_pos (by exact fun q5_=>(q5 (kE (d.toNat%32) (0) q5_)))])
  ·refine za (zq (zp (aN (yE (zk rfl (ze (vv yr 4 rfl (zb (vw (zb (z6 rfl (bon (fun q5=>zm ?_) fun q5=>zo ?_))))))))))))
   all_goals rw[V7]at q5
   ·refine dat g 4 rfl (a1 (ze (vv yr 1 rfl (zb (zj ⟨by exact wA,fin 128 (.inr (by exact⟨(F1 (iL q4.1)),(F1 (iL q4.2))⟩)) (by rw[nou,if_neg (by exact fun q5_=>(Z (F1 (nl (F1 (Le (iE q5))) q5_))))])⟩)))))
   ·refine ze (vv yr 4 rfl (zb (vw (a1 (ze (vv yr 1 rfl (zb (zj ⟨by exact wA,?_⟩))))))));rw[V7];exact fin _ (.inr (by exact⟨(F1 (iL q4.1)),(F1 (iL q4.2))⟩)) (by rw[nou,if_pos ((show ∀k,k<256->97<=k->k<=122->k%32≠0 by decide +kernel) _ d.toNat_lt (iL q4.1) (iL q4.2))])
  ·exact rz g (vv yr 2 rfl (hN (by rw[vO,if_pos hc,if_neg hq2,if_neg (by exact fun q5_=>(q3 ⟨(q5_.elim (fun q3_=>(kL (64) (d.toNat) (F1 q3_.1))) fun q3_=>(kL (64) (d.toNat) (F1 q3_.1))),(q5_.elim (fun q3_=>(kL (d.toNat) (95) (F1 q3_.2))) fun q3_=>((q4 ⟨(kL (97) (d.toNat) (F1 q3_.1)),(kL (d.toNat) (122) (F1 q3_.2))⟩):False).elim)⟩))])))
 intros q1;refine zm (zd ?_)
 have hc:¬c.toNat=94:=by exact fun q5_=>(q1 (kE (c.toNat) (94) q5_))
 refine za (z7 (qa (xu (fun z z=>rfl) (cF g 6 rfl (a1 (vv yr 4 rfl (jT g (bod (fun q2=>zm (zd ?_)) fun q2=>zo ?_))))))))
 rotate_left
 ·have ho:¬tH d=true:=by unfold tH;simp;exact fun h=>Nat.lt_of_not_le fun k=>q2 ⟨kL _ _ h,kL _ _ k⟩
  refine za (z7 (zk rfl (vv yr 4 rfl (vv yr 3 rfl (xd (dkI B) g.hB hm (bo (?_) ?_))))))
  ·intros q3;refine zo ?_;refine rz g (vv yr 2 rfl (hN ?_));rw[vO,if_neg hc,if_neg ho];rw[qb]at q3
   rcases tF (uY (d.toNat:Int))with hv | w2_
   ·try rw[hv]
    rfl
   ·obtain⟨v,hv⟩:_:=w2_
    try rw[hv]
    rw[hv]at q3;cases q3
  ·intros q3;refine zm (zd ?_)
   rcases tF (uY (d.toNat:Int))with hv | w3_
   ·try rw[hv]
    rw[qb,hv]at q3;cases q3
   ·obtain⟨v,hv⟩:_:=w3_
    try rw[hv]
    refine za (zq (zp (aN (sub (vv yr 3 rfl (vv yr 4 rfl (z5 (dkI B) hm (by rw[qb,hv];rfl) (a1 (ze (vv yr 1 rfl (zb (zj ⟨by exact wA,?_⟩))))))))))));have:=hS v 2 (by rw[vO,if_neg hc,if_neg ho,hv];rfl);simpa using this
 have ho:tH d=true:=by unfold tH;simp;exact⟨(F1 (iL q2.1)),(F1 (iL q2.2))⟩
 refine uD yr 5 6 (zp (aN (ze (vv yr 1 rfl (zb (zj (a1 (zb ⟨by exact wA,_,rfl,rfl,?_⟩))))))));refine xx (fun r' st'=>st'=st/\r'=[(0,.bytes (p++c::d::r)),(1,.int (p.length:Nat)),(2,.int num),(3,.ref m),(4,.int d.toNat),(6,.int ((wt 3 0 (d::r)).1:Nat)),(5,.int ((p.length+1+(wt 3 0 (d::r)).2:Nat):Int))]) ?_ ?_
 ·refine sF (fun k r' st'=>st'=st /\ ∃(q u:List UInt8) (v:Nat),k<=3/\d::r=q++u/\q.length+k=3/\v<8 ^ q.length/\wt 3 0 (d::r)=((wt k v u).1,(wt k v u).2+q.length)/\r'=[(0,.bytes (p++c::d::r)),(1,.int (p.length:Nat)),(2,.int num),(3,.ref m),(4,.int d.toNat),(6,.int (v:Nat)),(5,.int ((p.length+1+q.length:Nat):Int))]) ?_ 3 ?_
  ·intros k r' st' p10_;obtain⟨rfl,q,u,v,hk,hu,hq,hv,ho',rfl⟩:_:=p10_
   have hl:(p++c::d::r).length=p.length+1+q.length+u.length:=by rw[hu];simp;exact AS (by simp +arith only) (by simp +arith only)
   have stop:wt k v u=(v,0)->st'=st'/\[(0,AV.bytes (p++c::d::r)),(1,.int (p.length:Nat)),(2,.int num),(3,.ref m),(4,.int d.toNat),(6,.int (v:Nat)),(5,.int ((p.length+1+q.length:Nat):Int))]=[(0,.bytes (p++c::d::r)),(1,.int (p.length:Nat)),(2,.int num),(3,.ref m),(4,.int d.toNat),(6,.int ((wt 3 0 (d::r)).1:Nat)),(5,.int ((p.length+1+(wt 3 0 (d::r)).2:Nat):Int))]:=by
    intros e;rw[ho',e];simp
   refine xJ (zk rfl (vv yr 5 rfl (cB g 2 rfl (a1 (vv yr 0 rfl (xj (by exact F1 hz) (z6 rfl (bod (?_) ?_))))))))
   ·intros h1;refine zo ?_;refine xJ (zk rfl (vv yr 5 rfl (ze (vv yr 1 rfl (zb (zj (z6 rfl (bod (?_) ?_))))))))
    ·intros h2;refine zo ?_;have z4_:∃j,k=j+1:=⟨k-1,by exact AS (F1 (Re (S1 (k) (1) (F2 (Re hq) (iT h2))))) (F1 (Le (S1 (k) (1) (F2 (Re hq) (iT h2)))))⟩;obtain⟨k,rfl⟩:_:=z4_
     have z5_:∃x w,u=x::w:=by
      rcases Wo (u)with c6_ | w7_
      ·subst c6_;simp at hl h1;exact Z (F2 (Le hl) (iT h1))
      ·obtain⟨x,w,c6_⟩:_:=w7_;subst c6_;exact⟨x,w,rfl⟩
     obtain⟨x,u,rfl⟩:_:=z5_
     have hx:idx (p++c::d::r) ((p.length+1+q.length:Nat):Int)=some x:=by
      rw[hu];have:=jz (p++c::q) x u;simpa[Nat.add_assoc,Nat.add_comm 1]using this
     have hx8:=x.toNat_lt;refine xJ (xu (fun z z=>rfl) (cF g 6 rfl (a1 (sub (vv yr 0 rfl (vv yr 5 rfl (yN (by exact I6 (F2 hz (Re hl))) hx (jT g (bod (?_) ?_)))))))))
     ·intros h3;refine zo (wa (zo ?_));have hv8:v<8 ^ 2:=Nat.lt_of_lt_of_le hv (Nat.pow_le_pow_right (by decide) (by exact F1 (Le hq)));refine asg yr 6 (ze (ze (ze (vv yr 6 rfl (zb (vB (I6 (Nat.le_trans (Nat.le_of_lt hv8) (by decide))) ?_))))));refine sub (vv yr 0 rfl (vv yr 5 rfl (yN (by exact I6 (F2 hz (Re hl))) hx (zj (zb (w8 ?_))))));refine asg yr 5 (ze (vv yr 5 rfl (zb (zj (zd ⟨k,by exact wC,rfl,q++[x],u,v*8+(x.toNat-48),by exact F1 hk,by rw[hu];exact mc,by simp;exact AS (F1 (Le hq)) (F1 (Re hq)),?_,?_,?_⟩)))))
      ·rw[List.length_append,List.length_singleton,Nat.pow_succ];exact F3 (U 8 hv) (Le (S1 (x.toNat) (48) (F1 (iL h3.1)))) (iL h3.2)
      ·rw[ho',ZE,if_pos (by unfold tH;simp;exact⟨(F1 (iL h3.1)),(F1 (iL h3.2))⟩)];simp;exact AS (by simp +arith only) (by simp +arith only)
      ·have e:((v*8+(x.toNat-48):Nat):Int)=(v:Int)*8+x.toNat-48:=cs (iL h3.1);simp[Rho.set_1,e];exact rfl
     ·intros h3;refine zm (zm (stop ?_));rw[ZE,if_neg (by unfold tH;simp;exact fun h=>Nat.lt_of_not_le fun k=>h3 ⟨kL _ _ h,kL _ _ k⟩)]
    ·intros h2;refine zm (zm (stop ?_))
     have:k=0:=by exact AS (F2 (Le hq) (iNT h2)) (by exact wD)
     subst this;rfl
   ·intros h1;refine zm (zm (stop ?_))
    have:u=[]:=by
     rcases Wo (u)with c8_ | w9_
     ·subst c8_
      rfl
     ·obtain⟨x,w,c8_⟩:_:=w9_;subst c8_;rw[hl]at h1;simp at h1;exact Z (F1 (iL h1))
    subst this
    cases k<;>rfl
  ·refine⟨rfl,[],d::r,0,by exact wC,rfl,rfl,by exact wC,by simp,?_⟩;exact rfl
 ·intros r' st' p11_;obtain⟨rfl,rfl⟩:_:=p11_;refine za (z7 (zk rfl (vv yr 6 rfl (zb (z6 rfl (bod (?_) ?_))))))
  ·intros q3;refine zo ?_;exact rz g (vv yr 2 rfl (hN (by rw[vO,if_neg hc,if_pos ho,if_pos (by exact F1 (iT q3))])))
  ·intros q3;refine zm (zd ?_)
   have fin:∀v:Nat,v=nou (wt 3 0 (d::r)).1->Q (.tup [.int (v:Nat),.int ((p.length+1+(wt 3 0 (d::r)).2:Nat):Int)]) st':=by
    intros v e;subst e;have:=hS _ _ (by rw[vO,if_neg hc,if_pos ho,if_neg (by exact fun q5_=>(Z (F2 q5_ (iNT q3))))])
    have e:p.length+1+(wt 3 0 (d::r)).2=p.length+((wt 3 0 (d::r)).2+1):=by exact AS (by simp +arith only) (by simp +arith only)
    rw[e];exact this
   refine za (zq (zp (aN (yE (zk rfl (vv yr 6 rfl (zb (z6 rfl (bon (?_) ?_)))))))))
   ·intros q5;refine zm ?_;exact dat g 4 rfl (a1 (vv yr 5 rfl ⟨by exact wA,fin 128 (by rw[nou,if_neg (by exact fun q5_=>(q5_ (AS (F1 (Le (iE q5))) (by exact wD))))])⟩))
   ·intros q5;refine zo ?_;exact vv yr 6 rfl (a1 (vv yr 5 rfl ⟨by exact wA,fin _ (by rw[nou,if_pos (by exact fun q5_=>(q5 (kE ((wt 3 0 (d::r)).fst) (0) q5_)))])⟩))
end
theorem SQ {l:List UInt8} {v k:Nat} (h:YH l=some (v,k)):2<=k:=by
 match l,h with
 | c::d::r,h =>
  rw[vO]at h
  by_cases hc:c.toNat=94
  ·rw[if_pos hc]at h
   split at h
   ·cases h;exact wC
   ·split at h
    ·cases h;exact wC
    ·cases h
  ·rw[if_neg hc]at h
   split at h
   ·rename_i ho
    split at h
    ·cases h
    ·cases h;rw[ZE,if_pos ho];exact wA
   ·rw[Option.map_eq_some_iff]at h;obtain⟨a,_,h⟩:=h;cases h;exact wC
theorem RN {l:List UInt8} {v k:Nat} (h:YH l=some (v,k)):v<256:=by
 match l,h with
 | c::d::r,h =>
  rw[vO]at h
  have nl:∀v,v<=255->nou v<256:=fun v hv=>by unfold nou;split<;>first | exact Nat.lt_succ_of_le hv | decide
  by_cases hc:c.toNat=94
  ·rw[if_pos hc]at h
   split at h
   ·cases h;exact wA
   ·split at h
    ·cases h;exact nl _ (F1 (M32 (d.toNat)))
    ·cases h
  ·rw[if_neg hc]at h
   split at h
   ·split at h
    ·cases h
    ·cases h;exact nl _ (F1 (Nt ‹¬(wt 3 0 (d::r)).fst>255›))
   ·rw[Option.map_eq_some_iff]at h;obtain⟨a,ha,h⟩:=h;cases h;exact Ub ha
theorem Tj:∀(k v:Nat) (l:List UInt8),(wt k v l).2<=l.length
 | 0,_,_=>by simp[Qk]
 | _+1,_,[]=>by exact wC
 | k+1,v,c::r=>by
  rw[ZE]
  split
  ·have:=Tj k (v*8+(c.toNat-48)) r;simp;exact this
  ·exact wD
theorem Qq {l:List UInt8} {v k:Nat} (h:YH l=some (v,k)):k<=l.length:=by
 match l,h with
 | c::d::r,h =>
  rw[vO]at h;simp only[List.length_cons]
  by_cases hc:c.toNat=94
  ·rw[if_pos hc]at h
   split at h
   ·cases h;exact wA
   ·split at h
    ·cases h;exact wA
    ·cases h
  ·rw[if_neg hc]at h
   split at h
   ·split at h
    ·cases h
    ·cases h;have:=Tj 3 0 (d::r);simp only[List.length_cons]at this;exact F1 this
   ·rw[Option.map_eq_some_iff]at h;obtain⟨a,ha,h⟩:=h;cases h;exact wA
noncomputable def qN:Nat->List UInt8->Option (List Nat)
 | _,[]=>some []
 | 0,_::_=>none
 | f+1,c::r=>if c.toNat=92\/c.toNat=94 then match YH (c::r)with
   | none=>none
   | some (v,k)=>(qN f ((c::r).drop k)).map (fun x=>v::x)
  else (qN f r).map (fun x=>c.toNat::x)
theorem Sl:∀(f:Nat) (c:UInt8) (r:List UInt8),qN (f+1) (c::r)=if c.toNat=92\/c.toNat=94 then match YH (c::r)with | none=>none | some (v,k)=>(qN f ((c::r).drop k)).map (fun x=>v::x) else (qN f r).map (fun x=>c.toNat::x):=fun a a a=>rfl
noncomputable def kU (b:List UInt8):Option (List Nat):=qN b.length b
noncomputable def nStr:List String:=["octets","number","found","at","signs","octet"]
theorem uh:Nms nStr:=.of (by decide +kernel)
section
variable {B:Base} {n:Nat} {Q X:AV->St->Prop} {st:St}
theorem Qe {i a b:Int}:jZ B 40 st (.int i) [.int a,.int b] (decide (i=a\/i=b)) :=
 ⟨_,_,t4,(zV _ _ t4 rfl rfl),dd2⟩
theorem Yx (g:Gl B) {b:List UInt8} {num:Int} (hz:b.length<=16777000) (hS:∀vs,kU b=some vs->∀st',Ch [] st st'->Q (.bytes (vs.map Nat.toUInt8)) st') (hN:kU b=none->∀st',Ch [] st st'->X (.int num) st') :
  Spec B (n+3) (.ref 143) [.bytes b,.int num] st Q X:=by
 revert B n Q X st g b num hz hS hN
 intros B n Q X st g b num hz hS hN;refine zP g 10 rfl uh [0,1] ?_;refine UV uh 2 3 4 (zp (aN (zr (zA ⟨wD,aN (zb (a1 (cF g 8 rfl (zA (WA g ?_)))))⟩))));intros m ep st₁ c₁ hm h1;refine⟨wA,_,rfl,rfl,?_⟩
 have hm1:m≠st.length:=by simp at hm;exact Qr (F1 hm)
 have hf:=c₁.get zf (wE);have c1:Ch [] st st₁:=(Ch.push [] st _).trans c₁;refine xx (fun r' st'=>Ch [] st st' /\ ∃vs:List Nat,kU b=some vs/\(∀v∈vs,v<256)/\vs.length<=b.length/\st'[st.length]?=some (.list (xy vs))/\r'.get 2=some (.ref st.length)) ?_ ?_
 ·refine sF (fun k r' st'=>Ch [] st st' /\ ∃(p u:List UInt8) (vs:List Nat) (f:Nat) (o:Option AV),b=p++u/\k=u.length/\u.length<=f/\(∀v∈vs,v<256)/\vs.length<=p.length/\kU b=(qN f u).map (fun x=>vs++x)/\st'[st.length]?=some (.list (xy vs))/\st'[m]?=some (.dictI ep tO) /\
   r'=[(0,.bytes b),(1,.int num),(4,.ref m),(3,.int (p.length:Nat)),(2,.ref st.length)]++(o.elim [] fun a=>[(5,a)])) ?_ b.length ?_
  ·intros k r' st' p3_;obtain⟨ch,p,u,vs,f,o,hb,rfl,hf',hv,hvl,hP,hl,hd,rfl⟩:_:=p3_
   have hbl:b.length=p.length+u.length:=by rw[hb];exact List.length_append
   refine zk rfl (vv uh 3 rfl (cB g 2 rfl (a1 (vv uh 0 rfl (xj (F1 hz) (z6 rfl (bod (?_) ?_)))))))
   ·intros q;refine zo ?_
    obtain⟨c,r,rfl⟩:∃c r,u=c::r:=by
     cases u with
     | nil=>simp at hbl;exact Z (F2 (iT q) (Le hbl))
     | cons c r=>exact⟨c,r,rfl⟩
    obtain⟨f,rfl⟩:∃j,f=j+1:=⟨f-1,by simp at hf';exact AS (F1 (Re (S1 (f) (1) (F1 hf')))) (F1 (Le (S1 (f) (1) (F1 hf'))))⟩
    have hx:idx b (p.length:Int)=some c:=by rw[hb];exact jz ..
    have hc8:=c.toNat_lt;refine za (z7 (zk rfl (sub (vv uh 0 rfl (vv uh 3 rfl (yN (I6 (F2 hz (Re hbl))) hx (zp (aN (dat g 2 rfl (a1 (dat g 3 rfl ⟨wA,vd Qe (bod (?_) ?_)⟩)))))))))))
    ·intros q1;refine zo ?_
     have q1':c.toNat=92\/c.toNat=94:=by exact o2 q1
     rw[Sl,if_pos q1']at hP;refine Zo uh 5 3 (cF g 9 rfl (aN (vv uh 0 rfl (aN (vv uh 3 rfl (a2 (vv uh 1 rfl (vv uh 4 rfl ?_)))))))) (hv:=fun z z=>rfl);rw[hb];refine Y2 g (by rw[<-hb];exact hz) hd (?_) fun he=>hN (by rw[hP,he];rfl) _ ch;intros v k he;refine⟨_,rfl,rfl,?_⟩;have hk2:=SQ he;have hkl:=Qq he;refine app uh 2 (m:=st.length) (by cases o<;>rfl) ⟨_,hl⟩ (vv uh 5 (a:=.int (v:Nat)) (by cases o<;>rfl) ⟨_,hl,by simp[xy];exact F3 hz hvl (Re hbl),zd ?_⟩);refine zd ⟨_,?_,ch.set' _ (.inr (wC)),p++(c::r).take k,(c::r).drop k,vs++[v],f,some (.int (v:Nat)),?_,rfl,?_,?_,?_,?_,?_,?_,?_⟩
     ·simp only[List.length_drop,List.length_cons]at hkl ⊢;exact F2 (Le (S1 (r.length+1) (k) (F1 hkl))) hk2
     ·rw[List.append_assoc,List.take_append_drop]
     ·simp only[List.length_drop,List.length_cons]at hf' ⊢;exact sa (F2 hf' hk2)
     ·intros x hx
      rcases List.mem_append.mp hx with hx | hx
      ·exact hv x hx
      ·rw[List.mem_singleton.mp hx];exact RN he
     ·simp only[List.length_append,List.length_take,List.length_cons,List.length_nil]at hkl ⊢;exact F3 hvl hk2 (Re (mL (k) (r.length+1) (F1 hkl)))
     ·rw[<-hb,hP,he]
      cases hq:qN f ((c::r).drop k)<;>simp[hq]
     ·rw[List.getElem?_set_self (zv hl)];simp[xy]
     ·rw[List.getElem?_set_ne (fun q5_=>(hm1 q5_.symm))];exact hd
     ·have:(p++(c::r).take k).length=p.length+k:=by simp only[List.length_append,List.length_take];exact AS (F1 (Le (mL (k) ((c::r).length) (F1 hkl)))) (F1 (Re (mL (k) ((c::r).length) (F1 hkl))))
      rw[this]
      cases o<;>simp[Rho.sets_1,Rho.sets_2,Rho.set_1,Rho.set_2]
    ·intros q1;refine zm ?_
     have q1':¬(c.toNat=92\/c.toNat=94):=by exact fun q5_=>(q1 (c2 q5_))
     rw[Sl,if_neg q1']at hP;refine app uh 2 (m:=st.length) (by cases o<;>rfl) ⟨_,hl⟩ (sub (vv uh 0 rfl (vv uh 3 rfl (yN (I6 (F2 hz (Re hbl))) hx ⟨_,hl,by simp[xy];exact F3 hz hvl (Re hbl),?_⟩))));refine asg uh 3 (ze (vv uh 3 rfl (zb (zj (zd ?_)))));refine zd ⟨_,?_,ch.set' _ (.inr (wC)),p++[c],r,vs++[c.toNat],f,o,?_,rfl,?_,?_,?_,?_,?_,?_,?_⟩
     ·simp
     ·rw[hb];exact mc
     ·simp only[List.length_cons]at hf' ⊢;exact F1 hf'
     ·intros x hx
      rcases List.mem_append.mp hx with hx | hx
      ·exact hv x hx
      ·rw[List.mem_singleton.mp hx];exact hc8
     ·simp;exact hvl
     ·rw[hP]
      cases qN f r<;>simp
     ·rw[List.getElem?_set_self (zv hl)];simp[xy]
     ·rw[List.getElem?_set_ne (fun q5_=>(hm1 q5_.symm))];exact hd
     ·cases o<;>simp[Rho.set_2]
   ·intros q;refine zm ?_
    have:u=[]:=by
     cases u with
     | nil=>rfl
     | cons x w=>simp at hbl;exact Z (F2 (Re hbl) (iNT q))
    subst this
    have e:qN f []=some []:=by cases f<;>rfl
    rw[e]at hP;exact⟨ch,vs,by simpa using hP,hv,F2 hvl (Re hbl),hl,by cases o<;>rfl⟩
  ·refine⟨c1,[],b,[],b.length,none,rfl,rfl,wC,nn,wC,?_,hf,h1,?_⟩
   ·show qN b.length b=_
    cases qN b.length b<;>simp
   ·exact rfl
 ·intros r' st' p4_;obtain⟨ch,vs,hP,hv,hvl,hl,h2⟩:_:=p4_;refine za (zq (cB g 0 rfl (a1 (vv uh 2 h2 (xv (l:=vs.map fun v:Nat=>(v:Int)) ?_ ?_ ?_ ?_)))))
  ·rw[hl];simp[xy]
  ·intros x hx;obtain⟨y,hy,rfl⟩:_:=List.mem_map.mp hx;have:=hv y hy;exact⟨(kL (0) (y) (wD)),(kT (y) (256) (F1 this))⟩
  ·simp;exact F2 hz hvl
  ·have:=hS vs hP _ ch;simpa[vt,Function.comp_def]using this
end
inductive Res (α:Type) where
 | ok (a:α) | bad | wild
noncomputable def Res.bind {α β:Type}:Res α->(α->Res β)->Res β
 | .ok a,f=>f a
 | .bad,_=>.bad
 | .wild,_=>.wild
theorem Res.bind_ok {α β:Type} {r:Res α} {f:α->Res β} {b:β} (h:r.bind f = .ok b):∃a,r = .ok a/\f a = .ok b:=by
 cases r with
 | ok a=>exact zw a rfl h
 | bad=>cases h
 | wild=>cases h
noncomputable def Wp (c:Nat):Option Nat:=if 48<=c/\c<=57 then some (c-48) else if 65<=c/\c<=70 then some (c-55) else if 97<=c/\c<=102 then some (c-87) else none
theorem Qo (c:Nat):X2 (c:Int)=match Wp c with | some d=>.int (d:Nat) | none=>.none:=by
 revert c
 intros c;unfold X2 Wp
 by_cases h1:48<=c/\c<=57
 ·rw[if_pos (⟨(kL (48) (c) (F1 h1.1)),(kL (c) (57) (F1 h1.2))⟩),if_pos h1];simp only;congr 1;exact(Int.ofNat_sub h1.1).symm
 rw[if_neg (fun q5_=>(h1 ⟨(F1 (iL q5_.1)),(F1 (iL q5_.2))⟩)),if_neg h1]
 by_cases h2:65<=c/\c<=70
 ·rw[if_pos (⟨(kL (65) (c) (F1 h2.1)),(kL (c) (70) (F1 h2.2))⟩),if_pos h2];simp only;congr 1;exact(Int.ofNat_sub (F1 h2.1)).symm
 rw[if_neg (fun q5_=>(h2 ⟨(F1 (iL q5_.1)),(F1 (iL q5_.2))⟩)),if_neg h2]
 by_cases h3:97<=c/\c<=102
 ·rw[if_pos (⟨(kL (97) (c) (F1 h3.1)),(kL (c) (102) (F1 h3.2))⟩),if_pos h3];simp only;congr 1;exact(Int.ofNat_sub (F1 h3.1)).symm
 rw[if_neg (fun q5_=>(h3 ⟨(F1 (iL q5_.1)),(F1 (iL q5_.2))⟩)),if_neg h3]
theorem Ro {c d:Nat} (h:Wp c=some d):d<16:=by
 revert c d h
 intros c d h;unfold Wp at h
 split at h
 ·cases h;exact F2 (Le (S1 (c) (48) (F1 ‹48<=c/\c<=57›.1))) ‹48<=c/\c<=57›.2
 ·split at h
  ·cases h;exact F2 (Le (S1 (c) (55) (F1 ‹65<=c/\c<=70›.1))) ‹65<=c/\c<=70›.2
  ·split at h
   ·cases h;exact F2 (Le (S1 (c) (87) (F1 ‹97<=c/\c<=102›.1))) ‹97<=c/\c<=102›.2
   ·cases h
noncomputable def Y5 (base:Nat):Nat->List UInt8->Option Nat
 | v,[]=>some v
 | v,c::r=>match Wp c.toNat with
  | none=>none
  | some d=>if base<=d then none else Y5 base (v*base+d) r
theorem RD:∀(b x:Nat),Y5 b x []=some x:=fun a a=>rfl
theorem Wt:∀(b x:Nat) (c:UInt8) (r:List UInt8),Y5 b x (c::r)=match Wp c.toNat with | none=>none | some d=>if b<=d then none else Y5 b (x*b+d) r:=fun a a a a=>rfl
noncomputable def vc (b:List UInt8):Nat×List UInt8 :=
 if b.take 2=[48,120]\/b.take 2=[48,88] then (16,b.drop 2) else if 1<b.length/\b.head?=some 48 then (8,b.drop 1) else (10,b)
noncomputable def uK (b:List UInt8):Res Nat :=
 if 15<b.length then .wild else
 match Y5 (vc b).1 0 (vc b).2 with
 | none=>.bad
 | some v=>if (vc b).2=[]\/2147483647<v then .bad else .ok v
noncomputable def nNum:List String:=["octets","number","base","figures","value","octet","figure"]
theorem xF:Nms nNum:=.of (by kernel_rfl)
theorem jO {α:Type} (l:List α) (k:Nat):cut (some (k:Int)) none l=l.drop k:=by
 unfold cut;simp only[Option.elim]
 by_cases h:k<=l.length
 ·rw[tt h,List.take_of_length_le (by simp)]
 ·rw[Zj (F1 (Nl h)),List.drop_length,List.drop_eq_nil_of_le (F1 (Nl h))];simp
theorem vP {α:Type} (l:List α) (k:Nat):cut none (some (k:Int)) l=l.take k:=by
 unfold cut;simp only[Option.elim]
 by_cases h:k<=l.length
 ·rw[tt h];exact rfl
 ·rw[Zj (F1 (Nl h)),List.take_of_length_le (by exact wC),List.take_of_length_le (Nat.le_of_not_le h)];exact rfl
section
variable {B:Base} {n:Nat} {Q X:AV->St->Prop} {st:St}
theorem RA {i a b:List UInt8}:jZ B 40 st (.bytes i) [.bytes a,.bytes b] (decide (i=a\/i=b)) :=
 ⟨_,_,vZ,(zV _ _ vZ rfl rfl),by by_cases h1:i=a<;>by_cases h2:i=b<;>simp[h1,h2,eq_comm]⟩
theorem Xo (g:Gl B) {b:List UInt8} {num:Int} (hw:uK b ≠ .wild) (hS:∀v:Nat,uK b = .ok v->Q (.int (v:Nat)) st) (hN:uK b = .bad->X (.int num) st):Spec B (n+2) (.ref 150) [.bytes b,.int num] st Q X:=by
 revert B n Q X st g b num hw hS hN
 intros B n Q X st g b num hw hS hN
 have h15:b.length<=15:=by
  unfold uK at hw
  by_cases h:15<b.length
  ·rw[if_pos h]at hw;exact absurd rfl hw
  ·exact F1 (Nt h)
 have hP:uK b=match Y5 (vc b).1 0 (vc b).2 with
  | none=>.bad
  | some v=>if (vc b).2=[]\/2147483647<v then .bad else .ok v:=by rw[uK,if_neg (Qt (F1 h15))]
 refine zP g 11 rfl xF [0,1] ?_;refine uD xF 2 3 (zp (aN (zb (a1 (vv xF 0 rfl ⟨wA,_,rfl,rfl,?_⟩)))));refine xx (fun r' st'=>st'=st /\ ∃bs fg,vc b=(bs,fg)/\bs<=16/\fg.length<=15/\r'=[(0,.bytes b),(1,.int num),(3,.bytes fg),(2,.int (bs:Nat))]) ?_ ?_
 ·refine z7 (zk rfl (zR (vv xF 0 rfl (zb ⟨_,rfl,yh (F1 h15) (zp (aN (zt (a1 (zt ⟨wA,vd RA (bod (?_) ?_)⟩)))))⟩))))
  ·intros q1;refine zo ?_;have e:cut none (some 2) b=b.take 2:=vP b 2;rw[e]at q1;refine uD xF 2 3 (zp (aN (zb (a1 (zR (vv xF 0 rfl (zb ⟨_,rfl,yh (F1 h15) ⟨wA,_,rfl,rfl,zd ⟨rfl,16,b.drop 2,?_,wC,?_,?_⟩⟩⟩)))))))
   ·unfold vc;rw[if_pos q1]
   ·simp;exact F1 h15
   ·have:=jO b 2;simp[Rho.set_1,Rho.set_2,Rho.sets_1,Rho.sets_2,Rho.of]at this ⊢;exact this
  ·intros q1;refine zm ?_;have e:cut none (some 2) b=b.take 2:=vP b 2;rw[e]at q1
   have base10:¬(1<b.length/\b.head?=some 48)->vc b=(10,b):=fun h=>by unfold vc;rw[if_neg q1,if_neg h]
   refine za (z7 (xJ (zk rfl (cB g 2 rfl (a1 (vv xF 0 rfl (xj (F1 h15) (zb (z6 rfl (bod (?_) fun q2=>zm (zm (zd (zd ⟨rfl,10,b,base10 (fun q5_=>(Z (F2 q5_.1 (iNT q2)))),wA,h15,rfl⟩)))))))))))));intros q2;refine zo ?_
   obtain⟨c,r,rfl⟩:∃c r,b=c::r:=by
    cases b with
    | nil=>exact nomatch q2
    | cons c r=>exact⟨c,r,rfl⟩
   refine xJ (zk rfl (sub (vv xF 0 rfl (zb (yN (c:=c) (I6 (by exact wD)) rfl (zb (z6 rfl (bod (?_) ?_))))))))
   ·intros q3;refine zo (wa (zo ?_))
    have hc:c=48:=by
     have:c.toNat=(48:UInt8).toNat:=by simp;exact AS (F1 (Le (iE q3))) (F1 (Re (iE q3)))
     exact UInt8.toNat_inj.mp this
    refine uD xF 2 3 (zp (aN (zb (a1 (zR (vv xF 0 rfl (zb ⟨_,rfl,yh (F1 h15) ⟨wA,_,rfl,rfl,zd (zd ⟨rfl,8,(c::r).drop 1,?_,wA,by simp at h15 ⊢;exact F1 h15,?_⟩)⟩⟩)))))))
    ·unfold vc;rw[if_neg q1,if_pos ⟨F1 (iT q2),by rw[hc];rfl⟩]
    ·have:=jO (c::r) 1;simp[Rho.set_1,Rho.set_2,Rho.sets_1,Rho.sets_2,Rho.of]at this ⊢;exact this
   ·intros q3;refine zm (zm (zd (zd ⟨rfl,10,c::r,base10 ?_,wA,h15,rfl⟩)));intros p5_;obtain⟨_,h⟩:_:=p5_
    injection h with h
    rw[h]at q3;exact q3 rfl
 ·intros r' st' p6_;obtain⟨rfl,bs,fg,hb,hbs,hfl,rfl⟩:_:=p6_;rw[hb]at hP;simp only at hP;refine asg xF 4 (zb ?_);refine vN xF 5 (yj (vv xF 3 rfl (YE ⟨UInt8,fg,fun c=>.int (c.toNat:Int),fun rest r' s₂=>s₂=st' /\ ∃v:Nat,Y5 bs 0 fg=Y5 bs v rest/\v<16 ^ (fg.length-rest.length)/\rest.length<=fg.length/\r'.get 1=some (.int num)/\r'.get 2=some (.int (bs:Nat))/\r'.get 3=some (.bytes fg)/\r'.get 4=some (.int (v:Nat)),rfl,?_,?_,?_⟩)))
  ·exact⟨rfl,0,rfl,by simp,wC,rfl,rfl,rfl,rfl⟩
  ·intros r' s₂ p7_;obtain⟨rfl,v,hv,hlt,_,g1,g2,g3,g4⟩:_:=p7_;refine⟨trivial,?_⟩;rw[hv]at hP;simp only[RD]at hP;refine za (z7 (xE (zk rfl (vv xF 3 g3 (zt (zU (bod (?_) ?_)))))))
   ·intros q;refine zo (zo ?_);exact rz g (vv xF 1 g1 (hN (by rw[hP,if_pos (.inl q)])))
   ·intros q;refine zm ?_;refine xE (zk rfl (vv xF 4 g4 (dat g 6 rfl (z6 rfl (bod (?_) ?_)))))
    ·intros q';refine zo (zo ?_);exact rz g (vv xF 1 g1 (hN (by rw[hP,if_pos (.inr (F1 (iT q')))])))
    ·intros q';refine zm (xi (zm (zd ?_)));exact za (zq (vv xF 4 g4 (hS v (by rw[hP,if_neg (by simp[q];exact F1 (iNT q'))]))))
  ·intros c rest r' s₂ p8_;obtain⟨rfl,v,hv,hlt,hrl,g1,g2,g3,g4⟩:_:=p8_;refine⟨trivial,?_⟩;simp only[List.length_cons]at hlt hrl;have h63:v<16 ^ 15:=Nat.lt_of_lt_of_le hlt (Nat.pow_le_pow_right (by decide) (F2 (Le (S1 (fg.length) (rest.length+1) (F1 hrl))) hfl));refine asg xF 6 (cF g 2 rfl (a1 (vv xF 5 zg (To g ?_))));rw[Qo]
   cases hd:Wp c.toNat with
   | none =>
    refine za (z7 (xE (zk rfl (vv xF 6 zg (yt (w9 (bo (?_) fun q=>by cases q)))))));intros q;refine zo (zo ?_);refine rz g (vv xF 1 (rn (rn g1 rfl) rfl) (hN ?_));rw[hP,hv,Wt,hd]
   | some d =>
    have hd16:=Ro hd;refine za (z7 (xE (zk rfl (vv xF 6 zg (yt (w9 (bo (fun q=>by cases q) ?_)))))));intros q;refine zm ?_;refine xE (zk rfl (vv xF 6 zg (vv xF 2 (by simp[Rho.get_set,g2];rfl) (z6 rfl (bod (?_) ?_)))))
    ·intros q';refine zo (zo ?_);refine rz g (vv xF 1 (rn (rn g1 rfl) rfl) (hN ?_));rw[hP,hv,Wt,hd];simp only;rw[if_pos (F1 (iL q'))]
    ·intros q';refine zm (xi (zm (zd ?_)));refine asg xF 4 (ze (ze (vv xF 4 (a:=.int (v:Nat)) (rn (rn g4 rfl) rfl) (vv xF 2 (a:=.int (bs:Nat)) (rn (rn g2 rfl) rfl) (vB (I8 h63) (vv xF 6 zg (zj (zd ⟨rfl,v*bs+d,?_,?_,F1 hrl,?_,?_,?_,?_⟩))))))))
     ·rw[hv,Wt,hd];simp only;rw[if_neg (fun h=>q' (kL _ _ h))]
     ·have e:fg.length-rest.length=fg.length-(rest.length+1)+1:=by exact s1 hrl
      rw[e,Nat.pow_succ];have:v*bs+d<=v*16+15:=Nat.add_le_add (Nat.mul_le_mul_left _ hbs) (F1 hd16);exact F2 (U 16 hlt) this
     all_goals simp[Rho.get_set,g1,g2,g3]
end
theorem qR (c:UInt8):c.toNat.toUInt8=c:=by simp
section
variable {B:Base} {n:Nat} {sc:Scope} {ρ:Rho} {Q X:AV->St->Prop} {st:St}
theorem cI {nm:Nat->Str} {nN:Nat} {tg:Expr} {QI:List AV->(St->Prop)->St->Prop} (g:Gl B) (i:Nat) {x:String} {f:Value} {px pos:Pos} {e:Expr} (hi:yX[i]?=some (x,f)) (h:WE B nm nN n sc e ρ (fun a st'=>tX B tg f a QI st') X st)
  (hk:autoParam (sc.names.lookup (Str.ofString x)=some .globalImplicit) ak_) (hd:autoParam ((Str.ofString x==("__debug__":Str))=false) ak_)
  (hK:autoParam (sM B f) an_) (he:autoParam (∀env,starEach [e] env=[(false,eval e env)]) af_):WI B nm nN n sc tg (.Call (.Name (Str.ofString x) px) [e] [] pos) ρ QI X st :=
 Rh hk hd (g.G i x f hi) hK he h
noncomputable def qE (c:UInt8):Bool:=decide (33<=c.toNat)&&(decide (c.toNat<=126)&&!([44,124,92,94]:List UInt8).contains c)
noncomputable def xL (b:List UInt8):Bool:=b.all qE&&!b.isEmpty
noncomputable def nNam:List String:=["octets","number","octet"]
theorem kS:Nms nNam:=.of (by kernel_rfl)
theorem qm (g:Gl B) {b:List UInt8} {num:Int} (hS:xL b=true->Q (.bytes b) st) (hN:xL b=false->X (.int num) st):Spec B (n+1) (.ref 157) [.bytes b,.int num] st Q X:=by
 revert B n Q X st g b num hS hN
 intros B n Q X st g b num hS hN;refine zP g 12 rfl kS [0,1] ?_;refine vN kS 2 (yj (vv kS 0 rfl (YE ⟨UInt8,b,fun c=>.int (c.toNat:Int),fun rest r' s₂=>s₂=st/\b.all qE=rest.all qE/\r'.get 0=some (.bytes b)/\r'.get 1=some (.int num),rfl,⟨rfl,rfl,rfl,rfl⟩,?_,?_⟩)))
 ·intros r' s₂ p6_;obtain⟨rfl,hb,g0,g1⟩:_:=p6_;refine⟨trivial,za (z7 (zk rfl (vv kS 0 g0 (zt (zU (bod (?_) ?_))))))⟩
  ·intros q;refine zo ?_;refine rz g (vv kS 1 g1 (hN ?_));rw[q];rfl
  ·intros q;refine zm (zd ?_);refine za (zq (vv kS 0 g0 (hS ?_)));unfold xL;rw[hb]
   cases b with
   | nil=>exact absurd rfl q
   | cons c r=>rfl
 ·intros c rest r' s₂ p7_;obtain⟨rfl,hb,g0,g1⟩:_:=p7_;have hc8:=c.toNat_lt;have bad:qE c=false->X (.int num) s₂:=fun h=>hN (by unfold xL;rw[hb,List.all_cons,h];rfl);refine⟨trivial,za (z7 (xE (qa (wc kS (k:=2) (by decide) zg (?_) ?_))))⟩
  ·intros q;refine zm ?_;refine xE (zk rfl (vv kS 2 zg (zt (sq (hc8) (bo (?_) fun q'=>zm (xi (zm (zd (zd ⟨rfl,?_,?_,?_⟩)))))))))
   ·intros q';refine zo (zo ?_);refine rz g (vv kS 1 (rn g1 rfl) (bad ?_));rw[qR]at q';unfold qE;rw[q'];simp
   ·rw[qR]at q'
    have:qE c=true:=by unfold qE;rw[q'];simp;exact⟨(F1 (iL q.1)),(F1 (iL q.2))⟩
    rw[hb,List.all_cons,this];rfl
   ·exact rn g0 rfl
   ·exact rn g1 rfl
  ·intros q;refine zo (zo ?_);refine rz g (vv kS 1 (rn g1 rfl) (bad ?_));unfold qE
   by_cases h33:33<=c.toNat
   ·have:¬c.toNat<=126:=by exact fun q5_=>(q ⟨(kL (33) (c.toNat) (F1 h33)),(kL (c.toNat) (126) (F1 q5_))⟩)
    simp[this]
   ·simp[h33]
noncomputable def vK (c:UInt8):Bool:=([35,61,64]:List UInt8).contains c
noncomputable def vb:List UInt8->Option (List UInt8×UInt8×List UInt8)
 | []=>none
 | c::r=>if vK c=true then some ([],c,r) else (vb r).map fun t=>(c::t.1,t.2)
theorem t5:∀(c:UInt8) (r:List UInt8),vb (c::r)=if vK c=true then some ([],c,r) else (vb r).map fun t=>(c::t.1,t.2):=fun a a=>rfl
noncomputable def rstrip (b:List UInt8):List UInt8:=yv false true [32,9,13].contains b
noncomputable def lstrip (b:List UInt8):List UInt8:=yv true false [32,9,13].contains b
noncomputable def yS (b:List UInt8):List UInt8:=yv true true [32,9,13].contains b
noncomputable def xf (f:List UInt8):Option (List UInt8×List UInt8×List UInt8):=match vb f with
 | some (p,c,r)=>if xL p=true then some (p,[c],r) else none
 | none=>if xL (rstrip f)=true then some (rstrip f,[],[]) else none
noncomputable def nSpl:List String:=["field","number","at","octet"]
theorem sR:Nms nSpl:=.of (by decide +kernel)
theorem Wf (g:Gl B) {f:List UInt8} {num:Int} (hz:f.length<=16777000) (hS:∀p c r,xf f=some (p,c,r)->Q (.tup [.bytes p,.bytes c,.bytes r]) st) (hN:xf f=none->X (.int num) st):Spec B (n+2) (.ref 164) [.bytes f,.int num] st Q X:=by
 revert B n Q X st g f num hz hS hN
 intros B n Q X st g f num hz hS hN;refine zP g 13 rfl sR [0,1] ?_;refine RT sR 2 3 (cI g 11 rfl (vv sR 0 rfl (tI ⟨UInt8×Nat,f.zipIdx 0,fun p=>.int (p.2:Nat),fun p=>.int (p.1.toNat:Nat),fun rest r' s₂=>s₂=st /\ ∃p u,f=p++u/\rest=u.zipIdx p.length/\vb f=(vb u).map (fun t=>(p++t.1,t.2))/\r'.get 0=some (.bytes f)/\r'.get 1=some (.int num),ji f 0,?_,?_,?_⟩)))
 ·exact⟨rfl,[],f,rfl,rfl,by cases vb f<;>simp,rfl,rfl⟩
 ·intros r' s₂ p8_;obtain⟨rfl,p,u,hf,hr,hs,g0,g1⟩:_:=p8_;refine⟨trivial,?_⟩
  have:u=[]:=by cases u with
   | nil=>rfl
   | cons c r=>exact nomatch hr
  subst this;have hn:vb f=none:=hs;refine za (zq (zp (aN (cF g 12 rfl (a2 (tj g (vv sR 0 g0 ⟨_,rfl,F1 hz,vv sR 1 g1 (qm g (?_) ?_)⟩)))))))
  ·intros q;refine aN (zt (a1 (zt ⟨wA,hS _ _ _ ?_⟩)));have q:xL (rstrip f)=true:=q;unfold xf;rw[hn];simp only;rw[if_pos q];rfl
  ·intros q;refine hN ?_;unfold xf;rw[hn];simp only;rw[if_neg (by unfold rstrip;rw[q];exact nofun)]
 ·intros p9_ rest r' s₂ p10_;obtain⟨c,k⟩:_:=p9_;obtain⟨rfl,p,u,hf,hr,hs,g0,g1⟩:_:=p10_;refine⟨trivial,?_⟩
  obtain⟨r,rfl⟩:∃r,u=c::r:=by
   cases u with
   | nil=>exact nomatch hr
   | cons d r=>simp at hr;exact⟨r,by rw[hr.1.1]⟩
  simp only[List.zipIdx_cons,List.cons.injEq,Prod.mk.injEq,true_and]at hr;obtain⟨rfl,rfl⟩:_:=hr;have hc8:=c.toNat_lt
  have e0:((r'.set 2 (.int (p.length:Nat))).set 3 (.int (c.toNat:Nat))).get 0=some (.bytes f):=by exact rn (rn g0 rfl) rfl
  have e1:((r'.set 2 (.int (p.length:Nat))).set 3 (.int (c.toNat:Nat))).get 1=some (.int num):=by exact rn (rn g1 rfl) rfl
  have e2:((r'.set 2 (.int (p.length:Nat))).set 3 (.int (c.toNat:Nat))).get 2=some (.int (p.length:Nat)):=by exact rn zg rfl
  have hl:f.length=p.length+1+r.length:=by rw[hf];simp;exact AS (by simp +arith only) (by simp +arith only)
  have k1:cut none (some (p.length:Int)) f=p:=by rw[hf];exact Qx ..
  have k2:cut (some (p.length:Int)) (some ((p.length:Int)+1)) f=[c]:=by
   rw[hf];have:=Vr p [c] r;simpa using this
  have k3:cut (some ((p.length:Int)+1)) none f=r:=by
   rw[hf];have:=jv (p++[c]) r;simpa using this
  refine za (z7 (zk rfl (vv sR 3 zg (zt (sq (hc8) (bo (?_) ?_))))))
  ·intros q;refine zo ?_;rw[qR]at q;have q:vK c=true:=q
   have hsp:vb f=some (p,c,r):=by rw[hs,t5,if_pos q];simp
   refine za (zq (zp (aN (cF g 12 rfl (a2 (zR (vv sR 0 e0 (vv sR 2 e2 ⟨_,rfl,yh (F1 hz) (vv sR 1 e1 ?_)⟩))))))));rw[k1];refine qm g (?_) fun q1=>hN (by unfold xf;rw[hsp];simp only;rw[if_neg (by rw[q1];exact nofun)]);intros q1;refine aN (zR (vv sR 0 e0 (vv sR 2 e2 ⟨_,rfl,ze (vv sR 2 e2 (zb (zj ⟨_,rfl,yh (F1 hz) ?_⟩)))⟩)));refine a1 (zR (vv sR 0 e0 (ze (vv sR 2 e2 (zb (zj ⟨_,rfl,yh (F1 hz) ⟨wA,?_⟩⟩))))));rw[k2,k3];exact hS _ _ _ (by unfold xf;rw[hsp];simp only;rw[if_pos q1])
  ·intros q;refine zm (zd (zd ?_));rw[qR]at q;refine⟨rfl,p++[c],r,by rw[hf];exact mc,by simp,?_,e0,e1⟩;have q:vK c=false:=q;rw[hs,t5,if_neg (by rw[q];exact nofun)]
   cases vb r<;>simp
end
section
variable {B:Base} {n:Nat} {sc:Scope} {ρ:Rho} {Q X:AV->St->Prop} {st:St}
noncomputable def wJ (c:UInt8):Prop:=c.toNat=92\/c.toNat=94
noncomputable instance (c:UInt8):Decidable (wJ c):=inferInstanceAs (Decidable (_\/_))
noncomputable def yd:List UInt8->List UInt8->List (List UInt8)×List UInt8
 | cur,[]=>([],cur)
 | cur,[c]=>if c.toNat=44 then ([cur],[]) else ([],cur++[c])
 | cur,c::d::r=>if wJ c then yd (cur++[c,d]) r else if c.toNat=44 then (cur::(yd [] (d::r)).1,(yd [] (d::r)).2) else yd (cur++[c]) (d::r)
theorem Rp:∀(x:List UInt8),yd x []=([],x):=fun a=>rfl
theorem ZR:∀(x:List UInt8) (c d:UInt8) (r:List UInt8),yd x (c::d::r)=if wJ c then yd (x++[c,d]) r else if c.toNat=44 then (x::(yd [] (d::r)).1,(yd [] (d::r)).2) else yd (x++[c]) (d::r):=fun a a a a=>rfl
noncomputable def yZ (row:List UInt8):Option (List (List UInt8)):=if yS (yd [] row).2≠[] then none else some ((yd [] row).1.map lstrip)
theorem tB (cur:List UInt8) (c:UInt8):yd cur [c]=if c.toNat=44 then ([cur],[]) else ([],cur++[c]):=by exact rfl
theorem v8 (cur r:List UInt8) (c:UInt8) (hc:c.toNat=44):yd cur (c::r)=(cur::(yd [] r).1,(yd [] r).2):=by
 cases r with
 | nil=>rw[tB,if_pos hc];rfl
 | cons d r=>rw[ZR,if_neg (by unfold wJ;exact fun q5_=>(q5_.elim (fun q4_=>(Z (F2 (Re q4_) (Le hc)))) fun q4_=>(Z (F2 (Re q4_) (Le hc))))),if_pos hc]
theorem vC (cur r:List UInt8) (c:UInt8) (hc:¬c.toNat=44) (he:¬wJ c):yd cur (c::r)=yd (cur++[c]) r:=by
 cases r with
 | nil=>rw[tB,if_neg hc];rfl
 | cons d r=>rw[ZR,if_neg he,if_neg hc]
theorem qf (cur r:List UInt8) (c d:UInt8) (he:wJ c):yd cur (c::d::r)=yd (cur++[c,d]) r:=by rw[ZR,if_pos he]
noncomputable def nFie:List String:=["row","number","found","begun","at","field"]
theorem xW:Nms nFie:=.of (by decide +kernel)
theorem VL (b:List UInt8):(lstrip b).length<=b.length:=qh ..
theorem Xs (g:Gl B) {row:List UInt8} {num:Int} (hz:row.length<=16777000) (hS:∀fs,yZ row=some fs->∀m st',Ch [] st st'->st.length<=m->st'[m]?=some (.list (fs.map AV.bytes))->Q (.ref m) st') (hN:yZ row=none->∀st',Ch [] st st'->X (.int num) st') :
  Spec B (n+1) (.ref 122) [.bytes row,.int num] st Q X:=by
 revert B n Q X st g row num hz hS hN
 intros B n Q X st g row num hz hS hN;refine zP g 7 rfl xW [0,1] ?_;refine UV xW 2 3 4 (zp (aN (zr (zA ⟨wD,aN (zb (a1 (zb ⟨wA,_,rfl,rfl,?_⟩)))⟩))))
 refine xx (fun r' st'=>Ch [] st st' /\ ∃(p:List UInt8),(∃q,row=p++q/\(yd [] row).2=q)/\(∀f∈(yd [] row).1,f.length<=16777000)/\(yd [] row).1.length<=row.length/\st'[st.length]?=some (.list ((yd [] row).1.map AV.bytes)) /\
  r'.get 0=some (.bytes row)/\r'.get 1=some (.int num)/\r'.get 2=some (.ref st.length)/\r'.get 3=some (.int (p.length:Nat))) ?_ ?_
 ·refine sF (fun k r' st'=>Ch [] st st' /\ ∃(p cur u:List UInt8) (fs:List (List UInt8)) (e:Nat),row=p++cur++u/\k=u.length/\(e=0\/(e=1/\u=[]))/\(∀f∈fs,f.length<=16777000)/\fs.length<=p.length /\
   yd [] row=(fs++(yd cur u).1,(yd cur u).2)/\st'[st.length]?=some (.list (fs.map AV.bytes)) /\
   r'=[(0,.bytes row),(1,.int num),(4,.int ((p.length+cur.length+e:Nat):Int)),(3,.int (p.length:Nat)),(2,.ref st.length)]) ?_ row.length ?_
  ·intros k r' st' p3_;obtain⟨ch,p,cur,u,fs,e,hr,rfl,he,hfs,hfl,hsc,hl,rfl⟩:_:=p3_
   have hrl:row.length=p.length+cur.length+u.length:=by rw[hr];simp;exact AS (by simp +arith only) (by simp +arith only)
   refine zk rfl (vv xW 4 rfl (cB g 2 rfl (a1 (vv xW 0 rfl (xj (F1 hz) (z6 rfl (bod (?_) ?_)))))))
   ·intros q;refine zo ?_
    have e0:e=0:=by
     rcases he with he | ⟨he,hu⟩
     ·exact he
     ·subst hu;simp at hrl;exact AS (F2 (iT q) (Le hrl)) (wD)
    subst e0
    obtain⟨c,r,rfl⟩:∃c r,u=c::r:=by
     cases u with
     | nil=>simp at hrl;exact Z (F2 (iT q) (Le hrl))
     | cons c r=>exact⟨c,r,rfl⟩
    have hx:idx row ((p.length+cur.length+0:Nat):Int)=some c:=by
     rw[hr];have:=jz (p++cur) c r;simpa using this
    have hc8:=c.toNat_lt;simp -iota only[List.length_cons]at hrl;refine za (z7 (zk rfl (sub (vv xW 0 rfl (vv xW 4 rfl (yN (I6 (F2 hz (Re hrl))) hx (zp (aN (dat g 2 rfl (a1 (dat g 3 rfl ⟨wA,vd Qe (bod (?_) ?_)⟩)))))))))))
    ·intros q1;refine zo ?_
     have q1':wJ c:=by exact o2 q1
     refine asg xW 4 (ze (vv xW 4 rfl (zb (zj (zd ?_)))));refine asg xW 4 (ze (vv xW 4 rfl (zb (zj (zd ?_)))))
     cases r with
     | nil =>
      refine⟨0,wC,ch,p,cur++[c],[],fs,1,by rw[hr];simp,rfl,.inr ⟨rfl,rfl⟩,hfs,hfl,?_,hl,?_⟩
      ·rw[hsc,tB,if_neg (by unfold wJ at q1';exact fun q5_=>(q1'.elim (fun q4_=>(Z (F2 (Re q4_) (Le q5_)))) fun q4_=>(Z (F2 (Re q4_) (Le q5_)))))];rfl
      ·simp -iota [Rho.set_1];exact rfl
     | cons d r =>
      refine⟨r.length,by simp;exact Nat.le_add_right _ _,ch,p,cur++[c,d],r,fs,0,by rw[hr];simp,rfl,.inl rfl,hfs,hfl,?_,hl,?_⟩
      ·rw[hsc,qf _ _ _ _ q1']
      ·simp -iota [Rho.set_1];exact rfl
    ·intros q1;refine zm ?_
     have q1':¬wJ c:=by exact fun q5_=>(q1 (c2 q5_))
     refine za (z7 (zk rfl (sub (vv xW 0 rfl (vv xW 4 rfl (yN (I6 (F2 hz (Re hrl))) hx (dat g 1 rfl (z6 rfl (bod (?_) ?_)))))))))
     ·intros q2;refine zo ?_
      have ec:cut (some (p.length:Int)) (some ((p.length+cur.length+0:Nat):Int)) row=cur:=by
       rw[hr];exact Vr p cur (c::r)
      refine app xW 2 (m:=st.length) rfl ⟨_,hl⟩ (zR (vv xW 0 rfl (vv xW 3 rfl ⟨_,rfl,vv xW 4 rfl ⟨_,rfl,yh (F1 hz) ⟨_,hl,by simp;exact F3 hz hfl (Re hrl),?_⟩⟩⟩)));rw[ec];refine asg xW 3 (ze (vv xW 4 rfl (zb (zj (zd (zd ?_))))));refine asg xW 4 (ze (vv xW 4 rfl (zb (zj (zd ?_)))));refine⟨r.length,by simp,ch.set' _ (.inr (wC)),p++cur++[c],[],r,fs++[cur],0,by rw[hr];simp,rfl,.inl rfl,?_,by simp;exact F1 hfl,?_,?_,?_⟩
      ·intros f hf
       rcases List.mem_append.mp hf with hf | hf
       ·exact hfs f hf
       ·rw[List.mem_singleton.mp hf];exact F2 hz (Re hrl)
      ·rw[hsc,v8 _ _ _ (AS (F1 (Le (iE q2))) (F1 (Re (iE q2))))];simp
      ·rw[List.getElem?_set_self (zv hl)];simp
      ·simp -iota [Rho.set_1];exact rfl
     ·intros q2;refine zm (zd (zd ?_));refine asg xW 4 (ze (vv xW 4 rfl (zb (zj (zd ?_)))));refine⟨r.length,by simp,ch,p,cur++[c],r,fs,0,by rw[hr];simp,rfl,.inl rfl,hfs,hfl,?_,hl,?_⟩
      ·rw[hsc,vC _ _ _ (fun q5_=>(q2 (kE (c.toNat) (44) q5_))) q1']
      ·simp -iota [Rho.set_1];exact rfl
   ·intros q;refine zm ?_
    have hu:u=[]:=by
     cases u with
     | nil=>rfl
     | cons c r=>simp at hrl;exact he.elim (fun he=>(q (kT _ _ (by rw[hrl,he];exact Nat.lt_add_of_pos_right (wB)))).elim) fun he=>nomatch he.2
    subst hu
    have e2:yd cur []=([],cur):=by exact rfl
    rw[e2,List.append_nil]at hsc;rw[hsc];exact⟨ch,p,⟨cur,by rw[hr];exact List.append_nil _,rfl⟩,hfs,by simp only;exact F2 hfl (Re hrl),hl,rfl,rfl,rfl,rfl⟩
  ·refine⟨Ch.push ..,[],[],row,[],0,rfl,rfl,.inl rfl,nn,wC,by simp,zf,?_⟩;exact rfl
 ·intros r' st' p4_;obtain⟨ch,p,⟨q,hr,hq⟩,hfs,hfl,hl,g0,g1,g2,g3⟩:_:=p4_;refine za (z7 (zk rfl (Z4 g (zR (vv xW 0 g0 (vv xW 3 g3 ⟨_,rfl,yh (F1 hz) ⟨_,rfl,?_,zt (sU (bon (?_) ?_))⟩⟩))))))
  ·have:=vi (some (p.length:Int)) none row;exact F2 hz this
  ·intros q1;refine zm (zd ?_)
   have ec:cut (some (p.length:Int)) none row=q:=by rw[hr];exact jv ..
   rw[ec,<-hq]at q1;refine za (zq (yu (caps:=[]) (t:=.one 5) xW.inj (.of (by kernel_rfl)) (.one (i:=5)) (nn) (fun z z=>rfl) (yj (vv xW 2 g2 (yg hl ?_)))));refine ym (yd [] row).1 AV.bytes (fun f=>.bytes (lstrip f)) (fun z=>true) rfl (F2 hz hfl) (fun extra=>zc hl) (?_) ?_
   ·intros f hf extra;refine⟨_,rfl,rfl,?_⟩;exact TB g (vv xW 5 rfl ⟨_,rfl,by have:=hfs f hf;exact F1 this,rfl,[],(List.append_nil _).symm⟩)
   ·intros junk;refine hS ((yd [] row).1.map lstrip) ?_ _ _ ?_ ch.1 ?_
    ·unfold yZ;rw[if_neg (by unfold yS;simpa using q1)]
    ·rw[List.append_assoc];exact ch.push' _
    ·rw[List.append_assoc];simp -iota [wQ,Function.comp_def]
  ·intros q1;refine zo ?_
   have ec:cut (some (p.length:Int)) none row=q:=by rw[hr];exact jv ..
   rw[ec,<-hq]at q1;exact rz g (vv xW 1 g1 (hN (by unfold yZ;rw[if_pos (by unfold yS;simpa using q1)]) _ ch))
end
section
variable {B:Base} {n:Nat} {sc:Scope} {ρ:Rho} {Q X:AV->St->Prop} {st:St}
noncomputable def qI (f:List UInt8):Option (List (List UInt8)):=if (zK 124 f).any (fun p=>decide (yS p=[]))=true then none else some (zK 124 f)
noncomputable def nHed:List String:=["field","number","names","name"]
theorem Z8:Nms nHed:=.of (by kernel_rfl)
theorem VJ (g:Gl B) {f:List UInt8} {num:Int} (hz:f.length<=16776000) (hS:∀ns,qI f=some ns->∀m st',Ch [] st st'->st.length<=m->st'[m]?=some (.list (ns.map AV.bytes))->Q (.ref m) st') (hN:qI f=none->∀st',Ch [] st st'->X (.int num) st') :
  Spec B (n+1) (.ref 183) [.bytes f,.int num] st Q X:=by
 revert B n Q X st g f num hz hS hN
 intros B n Q X st g f num hz hS hN;have hsl:=wx 124 f;refine zP g 16 rfl Z8 [0,1] ?_;refine asg Z8 2 (yf ⟨fun z=>rfl,fun z=>rfl,rfl,fun z=>rfl⟩ (vv Z8 0 rfl ⟨_,_,vz se jn,.bytes,a1 (zt (Xv (F1 hz) ?_))⟩));refine za (z7 (zk rfl (yu (caps:=[]) (t:=.one 3) Z8.inj (.of (by kernel_rfl)) (.one (i:=3)) (nn) (fun z z=>rfl) (yj (vv Z8 2 rfl (yg zf ?_))))));refine ym (zK 124 f) AV.bytes AV.bytes (fun p=>decide (yS p=[])) rfl (F2 hz hsl) (fun extra=>zc zf) (?_) ?_
 ·intros p hp extra;refine⟨_,rfl,?_⟩;have hpl:=sY 124 f p hp;refine zk rfl (Z4 g (vv Z8 3 rfl ⟨_,rfl,F2 hz hpl,zt (zU (bod (?_) ?_))⟩))
  ·intros q;have q:yS p=[]:=q;simp only[if_true];exact⟨decide_eq_true q,vv Z8 3 rfl ⟨rfl,[],(List.append_nil _).symm⟩⟩
  ·intros q;have q:¬yS p=[]:=q;simp only[Bool.false_eq_true,if_false];exact⟨decide_eq_false q,[],(List.append_nil _).symm⟩
 ·intros junk;have len:=List.length_filter_le (fun p=>decide (yS p=[])) (zK 124 f);have g2:∀x,((st++[AO.list ((zK 124 f).map AV.bytes)])++[AO.list (((zK 124 f).filter fun p=>decide (yS p=[])).map AV.bytes)]++junk++[x])[(st++[AO.list ((zK 124 f).map AV.bytes)]).length]?=some (.list (((zK 124 f).filter fun p=>decide (yS p=[])).map AV.bytes)):=fun x=>zc (zc zf);have c2:∀x,Ch [] st ((st++[AO.list ((zK 124 f).map AV.bytes)])++[AO.list (((zK 124 f).filter fun p=>decide (yS p=[])).map AV.bytes)]++junk++[x]):=fun x=>(((Ch.push [] st _).push' _).push' _).push' _;refine zr (zA ⟨wD,?_⟩)
  by_cases he:((zK 124 f).filter fun p=>decide (yS p=[]))=[]
  ·refine xA (r:=true) (g2 _) zf (.inr ?_) ?_
   ·rw[he];exact rfl
   ·refine⟨_,rfl,zm (zd (za (zq (vv Z8 2 rfl (hS _ ?_ _ _ (c2 _) (wC) (zc (zc (zc zf))))))))⟩;unfold qI;rw[if_neg];rw[List.filter_eq_nil_iff]at he;simpa using he
  ·refine xA (r:=false) (g2 _) zf (.inl ⟨?_,rfl⟩) ?_
   ·rw[List.length_map];intros h;exact he (List.length_eq_zero_iff.mp h)
   ·refine⟨_,rfl,zo (rz g (vv Z8 1 rfl (hN ?_ _ (c2 _))))⟩;unfold qI;rw[if_pos];rw[List.any_eq_true];obtain⟨p,hp⟩:_:=List.exists_mem_of_ne_nil _ he;rw[List.mem_filter]at hp;exact⟨p,hp.1,hp.2⟩
set_option genInjectivity false in
structure InfoV where
 names:List (List UInt8)
 lot:Nat->List (List UInt8×AV)
 uses:List (List UInt8)
noncomputable def InfoV.setLot (I:InfoV) (k:Nat) (l:List (List UInt8×AV)):InfoV:={ I with lot:=fun j=>if j=k then l else I.lot j }
noncomputable def zD (r:Nat->Nat):AV:=.info [.ref (r 0),.ref (r 1),.ref (r 2),.ref (r 3),.ref (r 4),.ref (r 5)]
structure zQ (st:St) (r:Nat->Nat) (I:InfoV):Prop where
 names:st[r 0]?=some (.list (I.names.map AV.bytes))
 lot:∀k,k<4->∃ep,st[r (k+1)]?=some (.dictB ep (I.lot k))
 uses:st[r 5]?=some (.list (I.uses.map AV.bytes))
 inj:∀i j,i<6->j<6->r i=r j->i=j
noncomputable def tZ (r:Nat->Nat):List Nat:=[r 0,r 1,r 2,r 3,r 4,r 5]
theorem jo {r:Nat->Nat} {i:Nat} (h:i<6):r i∈tZ r:=by
 revert r i h
 intros r i h
 have:i=0\/i=1\/i=2\/i=3\/i=4\/i=5:=by exact l6 _ (F1 h)
 unfold tZ
 rcases this with rfl | rfl | rfl | rfl | rfl | rfl<;>simp
theorem xT {r:Nat->Nat} {m:Nat} (h:m∈tZ r):∃i,i<6/\m=r i:=by
 revert r m h
 intros r m h;simp only[tZ,List.mem_cons,wE,or_false]at h
 rcases h with h | h | h | h | h | h
 ·exact zw 0 (wB) h
 ·exact zw 1 (wA) h
 ·exact zw 2 (wA) h
 ·exact zw 3 (wA) h
 ·exact zw 4 (wA) h
 ·exact zw 5 (wC) h
theorem zQ.lt {r:Nat->Nat} {I:InfoV} (h:zQ st r I) {i:Nat} (hi:i<6):r i<st.length:=by
 have:i=0\/i=5 \/ ∃k,k<4/\i=k+1:=by
  by_cases h0:i=0
  ·exact .inl h0
  ·by_cases h5:i=5
   ·exact .inr (.inl h5)
   ·exact .inr (.inr ⟨i-1,Nat.lt_succ_of_le (sa (F1 (nl (F1 hi) h5))),s9 h0⟩)
 rcases this with rfl | rfl | ⟨k,hk,rfl⟩
 ·exact zv h.names
 ·exact zv h.uses
 ·obtain⟨ep,e⟩:=h.lot k hk;exact zv e
theorem zQ.ch {st':St} {r:Nat->Nat} {I:InfoV} {rs:List Nat} (h:zQ st r I) (c:Ch rs st st') (hd:∀i,i<6->r i∉rs):zQ st' r I where
 names:=c.get h.names (hd 0 (wB))
 lot k hk:=by
  obtain⟨ep,e⟩:=h.lot k hk;exact⟨ep,c.get e (hd _ (F1 hk))⟩
 uses:=c.get h.uses (hd 5 (wC))
 inj:=h.inj
theorem zQ.setLot {r:Nat->Nat} {I:InfoV} (h:zQ st r I) {k:Nat} (hk:k<4) (ep:Nat) (l:List (List UInt8×AV)):zQ (st.set (r (k+1)) (.dictB ep l)) r (I.setLot k l) where
 names:=by
  rw[List.getElem?_set_ne (fun e=>by have:=h.inj _ _ (F1 hk) (wB) e;exact Z (F1 (Le this)))];exact h.names
 lot j hj:=by
  by_cases hjk:j=k
  ·subst hjk;refine⟨ep,?_⟩;rw[get_set (h.lt (F1 hj))];simp[InfoV.setLot]
  ·obtain⟨ep',e⟩:=h.lot j hj;refine⟨ep',?_⟩;rw[List.getElem?_set_ne (fun e=>by have:=h.inj _ _ (F1 hk) (F1 hj) e;exact hjk (AS (F1 (Re this)) (F1 (Le this)))),e];simp[InfoV.setLot,hjk]
 uses:=by
  rw[List.getElem?_set_ne (fun e=>by have:=h.inj _ _ (F1 hk) (wC) e;exact Z (F2 hk (Re this)))];exact h.uses
 inj:=h.inj
theorem zQ.setUses {r:Nat->Nat} {I:InfoV} (h:zQ st r I) (u:List (List UInt8)):zQ (st.set (r 5) (.list (u.map AV.bytes))) r { I with uses:=u } where
 names:=by
  rw[List.getElem?_set_ne (fun e=>by have:=h.inj _ _ (wC) (wB) e;exact Z (F1 (Le this)))];exact h.names
 lot j hj:=by
  obtain⟨ep',e⟩:=h.lot j hj;refine⟨ep',?_⟩;rw[List.getElem?_set_ne (fun e=>by have:=h.inj _ _ (wC) (F1 hj) e;exact Z (F2 hj (Le this))),e]
 uses:=get_set (h.lt (wC))
 inj:=h.inj
theorem att {nm:Nat->Str} {nN:Nat} (g:Gl B) (k:Nat) {o:Expr} {x:Str} {pos:Pos} (hx:zI[k]?=some x) (h:WE B nm nN n sc o ρ (fun a st₁=>∃l b,a = .info l/\l[k]?=some b/\Q b st₁) X st) (hbase:autoParam (∀env,attributeBase o x env (eval o env)=eval o env) af_) :
  WE B nm nN n sc (.Attribute o x pos) ρ Q X st:=Ru g.info.toInfoOk hx hbase h
noncomputable def yW (K:Nat->List (List UInt8×AV)) (name:List UInt8):Nat:=if (yq (K 0) name).isSome=true then 0 else if (yq (K 1) name).isSome=true then 1 else if (yq (K 2) name).isSome=true then 2 else 3
noncomputable def Wa:Option Nat->AV
 | none=>.none
 | some k=>.int (k:Nat)
noncomputable def qK (k:Nat->Nat):AV:=.tup [.ref (k 0),.ref (k 1),.ref (k 2)]
theorem Wl {α:Type} (f:Nat->α) (j:Nat) (h:j<3):idx [f 0,f 1,f 2] (j:Int)=some (f j):=by
 have:j=0\/j=1\/j=2:=by exact l3 (F1 h)
 rcases this with rfl | rfl | rfl<;>rfl
noncomputable def nPla:List String:=["info","name","sort","known","number","lots","at"]
theorem uj:Nms nPla:=.of (by decide +kernel)
theorem XW (g:Gl B) {r k:Nat->Nat} {K:Nat->List (List UInt8×AV)} {name:List UInt8} {sort:Option Nat} {num:Int} (hK:∀j,j<3->∃ep,st[k j]?=some (.dictB ep (K j)))
  (hS:¬(yW K name<3/\sort≠none/\sort≠some (yW K name))->∀st',Ch [] st st'->Q (.ref (r (yW K name+1))) st') (hN:yW K name<3/\sort≠none/\sort≠some (yW K name)->∀st',Ch [] st st'->X (.int num) st') :
  Spec B (n+1) (.ref 171) [zD r,.bytes name,Wa sort,qK k,.int num] st Q X:=by
 revert B n Q X st g r k K name sort num hK hS hN
 intros B n Q X st g r k K name sort num hK hS hN;refine zP g 14 rfl uj [0,1,2,3,4] ?_;refine asg uj 5 (zr (aN (att g 1 rfl (vv uj 0 rfl ⟨_,_,rfl,rfl,aN (att g 2 rfl (vv uj 0 rfl ⟨_,_,rfl,rfl,a1 (att g 3 rfl (vv uj 0 rfl ⟨_,_,rfl,rfl,wA,?_⟩))⟩))⟩))));have ch:Ch [] st (st++[.list [.ref (r 1),.ref (r 2),.ref (r 3)]]):=Ch.push ..
 refine vN uj 6 (cI g 10 rfl (zb (sV (kL (0) (3) (by exact wD)) (J2 (j:=(3)) (by exact wA)) ⟨Nat,List.range' 0 3,fun i=>.int (i:Nat),fun rest r' s₂=>s₂=st++[.list [.ref (r 1),.ref (r 2),.ref (r 3)]] /\ ∃j,j<=3/\rest=List.range' j (3-j)/\(∀i,i<j->(yq (K i) name).isSome=false) /\
  r'.get 0=some (zD r)/\r'.get 1=some (.bytes name)/\r'.get 2=some (Wa sort)/\r'.get 3=some (qK k)/\r'.get 4=some (.int num)/\r'.get 5=some (.ref st.length),qT 3 0,?_,?_,?_⟩)))
 ·exact⟨rfl,0,wD,rfl,fun _ h=>(Nat.not_lt_zero _ h).elim,rfl,rfl,rfl,rfl,rfl,rfl⟩
 ·intros r' s₂ p3_;obtain⟨rfl,j,hj,hr,hno,g0,g1,g2,g3,g4,g5⟩:_:=p3_;refine⟨trivial,?_⟩
  have:j=3:=by
   cases hq:3-j with
   | zero=>exact s4 hj hq
   | succ q=>rw[hq]at hr;exact nomatch hr
  subst this
  have hk:yW K name=3:=by unfold yW;rw[hno 0 (wB),hno 1 (wA),hno 2 (wC)];exact rfl
  rw[hk]at hS;exact za (zq (att g 4 rfl (vv uj 0 g0 ⟨_,_,rfl,rfl,hS (fun q5_=>(Z (F1 q5_.1))) _ ch⟩)))
 ·intros i rest r' s₂ p4_;obtain⟨rfl,j,hj,hr,hno,g0,g1,g2,g3,g4,g5⟩:_:=p4_;refine⟨trivial,?_⟩
  have hj3:j<3:=by
   cases hq:3-j with
   | zero=>rw[hq]at hr;exact nomatch hr
   | succ q=>exact s5 hq
  obtain⟨e1,e2⟩:i=j/\rest=List.range' (j+1) (3-(j+1)):=by
   rw[show 3-j=(3-(j+1))+1 from by exact s1 hj3,List.range'_succ]at hr
   injection hr with h1 h2
   exact⟨h1,h2⟩
  subst e1 e2;obtain⟨ep,hKi⟩:_:=hK i hj3
  have f0:∀q a,q≠6->r'.get q=some a->(r'.set 6 (.int (i:Nat))).get q=some a:=fun q a hq h=>by rw[Rho.get_set,if_neg (hq)];exact h
  refine za (z7 (zk rfl (vv uj 1 (f0 _ _ (by decide) g1) (sub (vv uj 3 (f0 _ _ (by decide) g3) (vv uj 6 zg (UU (I6 (F1 hj3)) (Wl (fun q=>AV.ref (k q)) i hj3) (Xl (dkB B) g.hB (zc hKi) (bo (?_) ?_)))))))))
  ·intros q;refine zo ?_
   have hk:yW K name=i:=by
    unfold yW
    have:i=0\/i=1\/i=2:=by exact l3 (F1 hj3)
    rcases this with rfl | rfl | rfl
    ·rw[if_pos q]
    ·rw[hno 0 (wC),if_neg (nofun),if_pos q]
    ·rw[hno 0 (wB),hno 1 (wC),if_neg (nofun),if_neg (nofun),if_pos q]
   rw[hk]at hS hN;have fin:¬(sort≠none/\sort≠some i)->Q (.ref (r (i+1))) (st++[.list [.ref (r 1),.ref (r 2),.ref (r 3)]]):=fun h=>hS (fun h'=>h h'.2) _ ch
   cases hs:sort with
   | none =>
    subst hs;refine za (z7 (xJ (zk rfl (vv uj 2 (f0 _ _ (by decide) g2) (yt (xO (bo (fun q=>by cases q) ?_)))))));intros q;refine zm (zm (zd ?_));exact za (zq (sub (vv uj 5 (f0 _ _ (by decide) g5) (vv uj 6 zg (zH zf (I6 (F1 hj3)) (Wl (fun q=>AV.ref (r (q+1))) i hj3) (fin (nofun)))))))
   | some s =>
    subst hs;refine za (z7 (xJ (zk rfl (vv uj 2 (f0 _ _ (by decide) g2) (yt (xO (bo (?_) fun q=>by cases q)))))));intros q;refine zo ?_;refine xJ (zk rfl (vv uj 2 (f0 _ _ (by decide) g2) (vv uj 6 zg (z6 rfl (bon (?_) ?_)))))
    ·intros q;refine zm (zm (zd ?_))
     have:s=i:=by exact AS (F1 (Le (iE q))) (F1 (Re (iE q)))
     subst this;exact za (zq (sub (vv uj 5 (f0 _ _ (by decide) g5) (vv uj 6 zg (zH zf (I6 (F1 hj3)) (Wl (fun q=>AV.ref (r (q+1))) s hj3) (fin (nofun)))))))
    ·intros q;refine zo (wa (zo ?_));exact rz g (vv uj 4 (f0 _ _ (by decide) g4) (hN ⟨hj3,nofun,by simp;exact fun q5_=>(q (kE (s) (i) q5_))⟩ _ ch))
  ·intros q;refine zm (zd (zd ?_));refine⟨rfl,i+1,F1 hj3,rfl,?_,f0 _ _ (by decide) g0,f0 _ _ (by decide) g1,f0 _ _ (by decide) g2,f0 _ _ (by decide) g3,f0 _ _ (by decide) g4,f0 _ _ (by decide) g5⟩;intros q hq
   by_cases hqi:q=i
   ·subst hqi;exact q
   ·exact hno q (F1 (nl (F1 hq) hqi))
end
noncomputable instance:Nonempty InfoV:=⟨⟨[],fun _=>[],[]⟩⟩
section
variable {B:Base} {n:Nat} {sc:Scope} {ρ:Rho} {Q X:AV->St->Prop} {st:St}
noncomputable def xU (sign rest:List UInt8):Res (Option Nat×AV) :=
 if sign=[35] then (uK (rstrip rest)).bind fun v=>.ok (some 1,.int (v:Nat))
 else if sign=[61] then match kU rest with
  | none=>.bad
  | some vs=>.ok (some 2,.bytes (vs.map Nat.toUInt8))
 else if sign=[64] then if rstrip rest≠[] then .bad else .ok (none,.none)
 else .ok (some 0,.bool true)
noncomputable def kI (K:Nat->List (List UInt8×AV)) (I:InfoV) (name:List UInt8) (sort:Option Nat) (v:AV):Res InfoV :=
 if yW K name<3/\sort≠none/\sort≠some (yW K name) then .bad
 else if (yq (I.lot (yW K name)) name).isSome=true then .ok I else .ok (I.setLot (yW K name) (yL (I.lot (yW K name)) name v))
noncomputable def wN (K:Nat->List (List UInt8×AV)) (I:InfoV) (f:List UInt8):Res InfoV :=
 if rstrip f=[]\/f.take 1=[46] then .ok I else
 match xf f with
 | none=>.bad
 | some (name,sign,rest) =>
  if name=[117,115,101]/\sign=[61] then if xL (rstrip rest)=true then .ok { I with uses:=I.uses++[rstrip rest] } else .bad
  else (xU sign rest).bind fun q=>kI K I name q.1 q.2
theorem TH (K:Nat->List (List UInt8×AV)) (name:List UInt8):yW K name<4:=by
 unfold yW
 split
 ·exact wB
 split
 ·exact wA
 split<;>decide
theorem Zf (b:List UInt8):(rstrip b).length<=b.length:=qh ..
theorem Rn:∀{f p r:List UInt8} {c:UInt8},vb f=some (p,c,r)->p.length<=f.length/\r.length<=f.length:=by
 intro l_
 induction l_ with
 | nil =>
  intro _ _ _ h;cases h
 | cons d t ih_ =>
  intro p r c h;rw[t5]at h
  split at h
  ·cases h;simp
  ·cases hq:vb t with
   | none=>rw[hq]at h;cases h
   | some q =>
    obtain⟨p',c',r'⟩:=q;rw[hq]at h;cases h;have:=ih_ hq;simp;exact⟨(F1 this.1),(F1 this.2)⟩
theorem split_le {f p c r:List UInt8} (h:xf f=some (p,c,r)):p.length<=f.length/\r.length<=f.length:=by
 revert f p c r h
 intros f p c r h;unfold xf at h
 cases hq:vb f with
 | none =>
  rw[hq]at h;simp only at h
  split at h
  ·cases h;have:=Zf f;simp;exact this
  ·cases h
 | some q =>
  obtain⟨p',c',r'⟩:_:=q;rw[hq]at h;simp only at h
  split at h
  ·cases h;exact Rn hq
  ·cases h
noncomputable def nPut:List String:=["info","field","known","number","name","sign","rest","sort","value","lot"]
theorem xh:Nms nPut:=.of (by decide +kernel)
theorem Sy (g:Gl B) {r k:Nat->Nat} {K:Nat->List (List UInt8×AV)} {I:InfoV} {f:List UInt8} {num:Int} (hK:∀j,j<3->∃ep,st[k j]?=some (.dictB ep (K j))) (hI:zQ st r I) (hz:f.length<=16776000) (hlz:∀j,j<4->(I.lot j).length<=16777000) (huz:I.uses.length<=16777000)
  (hw:wN K I f ≠ .wild) (hS:∀I',wN K I f = .ok I'->∀st',Ch (tZ r) st st'->zQ st' r I'->Q .none st') (hN:wN K I f = .bad->∀st',Ch (tZ r) st st'->X (.int num) st') :
  Spec B (n+4) (.ref 178) [zD r,.bytes f,qK k,.int num] st Q X:=by
 revert B n Q X st g r k K I f num hK hI hz hlz huz hw hS hN
 intros B n Q X st g r k K I f num hK hI hz hlz huz hw hS hN;refine zP g 15 rfl xh [0,1,2,3] ?_;have hsl:(cut none (some 1) f)=f.take 1:=vP f 1;refine za (z7 (xE (zk rfl (tj g (vv xh 1 rfl ⟨_,rfl,F1 hz,zt (zU (bod (?_) ?_))⟩)))))
 ·intros q1;refine zo (zo ?_);exact za (ZC (hS I (by unfold wN;rw[if_pos (.inl q1)]) _ (Ch.refl ..) hI))
 intros q1;refine zm ?_;refine xE (zk rfl (zR (vv xh 1 rfl (zb ⟨_,rfl,yh (F1 hz) (zt (zU (bod (?_) ?_)))⟩))))
 ·intros q2;refine zo (zo ?_);rw[hsl]at q2;exact za (ZC (hS I (by unfold wN;rw[if_pos (.inr q2)]) _ (Ch.refl ..) hI))
 intros q2;refine zm (xi (zm (zd ?_)));rw[hsl]at q2;have q1:¬rstrip f=[]:=q1
 have hP:wN K I f=match xf f with
  | none=>.bad
  | some (name,sign,rest) =>
   if name=[117,115,101]/\sign=[61] then if xL (rstrip rest)=true then .ok { I with uses:=I.uses++[rstrip rest] } else .bad
   else (xU sign rest).bind fun q=>kI K I name q.1 q.2:=by
  unfold wN;rw[if_neg (by intro h;exact h.elim q1 q2)]
 refine QE xh 4 5 6 (cF g 13 rfl (a2 (vv xh 1 rfl (vv xh 3 rfl (Wf g (F1 hz) (?_) fun hsp=>hN (by rw[hP,hsp]) _ (Ch.refl ..))))));intros name sign rest hsp;refine⟨_,rfl,rfl,?_⟩;rw[hsp]at hP;simp only at hP;have hle:=split_le hsp;have hrl:=Zf rest;refine xx (fun r' st'=>st'=st /\ ¬(name=[117,115,101]/\sign=[61])/\r'=((((((Rho.of [0,1,2,3] [zD r,.bytes f,qK k,.int num]).set 4 (.bytes name)).set 5 (.bytes sign))).set 6 (.bytes rest)))) ?_ ?_
 ·refine z7 (xJ (zk rfl (vv xh 4 rfl (zt (zU (bod (?_) fun q3=>zm (zm (zd ⟨rfl,fun h=>q3 h.1,rfl⟩))))))));intros q3;refine zo ?_;refine xJ (zk rfl (vv xh 5 rfl (zt (zU (bod (?_) fun q4=>zm (zm (zd ⟨rfl,fun h=>q4 h.2,rfl⟩)))))));intros q4;refine zo (wa (zo ?_));rw[if_pos ⟨q3,q4⟩]at hP;refine za (ul rfl (fun z z z=>rfl) (yf ⟨fun z=>rfl,fun z=>rfl,rfl,fun z=>rfl⟩ (att g 5 rfl (vv xh 0 rfl ⟨_,_,rfl,rfl,⟨_,_,ke F.slot_list_append F.type_list_append,.list hI.uses,?_⟩⟩))));refine a1 (cF g 12 rfl (a2 (tj g (vv xh 6 rfl ⟨_,rfl,F2 hz hle.2,vv xh 3 rfl (qm g (?_) ?_)⟩))))
  ·intros q5;have q5:xL (rstrip rest)=true:=q5;rw[if_pos q5]at hP;refine vW hI.uses (by simp;exact F1 huz) ⟨rfl,za (ZC (hS _ hP _ (Ch.set _ _ (jo (wC))) ?_))⟩;have:=hI.setUses (I.uses++[rstrip rest]);simpa[rstrip]using this
  ·intros q5;refine hN ?_ _ (Ch.refl ..);have q5:xL (rstrip rest)=false:=q5;rw[hP,if_neg (by rw[q5];exact nofun)]
 intros r' st' p3_;obtain⟨rfl,hnu,rfl⟩:_:=p3_;rw[if_neg hnu]at hP;refine Zo xh 7 8 (zp (aN (zb (a1 (Z3 ⟨wA,_,rfl,rfl,?_⟩)))));refine xx (fun r' st''=>Ch [] st' st'' /\ ∃sort v,xU sign rest = .ok (sort,v)/\r'.get 0=some (zD r)/\r'.get 2=some (qK k)/\r'.get 3=some (.int num)/\r'.get 4=some (.bytes name)/\r'.get 7=some (Wa sort)/\r'.get 8=some v) ?_ ?_
 ·refine z7 (zk rfl (vv xh 5 rfl (zt (zU (bod (?_) ?_)))))
  ·intros q3;refine zo ?_
   have hv:xU sign rest=(uK (rstrip rest)).bind fun v=>.ok (some 1,.int (v:Nat)):=by unfold xU;rw[if_pos q3]
   refine uD xh 7 8 (zp (aN (zb (a1 (cF g 11 rfl (a2 (tj g (vv xh 6 rfl ⟨_,rfl,F2 hle.2 hz,vv xh 3 rfl (Xo g ?_ (?_) ?_)⟩))))))))
   ·intros h;have h:uK (rstrip rest) = .wild:=h;rw[hP,hv,h]at hw;exact hw rfl
   ·intros v hn;refine⟨wA,_,rfl,rfl,zd ⟨Ch.refl ..,some 1,_,?_,rfl,rfl,rfl,rfl,rfl,rfl⟩⟩;have hn:uK (rstrip rest) = .ok v:=hn;rw[hv,hn];rfl
   ·intros hn;refine hN ?_ _ (Ch.refl ..);have hn:uK (rstrip rest) = .bad:=hn;rw[hP,hv,hn];rfl
  intros q3;refine zm ?_;refine za (z7 (zk rfl (vv xh 5 rfl (zt (zU (bod (?_) ?_))))))
  ·intros q4;refine zo ?_
   have hv:xU sign rest=match kU rest with
    | none=>.bad
    | some vs=>.ok (some 2,.bytes (vs.map Nat.toUInt8)):=by unfold xU;rw[if_neg q3,if_pos q4]
   refine uD xh 7 8 (zp (aN (zb (a1 (cF g 10 rfl (a2 (vv xh 6 rfl (vv xh 3 rfl (Yx g (F2 hz hle.2) (?_) ?_)))))))))
   ·intros vs hn s2 c2;refine⟨wA,_,rfl,rfl,zd (zd ⟨c2,some 2,_,?_,rfl,rfl,rfl,rfl,rfl,rfl⟩)⟩;rw[hv,hn]
   ·intros hn s2 c2;refine hN ?_ _ (c2.weak (nn));rw[hP,hv,hn];rfl
  intros q4;refine zm ?_;refine za (z7 (zk rfl (vv xh 5 rfl (zt (zU (bod (?_) ?_))))))
  ·intros q5;refine zo ?_
   have hv:xU sign rest=if rstrip rest≠[] then .bad else .ok (none,.none):=by unfold xU;rw[if_neg q3,if_neg q4,if_pos q5]
   refine Zo xh 7 8 (zp (aN (yt (a1 (yt ⟨wA,_,rfl,rfl,?_⟩)))));refine za (z7 (zk rfl (tj g (vv xh 6 rfl ⟨_,rfl,F2 hle.2 hz,zt (sU (bon (?_) ?_))⟩))))
   ·intros q6;refine zm (zd (zd (zd (zd ⟨Ch.refl ..,none,.none,?_,rfl,rfl,rfl,rfl,rfl,rfl⟩))));rw[hv,if_neg (by intro h;exact h q6)]
   ·intros q6;refine zo ?_;have q6:¬rstrip rest=[]:=q6;exact rz g (vv xh 3 rfl (hN (by rw[hP,hv,if_pos q6];rfl) _ (Ch.refl ..)))
  ·intros q5;refine zm (zd (zd (zd ⟨Ch.refl ..,some 0,.bool true,?_,rfl,rfl,rfl,rfl,rfl,rfl⟩)));unfold xU;rw[if_neg q3,if_neg q4,if_neg q5]
 ·intros r' st'' p4_;obtain⟨ch,sort,v,hv,g0,g2,g3,g4,g7,g8⟩:_:=p4_;rw[hv]at hP;simp only[Res.bind]at hP
  have hK':∀j,j<3->∃ep,st''[k j]?=some (.dictB ep (K j)):=by
   intros j hj;obtain⟨ep,e⟩:_:=hK j hj;exact⟨ep,ch.get e (wE)⟩
  have hI':=hI.ch ch (fun z z=>wE);have hk4:=TH K name;refine asg xh 9 (cF g 14 rfl (aN (vv xh 0 g0 (aN (vv xh 4 g4 (aN (vv xh 7 g7 (a2 (vv xh 2 g2 (vv xh 3 g3 (XW g hK' (?_) fun hc s3 c3=>hN (by rw[hP,kI,if_pos hc]) _ ((ch.trans c3).weak (nn)))))))))))));intros hc s3 c3;have hI3:=hI'.ch c3 (fun z z=>wE);have c03:=(ch.trans c3).weak (rs':=tZ r) (nn);obtain⟨ep,hl⟩:_:=hI3.lot _ hk4
  have f9:∀q a,q≠9->r'.get q=some a->(r'.set 9 (.ref (r (yW K name+1)))).get q=some a:=fun q a hq h=>by rw[Rho.get_set,if_neg (hq)];exact h
  rw[kI,if_neg hc]at hP;refine za (z7 (zk rfl (vv xh 4 (f9 _ _ (by decide) g4) (vv xh 9 zg (xd (dkB B) g.hB hl (bo (?_) ?_))))))
  ·intros q;refine zo ?_;rw[if_neg (by simpa using q)]at hP;refine za (wh (fun z z z=>rfl) (vv xh 8 (f9 _ _ (by decide) g8) (vv xh 9 zg (vv xh 4 (f9 _ _ (by decide) g4) (uc (dkB B) hl (by have:=hlz (yW K name) hk4;exact F1 this) fun ep'=>zd (zd (hS _ hP _ (c03.set' _ (.inl (jo (F1 hk4)))) (hI3.setLot hk4 ep' _))))))))
  ·intros q;refine zm (zd (zd ?_));rw[if_pos (by simpa using q)]at hP;exact hS _ hP _ c03 hI3
end
section
open PySem.Builtin PySem.Builtin.Str
noncomputable def zN (c:Nat):List Nat->List (List Nat)
 | []=>[[]]
 | x::r=>if x=c then []::zN c r else match zN c r with
  | []=>[[x]]
  | p::ps=>(x::p)::ps
theorem T8:∀(c:Nat),zN c []=[[]]:=fun a=>rfl
theorem Xz:∀(c x:Nat) (r:List Nat),zN c (x::r)=if x=c then []::zN c r else match zN c r with | []=>[[x]] | p::ps=>(x::p)::ps:=fun a a a=>rfl
noncomputable def kq (w:List Nat):List (List Nat)->List (List Nat)
 | []=>[]
 | p::ps=>(w++p)::ps
noncomputable def uI (c:Nat):Nat->List Nat->List Nat
 | _,[]=>[]
 | k,x::r=>if x=c then k::uI c (k+1) r else uI c (k+1) r
theorem TP:∀(c x:Nat),uI c x []=[]:=fun a a=>rfl
theorem WB:∀(c x y:Nat) (r:List Nat),uI c x (y::r)=if y=c then x::uI c (x+1) r else uI c (x+1) r:=fun a a a a=>rfl
theorem qB (c:Nat):∀(k:Nat) (l:List Nat),(uI c k l).length<=l.length
 | _,[]=>wC
 | k,x::r=>by
  rw[WB];have:=qB c (k+1) r
  by_cases h:x=c
  ·rw[if_pos h];simp;exact this
  ·rw[if_neg h];simp;exact F1 this
theorem tu (c:Nat) (l:List Nat):∃p ps,zN c l=p::ps:=by
 cases l with
 | nil=>exact X0 _ _ rfl
 | cons x r =>
  rw[Xz]
  by_cases h:x=c
  ·rw[if_pos h];exact X0 _ _ rfl
  ·rw[if_neg h]
   cases zN c r<;>exact X0 _ _ rfl
theorem Rq (b:List Nat) (c limit:Nat):∀(r pre:List Nat) (acc:Array Nat) (free:Nat),b=pre++r->free<=pre.length ->
  (forIn (List.range' pre.length (r.length+1)) (acc,free) (StrLaws.occBody (mkS b) (mkS [c]) (mkS b).length limit)).run.fst.toList=acc.toList++(uI c pre.length r).take (limit-acc.size):=by
 intro l_
 induction l_ with
 | nil =>
  intro pre acc free hb hf
  have h0:¬(((acc,free).fst.size<limit/\(acc,free).snd<=pre.length)/\pre.length+(mkS [c]).length<=(mkS b).length):=by
   rw[z_,z_,hb];simp
  rw[show (List.range' pre.length ([]:List Nat).length.succ)=[pre.length] from rfl];rw[List.forIn_cons];unfold StrLaws.occBody;rw[if_neg (fun h=>h0 h.1)];simp[TP]
 | cons x r ih_ =>
  intro pre acc free hb hf
  have key:(pre.length+(mkS [c]).length<=(mkS b).length/\subAt (mkS b) (mkS [c]) pre.length=true)↔x=c:=by
   refine(StrLaws.subAt_one (mkS b) c pre.length).trans ?_;rw[show (mkS b).cps.toList=b from rfl,hb];simp
  have hl:(pre++[x]).length=pre.length+1:=by exact List.length_append
  rw[List.length_cons,List.range'_succ,List.forIn_cons];unfold StrLaws.occBody;rw[WB]
  by_cases hx:x=c
  ·by_cases hs:acc.size<limit
   ·rw[if_pos (by have:=key.mpr hx;exact⟨⟨⟨hs,hf⟩,this.1⟩,this.2⟩),if_pos hx];have ih:=ih_ (pre++[x]) (acc.push pre.length) (pre.length+(mkS [c]).length) (hb.trans mc) (by rw[hl,z_];exact wC);rw[hl]at ih;show (forIn (List.range' (pre.length+1) (r.length+1)) (acc.push pre.length,pre.length+(mkS [c]).length) (StrLaws.occBody (mkS b) (mkS [c]) (mkS b).length limit)).run.fst.toList=_;rw[ih];obtain⟨q,hq⟩:∃q,limit-acc.size=q+1:=⟨limit-acc.size-1,s1 hs⟩;rw[hq,show limit-(acc.push pre.length).size=q from by simp;exact s3 hq];simp
   ·rw[if_neg (by intro h;exact hs h.1.1.1),if_pos hx];have ih:=ih_ (pre++[x]) acc free (hb.trans mc) (by rw[hl];exact F1 hf);rw[hl]at ih;show (forIn (List.range' (pre.length+1) (r.length+1)) (acc,free) (StrLaws.occBody (mkS b) (mkS [c]) (mkS b).length limit)).run.fst.toList=_;rw[ih,show limit-acc.size=0 from by exact AS (F1 (Le (S0 (limit) (acc.size) (F1 (Nt hs))))) (wD)];exact rfl
  ·rw[if_neg (by intro h;exact hx (key.mp ⟨h.1.2,h.2⟩)),if_neg hx];have ih:=ih_ (pre++[x]) acc free (hb.trans mc) (by rw[hl];exact F1 hf);rw[hl]at ih;exact ih
theorem Vn (b:List Nat) (c limit:Nat):occurrences (mkS b) (mkS [c]) 0 (mkS b).length limit=(uI c 0 b).take limit:=by
 rw[StrLaws.occ_eq];have:=Rq b c limit b [] #[] 0 rfl (wC);simp -iota only[List.length_nil,Array.size_empty,Nat.sub_zero]at this;rw[show (mkS b).length+1-0=b.length+1 from by rw[z_];exact rfl,this];simp
theorem R0 (b:List Nat) (c:Nat):Vj b c=match uI c 0 b with | i::_=>(i:Int) | []=>-1:=by
 unfold Vj Txt.find;rw[Vn]
 cases uI c 0 b<;>rfl
theorem Z0 (b:List Nat) (c:Nat):∀(r pre:List Nat) (s0:Nat),b=pre++r->s0<=pre.length ->
  (((s0::(uI c pre.length r).map (fun x=>x+1)).zip (uI c pre.length r++[b.length])).map fun p=>unS (strSub (mkS b) p.1 p.2))=kq (pre.drop s0) (zN c r):=by
 intro l_
 induction l_ with
 | nil =>
  intro pre s0 hb hs;subst hb;simp[TP,T8,kq,strSub,unS,mkS];exact List.take_of_length_le (by simp)
 | cons x r ih_ =>
  intro pre s0 hb hs
  have hl:(pre++[x]).length=pre.length+1:=by exact List.length_append
  rw[WB,Xz]
  by_cases hx:x=c
  ·rw[if_pos hx,if_pos hx];have ih:=ih_ (pre++[x]) (pre.length+1) (hb.trans mc) (by rw[hl];exact wC);rw[hl]at ih;simp only[List.map_cons,List.cons_append,List.zip_cons_cons,kq,List.append_nil]
   congr 1
   ·subst hb;simp[strSub,unS,mkS];rw[List.drop_append_of_le_length hs,List.take_left' (by simp)]
   ·rw[ih];refine qP (tu c r) fun p ps e=>?_;rw[e];simp[kq,hl]
  ·rw[if_neg hx,if_neg hx];have ih:=ih_ (pre++[x]) s0 (hb.trans mc) (by rw[hl];exact F1 hs);rw[hl]at ih;rw[ih];refine qP (tu c r) fun p ps e=>?_;rw[e];simp only[kq];rw[List.drop_append_of_le_length hs];simp
theorem Xi {b:List Nat} {c:Nat} (h:uI c 0 b=[]):zN c b=[b]:=by
 have:=Z0 b c b [] 0 rfl (wC);simp -iota only[List.length_nil]at this;rw[h]at this;refine qP (tu c b) fun p ps e=>?_;rw[e]at this ⊢;simp[kq,strSub,unS,mkS]at this;rw[this.1,this.2]
theorem T_ (b:List Nat) (c:Nat) (hc:c<256):uX b c=zN c b:=by
 unfold uX Txt.split;rw[Vn]
 have hk:PySem.Builtin.Str.strKind (mkS [c])=1:=by unfold PySem.Builtin.Str.strKind mkS;simp -iota [hc]
 have hk2:1<=PySem.Builtin.Str.strKind (mkS b):=by unfold PySem.Builtin.Str.strKind;split<;>(try split)<;>decide
 have ht:(uI c 0 b).take ((mkS b).length+1)=uI c 0 b:=List.take_of_length_le (by have:=qB c 0 b;rw[z_];exact F1 this);rw[ht,hk]
 by_cases h0:b=[]
 ·subst h0;rw[if_pos (by rw[z_,z_];exact rfl)];exact rfl
 ·have:1<=b.length:=by cases b with
   | nil=>exact absurd rfl h0
   | cons x r=>exact wB
  rw[if_neg (by intro h;rw[Bool.or_eq_true,decide_eq_true_eq,decide_eq_true_eq]at h;rcases h with h | h<;>(try simp -iota only[z_,List.length_cons,List.length_nil]at h)<;>first | exact Nat.not_lt_of_le this h | exact Nat.not_lt_of_le hk2 h)]
  by_cases he:uI c 0 b=[]
  ·rw[if_pos (by rw[he];rfl),Xi he];exact rfl
  ·rw[if_neg (by simpa using he)];have:=Z0 b c b [] 0 rfl (wC);simp -iota only[List.length_nil,List.drop_nil]at this;unfold partsBetween;obtain⟨p,ps,e⟩:=tu c b;rw[e]at this ⊢;simp -iota only[kq,List.nil_append]at this;rw[List.map_map,z_,z_];exact this
noncomputable def wj:Nat->List Nat
 | 0=>unS (y9 0)++unS (y9 1)
 | 1=>unS (y9 2)
 | _=>unS (y9 3)
noncomputable def uP (b:List Nat) (c:Nat):Int:=match uI c 0 b with | i::_=>(i:Int) | []=>-1
noncomputable def yP:List (List Nat)->Int->List (List UInt8×AV)->Option (List (List UInt8×AV))
 | [],_,acc=>some acc
 | w::ws,pl,acc=>if 0<=uP w 58 then match PySem.intText? (mkS (cut none (some (uP w 58)) w))with
   | none=>none
   | some i=>yP ws (i+1) (yL acc (vt ((cut (some (uP w 58+1)) none w).map ua)) (.int i))
  else yP ws (pl+1) (yL acc (vt (w.map ua)) (.int pl))
theorem U7:∀(x:Int) (a:List (List UInt8×AV)) (w:List Nat) (ws:List (List Nat)),yP (w::ws) x a=if 0<=uP w 58 then match PySem.intText? (mkS (cut none (some (uP w 58)) w))with | none=>none | some i=>yP ws (i+1) (yL a (vt ((cut (some (uP w 58+1)) none w).map ua)) (.int i)) else yP ws (x+1) (yL a (vt (w.map ua)) (.int x)):=fun a a a a=>rfl
noncomputable def z4 (j:Nat):List (List UInt8×AV):=(yP (zN 32 (wj j)) 0 []).getD []
theorem si (j:Nat) (hj:j<3):yP (zN 32 (wj j)) 0 []=some (z4 j):=by
 have h:∀j,j<3->(yP (zN 32 (wj j)) 0 []).isSome=true:=by decide +kernel
 unfold z4;have:=h j hj
 cases hq:yP (zN 32 (wj j)) 0 []with
 | none=>rw[hq]at this;cases this
 | some x=>rfl
theorem ta (j:Nat) (hj:j<3):(∀w∈zN 32 (wj j),w.length<=600)/\(wj j).length<=1000/\(zN 32 (wj j)).length<=1000:=by
 have h:∀j,j<3->(∀w∈zN 32 (wj j),w.length<=600)/\(wj j).length<=1000/\(zN 32 (wj j)).length<=1000:=by decide +kernel
 exact h j hj
end
section
variable {B:Base} {n:Nat} {sc:Scope} {ρ:Rho} {Q X:AV->St->Prop} {st:St}
theorem qe {nm:Nat->Str} {nN:Nat} (g:Gl B) {m:Nat} {d:Nat->Nat} {ns:List (List UInt8)} {lot:Nat->List (List UInt8×AV)} (hn:st[m]?=some (.list (ns.map AV.bytes))) (hd:∀k,k<4->∃ep,st[d k]?=some (.dictB ep (lot k))) (hz:ns.length<=16777216) (hlz:∀k,k<4->(lot k).length<=16777216)
  (h:∀r st',Ch [] st st'->(∀i,i<6->st.length<=r i)->zQ st' r ⟨ns,lot,[]⟩->Q (zD r) st'):jI B nm nN (n+1) (.ref B.cInfo) [.ref m,.ref (d 0),.ref (d 1),.ref (d 2),.ref (d 3)] Q X st:=by
 revert B n Q X st nm nN g m d ns lot hn hd hz hlz h
 intros B n Q X st nm nN g m d ns lot hn hd hz hlz h;refine Ud g.hB g.info ?_;obtain⟨e0,h0⟩:_:=hd 0 (wB);obtain⟨e1,h1⟩:_:=hd 1 (wA);obtain⟨e2,h2⟩:_:=hd 2 (wA);obtain⟨e3,h3⟩:_:=hd 3 (wC);refine ui hn (lm hz) ?_;refine vR g.hB (zc h0) (hlz 0 (wB)) ?_;intros f0;refine vR g.hB (zc (zc h1)) (hlz 1 (wA)) ?_;intros f1;refine vR g.hB (zc (zc (zc h2))) (hlz 2 (wA)) ?_;intros f2;refine vR g.hB (zc (zc (zc (zc h3)))) (hlz 3 (wC)) ?_;intros f3;refine YZ (by simp) ?_
 have e:∀k (t:St),k=st.length+t.length->k=(st++t).length:=fun k t h=>by simpa using h
 have key:=h (fun i=>st.length+i) (st++[.list (ns.map AV.bytes),.dictB f0 (lot 0),.dictB f1 (lot 1),.dictB f2 (lot 2),.dictB f3 (lot 3),.list []]) (Ch.push ..) (fun i z=>by exact Nat.le_add_right _ _) ⟨g0 rfl,fun k hk=>?_,gk rfl,fun i j z z e=>by exact AS (F1 (Le e)) (F1 (Re e))⟩
 ·show Q (.info _) _;simpa[zD]using key
 ·have:k=0\/k=1\/k=2\/k=3:=by exact l4 (F1 hk)
  rcases this with rfl | rfl | rfl | rfl
  ·exact⟨f0,by simp⟩
  ·exact⟨f1,by simp⟩
  ·exact⟨f2,by simp⟩
  ·exact⟨f3,by simp⟩
theorem RL {nm:Nat->Str} {nN:Nat} (g:Gl B) {px pos:Pos} {es:List Expr} (h:WEs B nm nN n sc es ρ (fun as st'=>jI B nm nN n (.ref B.cInfo) as Q X st') X st)
  (hk:autoParam (sc.names.lookup (Str.ofString "Info")=some .globalImplicit) ak_) (he:autoParam (∀env,(starEach es env).any (fun x=>x.1)=false) af_):WE B nm nN n sc (.Call (.Name (Str.ofString "Info") px) es [] pos) ρ Q X st :=
 qX hk (by kernel_rfl) g.infoG g.infoK he h
noncomputable def nEmp:List String:=["names"]
theorem QA:Nms nEmp:=.of (by kernel_rfl)
theorem X_ (g:Gl B) {m:Nat} {ns:List (List UInt8)} (hn:st[m]?=some (.list (ns.map AV.bytes))) (hz:ns.length<=16777216) (h:∀r st',Ch [] st st'->(∀i,i<6->st.length<=r i)->zQ st' r ⟨ns,fun z=>[],[]⟩->Q (zD r) st') :
  Spec B (n+2) (.ref 96) [.ref m] st Q X:=by
 revert B n Q X st g m ns hn hz h
 intros B n Q X st g m ns hn hz h;refine zP g 3 rfl QA [0] ?_;refine za (zq (RL g (aN (vv QA 0 rfl (aN (xS (dkB B) ?_))))));intros e0;refine aN (xS (dkB B) fun e1=>aN (xS (dkB B) fun e2=>a1 (xS (dkB B) fun e3=>?_)))
 have key:=qe (nm:=zx nEmp) (nN:=nEmp.length) (n:=n) (Q:=Q) (X:=X) g (st:=st++[.dictB e0 [],.dictB e1 [],.dictB e2 [],.dictB e3 []]) (m:=m) (d:=fun k=>st.length+k) (ns:=ns) (lot:=fun z=>[]) (zc hn) (fun k hk=>?_) hz (by decide)
  fun r st' c hr hI=>h r st' ((Ch.push ..).trans c) (fun i hi=>by have:=hr i hi;simp at this;exact F1 this) hI
 ·show jI _ _ _ _ _ [.ref m,.ref st.length,.ref (st++[AO.dictB e0 []]).length,.ref (st++[AO.dictB e0 []]++[AO.dictB e1 []]).length,.ref (st++[AO.dictB e0 []]++[AO.dictB e1 []]++[AO.dictB e2 []]).length] Q X (st++[AO.dictB e0 []]++[AO.dictB e1 []]++[AO.dictB e2 []]++[AO.dictB e3 []]);simpa using key
 ·have:k=0\/k=1\/k=2\/k=3:=by exact l4 (F1 hk)
  rcases this with rfl | rfl | rfl | rfl
  ·exact⟨e0,by simp⟩
  ·exact⟨e1,by simp⟩
  ·exact⟨e2,by simp⟩
  ·exact⟨e3,by simp⟩
noncomputable def nPcd:List String:=["words","found","place","word","cut"]
theorem uw:Nms nPcd:=.of (by decide +kernel)
theorem tf (g:Gl B) {x:List Nat} {kv:List (List UInt8×AV)} (hP:yP (zN 32 x) 0 []=some kv) (hw:∀w∈zN 32 x,w.length<=600) (hz:x.length<=1000) (hz2:(zN 32 x).length<=1000)
  (h:∀m st',Ch [] st st'->st.length<=m->(∃ep,st'[m]?=some (.dictB ep kv))->Q (.ref m) st'):Spec B (n+2) (.ref 103) [.str x] st Q X:=by
 revert B n Q X st g x kv hP hw hz hz2 h
 intros B n Q X st g x kv hP hw hz hz2 h;refine zP g 4 rfl uw [0] ?_;refine uD uw 1 2 (zp (aN (xS (dkB B) ?_)));intros ep;refine a1 (zb ⟨wA,_,rfl,rfl,?_⟩);refine vN uw 3 (yj (yf ⟨fun z=>rfl,fun z=>rfl,rfl,fun z=>rfl⟩ (vv uw 0 rfl ⟨_,_,jA F.slot_str_split F.type_str_split,.str,a1 (zh (y:=[32]) (by kernel_rfl) (Z7 (F1 hz) (yg zf ?_)))⟩)));have hb:(st++[(dkB B).ao ep []])[st.length]?=some (.dictB ep []):=zf;have hsl:uX x 32=zN 32 x:=T_ x 32 (wA)
 have g1':(st++[(dkB B).ao ep []]++[.list ((uX x 32).map AV.str)])[st.length+1]?=some (.list ((zN 32 x).map AV.str)):=by rw[hsl];exact g1
 refine⟨List Nat,zN 32 x,AV.str,fun rest r' s₂=>Ch [] st s₂/\s₂[st.length+1]?=some (.list ((zN 32 x).map AV.str))/\(∀w∈rest,w.length<=600) /\ ∃(acc:List (List UInt8×AV)) (pl:Int),yP rest pl acc=some kv/\acc.length+rest.length<=1000/\(∃ep,s₂[st.length]?=some (.dictB ep acc)) /\
  r'.get 1=some (.ref st.length)/\r'.get 2=some (.int pl),by rw[hsl],?_,?_,?_⟩
 ·exact⟨(Ch.push ..).push' _,g1',hw,[],0,hP,by simpa using hz2,⟨ep,zc hb⟩,rfl,rfl⟩
 ·intros r' s₂ p4_;obtain⟨ch,hl,_,acc,pl,hq,hal,hd,g1,g2⟩:_:=p4_;refine⟨by simpa[hsl]using hl,?_⟩;cases hq;exact za (zq (vv uw 1 g1 (h _ _ ch (wC) hd)))
 ·intros w rest r' s₂ p5_;obtain⟨ch,hl,hws,acc,pl,hq,hal,⟨ep',hd⟩,g1,g2⟩:_:=p5_;refine⟨by simpa[hsl]using hl,?_⟩;have hw6:=hws w (.head _);have hwr:∀v∈rest,v.length<=600:=fun v hv=>hws v (.tail _ hv);rw[U7]at hq
  have ff:∀(u:AV) q a,q≠3->q≠4->r'.get q=some a->((r'.set 3 (.str w)).set 4 u).get q=some a:=fun u q a h3 h4 hg=>by rw[Rho.get_set,if_neg (h4),Rho.get_set,if_neg (h3)];exact hg
  have f3:∀(u:AV),((r'.set 3 (.str w)).set 4 u).get 3=some (.str w):=fun u=>by exact rn zg rfl
  refine asg uw 4 (yf ⟨fun z=>rfl,fun z=>rfl,rfl,fun z=>rfl⟩ (vv uw 3 zg ⟨_,_,jA F.slot_str_find F.type_str_find,.str,a1 (zh (y:=[58]) (by kernel_rfl) (Xp ?_))⟩));have hfe:Vj w 58=uP w 58:=R0 w 58;rw[hfe];refine xx (fun r1 s₁=>s₁=s₂ /\ ∃(v:List Nat) (i:Int),v.length<=600/\yP rest (i+1) (yL acc (vt (v.map ua)) (.int i))=some kv/\r1.get 1=some (.ref st.length)/\r1.get 2=some (.int i)/\r1.get 3=some (.str v)) ?_ ?_
  ·refine z7 (zk rfl (vv uw 4 zg (zb (z6 rfl (bod (?_) ?_)))))
   ·intros q;refine zo ?_;rw[if_pos q]at hq
    cases hi:PySem.intText? (mkS (cut none (some (uP w 58)) w))with
    | none=>rw[hi]at hq;cases hq
    | some i =>
     rw[hi]at hq;have hc1:=vi none (some (uP w 58)) w;have hc2:=vi (some (uP w 58+1)) none w;refine asg uw 2 (cB g 5 rfl (a1 (zR (vv uw 3 (f3 _) (vv uw 4 zg ⟨_,rfl,qk (F1 hw6) (WG hi (F2 hw6 hc1) ?_)⟩)))));refine asg uw 3 (zR (vv uw 3 (by rw[Rho.get_set,if_neg (by decide)];exact f3 _) (ze (vv uw 4 (a:=.int (uP w 58)) (by rw[Rho.get_set,if_neg (by decide)];exact zg) (zb (zj ⟨_,rfl,qk (F1 hw6) (zd ⟨rfl,_,i,F2 hw6 hc2,hq,?_,?_,zg⟩)⟩))))))
     ·exact rn (rn (rn (rn g1 rfl) rfl) rfl) rfl
     ·exact rn zg rfl
   ·intros q;refine zm (zd ?_);rw[if_neg q]at hq;exact⟨rfl,w,pl,hw6,hq,ff _ _ _ (by decide) (by decide) g1,ff _ _ _ (by decide) (by decide) g2,f3 _⟩
  ·intros r1 s₁ p6_;obtain⟨rfl,v,i,hv,hq,k1,k2,k3⟩:_:=p6_;refine za (wh (fun z z z=>rfl) (vv uw 2 k2 (vv uw 1 k1 (cF g 0 rfl (a1 (vv uw 3 k3 (jG g (F1 hv) ?_)))))));intros s3 c3;refine uc (dkB B) (c3.get hd (wE)) (by simp at hal;exact F1 hal) fun ep4=>?_;refine asg uw 2 (ze (vv uw 2 k2 (zb (zj (zd ?_)))));have hdl:=xC acc (vt (v.map ua)) (.int i);refine⟨(ch.trans c3).set' _ (.inr (wC)),?_,hwr,_,_,hq,by simp at hal;exact F2 hal hdl,⟨ep4,get_set (zv (c3.get hd (wE)))⟩,?_,zg⟩
   ·rw[List.getElem?_set_ne (Ql (by exact wC))];exact c3.get hl (wE)
   ·rw[Rho.get_set,if_neg (by decide)];exact k1
noncomputable def nKno:List String:=["truths","numbers","strings"]
theorem ZU:Nms nKno:=.of (by kernel_rfl)
theorem UB:∃(x0 x1 x2 x3:List Nat) (kn:Nat->List (List UInt8×AV)),(x0=unS (y9 0)/\x1=unS (y9 1)/\x2=unS (y9 2)/\x3=unS (y9 3)/\kn=z4) /\
  (yP (zN 32 (x0++x1)) 0 []=some (kn 0)/\(∀w∈zN 32 (x0++x1),w.length<=600)/\(x0++x1).length<=1000/\(zN 32 (x0++x1)).length<=1000) /\
  (yP (zN 32 x2) 0 []=some (kn 1)/\(∀w∈zN 32 x2,w.length<=600)/\x2.length<=1000/\(zN 32 x2).length<=1000) /\
  (yP (zN 32 x3) 0 []=some (kn 2)/\(∀w∈zN 32 x3,w.length<=600)/\x3.length<=1000/\(zN 32 x3).length<=1000):=by
 have u0:wj 0=unS (y9 0)++unS (y9 1):=by kernel_rfl
 have u1:wj 1=unS (y9 2):=by kernel_rfl
 have u2:wj 2=unS (y9 3):=by kernel_rfl
 refine Q_ (unS (y9 0)) (unS (y9 1)) (unS (y9 2)) (unS (y9 3)) z4 (d5_ rfl rfl rfl rfl rfl) ?_ ?_ ?_
 ·have a:=si 0 (wB);have b:=ta 0 (wB);rw[u0]at a b;exact⟨a,b⟩
 ·have a:=si 1 (wA);have b:=ta 1 (wA);rw[u1]at a b;exact⟨a,b⟩
 ·have a:=si 2 (wC);have b:=ta 2 (wC);rw[u2]at a b;exact⟨a,b⟩
theorem WU (g:Gl B) (h:∀(k:Nat->Nat) st',Ch [] st st'->(∀j,j<3->st.length<=k j /\ ∃ep,st'[k j]?=some (.dictB ep (z4 j)))->Q (qK k) st'):Spec B (n+3) (.ref 110) [] st Q X:=by
 revert B n Q X st g h
 intros B n Q X st g h;obtain⟨x0,x1,x2,x3,kn,⟨e0,e1,e2,e3,ek⟩,w0,w1,w2⟩:_:=UB;rw[<-ek]at h;refine zP g 5 rfl ZU [] ?_;refine asg ZU 0 (zh (y:=x0) (by rw[e0,qr];kernel_rfl) ?_);refine asg ZU 0 (ze (vv ZU 0 rfl (zh (y:=x1) (by rw[e1,qr];kernel_rfl) (z9 ?_ ?_))))
 ·have:=w0.2.2.1;simp only[List.length_append]at this;exact F1 this
 refine asg ZU 1 (zh (y:=x2) (by rw[e2,qr];kernel_rfl) ?_);refine asg ZU 2 (zh (y:=x3) (by rw[e3,qr];kernel_rfl) ?_);clear e0 e1 e2 e3 ek;refine za (zq (zp (aN ?_)));refine cF g 4 rfl (a1 ?_);refine vv ZU 0 rfl ?_;refine tf g w0.1 w0.2.1 w0.2.2.1 w0.2.2.2 ?_;intros m0 s0 c0 l0 h0;refine aN (cF g 4 rfl (a1 (vv ZU 1 rfl (tf g w1.1 w1.2.1 w1.2.2.1 w1.2.2.2 ?_))));intros m1 s1 c1 l1 h1;refine a1 (cF g 4 rfl (a1 (vv ZU 2 rfl (tf g w2.1 w2.2.1 w2.2.2.1 w2.2.2.2 ?_))));intros m2 s2 c2 l2 h2;refine⟨wA,?_⟩;refine h (fun j=>if j=0 then m0 else if j=1 then m1 else m2) s2 ((c0.trans c1).trans c2) ?_;intros j hj
 have:j=0\/j=1\/j=2:=by exact l3 (F1 hj)
 rcases this with rfl | rfl | rfl
 ·obtain⟨ep,e⟩:_:=h0;exact⟨l0,ep,(c1.trans c2).get e (wE)⟩
 ·obtain⟨ep,e⟩:_:=h1;exact⟨Nat.le_trans c0.1 l1,ep,c2.get e (wE)⟩
 ·exact⟨Nat.le_trans (c0.trans c1).1 l2,h2⟩
end
noncomputable def sj (I:InfoV):Bool:=decide ((I.lot 0).length<=1000)&&(decide ((I.lot 1).length<=1000)&&(decide ((I.lot 2).length<=1000)&&(decide ((I.lot 3).length<=1000)&&decide (I.uses.length<=1000))))
noncomputable abbrev Kn:=Nat->List (List UInt8×AV)
noncomputable def uE (K:Kn):InfoV->List (List UInt8)->Res InfoV
 | I,[]=>.ok I
 | I,f::fs=>if sj I=true then (wN K I f).bind fun I'=>uE K I' fs else .wild
theorem Rv:∀(K:Kn) (x:InfoV),uE K x []=Res.ok x:=fun a a=>rfl
theorem qZ:∀(K:Kn) (x:InfoV) (f:List UInt8) (fs:List (List UInt8)),uE K x (f::fs)=if sj x=true then (wN K x f).bind fun I'=>uE K I' fs else Res.wild:=fun a a a a=>rfl
noncomputable def x7 (ns:List (List UInt8)):InfoV:=⟨ns,fun z=>[],[]⟩
noncomputable def tK (row:List UInt8):Prop:=¬(row.take 1=[32]\/row.take 1=[9])
noncomputable instance (row:List UInt8):Decidable (tK row):=inferInstanceAs (Decidable (¬_))
noncomputable def xQ (K:Kn) (found:List InfoV) (row:List UInt8):Res (List InfoV) :=
 if yS row=[]\/row.take 1=[35] then .ok found else
 match yZ row with
 | none=>.bad
 | some fs =>
  if tK row then
   match fs with
   | []=>.bad
   | f::fs=>match qI f with
    | none=>.bad
    | some ns=>if 1000<found.length then .wild else (uE K (x7 ns) fs).bind fun I=>.ok (found++[I])
  else match found.getLast? with
   | none=>.bad
   | some I=>(uE K I fs).bind fun I=>.ok (found.dropLast++[I])
inductive Rd where
 | done (l:List InfoV) | told (k:Nat) | wild
noncomputable def xZ (K:Kn):Nat->List (List UInt8)->List InfoV->Rd
 | _,[],found=>.done found
 | k,row::rows,found=>match xQ K found row with
  | .ok found=>xZ K (k+1) rows found
  | .bad=>.told (k+1)
  | .wild=>.wild
theorem tv:∀(K:Kn) (x:Nat) (y:List InfoV) (row:List UInt8) (rows:List (List UInt8)),xZ K x (row::rows) y=match xQ K y row with | .ok found=>xZ K (x+1) rows found | .bad=>.told (x+1) | .wild=>.wild:=fun a a a a a=>rfl
noncomputable def w6 (b:List UInt8):Rd:=xZ z4 0 (zK 10 b) []
theorem sO:∀(cur u:List UInt8),(∀f∈(yd cur u).1,f.length<=cur.length+u.length)/\(yd cur u).1.length<=u.length
 | cur,[]=>by rw[Rp];simp
 | cur,[c]=>by
  rw[tB]
  split
  ·simp
  ·simp
 | cur,c::d::r=>by
  by_cases he:wJ c
  ·rw[qf _ _ _ _ he];have ih:=sO (cur++[c,d]) r;refine⟨fun f hf=>?_,?_⟩
   ·have:=ih.1 f hf;simp at this ⊢;exact F1 this
   ·have:=ih.2;simp;exact F1 ih.2
  ·by_cases hc:c.toNat=44
   ·rw[v8 _ _ _ hc];have ih:=sO [] (d::r);refine⟨fun f hf=>?_,?_⟩
    ·rcases List.mem_cons.mp hf with rfl | hf
     ·exact Nat.le_add_right _ _
     ·have:=ih.1 f hf;simp at this ⊢;exact F1 this
    ·have:=ih.2;simp at this ⊢;exact this
   ·rw[vC _ _ _ hc he];have ih:=sO (cur++[c]) (d::r);refine⟨fun f hf=>?_,?_⟩
    ·have:=ih.1 f hf;simp at this ⊢;exact F1 this
    ·have:=ih.2;simp at this ⊢;exact F1 this
theorem Ua {row:List UInt8} {fs:List (List UInt8)} (h:yZ row=some fs):(∀f∈fs,f.length<=row.length)/\fs.length<=row.length:=by
 revert row fs h
 intros row fs h;unfold yZ at h
 split at h
 ·cases h
 ·cases h;have:=sO [] row;refine⟨?_,by simpa using this.2⟩;intros f hf;obtain⟨g,hg,rfl⟩:_:=List.mem_map.mp hf;have h1:=this.1 g hg;have h2:=VL g;simp at h1;exact F2 h2 h1
structure xc (st:St) (lo:Nat) (P:List ((Nat->Nat)×InfoV)):Prop where
 all:∀p∈P,zQ st p.1 p.2 /\ ∀i,i<6->lo<=p.1 i
 apart:P.Pairwise fun p q=>∀i j,i<6->j<6->p.1 i≠q.1 j
theorem xc.nil {st:St} {lo:Nat}:xc st lo []:=⟨nn,by simp⟩
theorem xc.ch {st st':St} {lo:Nat} {P:List ((Nat->Nat)×InfoV)} {rs:List Nat} (h:xc st lo P) (c:Ch rs st st') (hd:∀i∈rs,i<lo):xc st' lo P where
 all p hp:=⟨(h.all p hp).1.ch c fun i hi hm=>by have:=(h.all p hp).2 i hi;have:=hd _ hm;exact Z (F2 this ‹lo<=p.fst i›),(h.all p hp).2⟩
 apart:=h.apart
theorem xc.snoc {st:St} {lo:Nat} {P:List ((Nat->Nat)×InfoV)} {r:Nat->Nat} {I:InfoV} {st₀:St} (h₀:xc st₀ lo P) (hl:lo<=st₀.length) (h:xc st lo P) (hI:zQ st r I) (hr:∀i,i<6->st₀.length<=r i):xc st lo (P++[(r,I)]) where
 all p hp:=by
  rcases List.mem_append.mp hp with hp | hp
  ·exact h.all p hp
  ·rw[List.mem_singleton.mp hp];exact⟨hI,fun i hi=>Nat.le_trans hl (hr i hi)⟩
 apart:=by
  rw[List.pairwise_append];refine⟨h.apart,by simp,fun p hp q hq i j hi hj=>?_⟩;rw[List.mem_singleton.mp hq];have a:=(h₀.all p hp).1.lt hi;have b:st₀.length<=r j:=hr j hj;show p.1 i≠r j;exact Ql (F2 a b)
theorem xc.last {st st':St} {lo:Nat} {P:List ((Nat->Nat)×InfoV)} {r:Nat->Nat} {I I':InfoV} (h:xc st lo (P++[(r,I)])) (c:Ch (tZ r) st st') (hI:zQ st' r I'):xc st' lo (P++[(r,I')]) where
 all p hp:=by
  rcases List.mem_append.mp hp with hp | hp
  ·have a:=h.all p (List.mem_append_left _ hp);refine⟨a.1.ch c fun i hi hm=>?_,a.2⟩;refine zn (xT hm) fun j hj e=>?_;exact(List.pairwise_append.mp h.apart).2.2 p hp _ (List.mem_singleton.mpr rfl) i j hi hj e
  ·rw[List.mem_singleton.mp hp];exact⟨hI,(h.all (r,I) (mm)).2⟩
 apart:=by
  have:=List.pairwise_append.mp h.apart;rw[List.pairwise_append];refine⟨this.1,by simp,fun p hp q hq=>?_⟩;rw[List.mem_singleton.mp hq];exact this.2.2 p hp (r,I) (List.mem_singleton.mpr rfl)
theorem X7 {α:Type} (l:List α) (a:α):idx (l++[a]) (-1)=some a:=by
 unfold idx;rw[if_neg (by decide),if_pos (by simp;exact kL (1) (l.length+1) (wB))]
 have:((-1:Int)+((l++[a]).length:Nat)).toNat=l.length:=by rw[la];show ((-1:Int)+((l.length:Int)+1)).toNat=_;rw[Int.add_comm (l.length:Int),Int.neg_add_cancel_left];rfl
 rw[this];exact gn
noncomputable def avs (P:List ((Nat->Nat)×InfoV)):List AV:=P.map fun p=>zD p.1
noncomputable def nRea:List String:=["octets","found","known","at","row","number","fields","field"]
theorem xX:Nms nRea:=.of (by kernel_rfl)
section
variable {B:Base} {n:Nat} {sc:Scope} {ρ:Rho} {Q X:AV->St->Prop} {st:St}
theorem wU {k:Nat} {xs:List AV}:u7 B k st xs [] (decide (xs=[])):=by
 cases xs with
 | nil=>exact .inr rfl
 | cons a r=>exact .inl ⟨nofun,rfl⟩
end
noncomputable instance:Nonempty Rd:=⟨.wild⟩
section
variable {B:Base} {n:Nat} {sc:Scope} {ρ:Rho} {Q X:AV->St->Prop} {st:St}
theorem Sg {I:InfoV} (h:sj I=true):(∀j,j<4->(I.lot j).length<=16777000)/\I.uses.length<=16777000:=by
 revert I h
 intros I h;unfold sj at h;simp -iota only[Bool.and_eq_true,decide_eq_true_eq]at h;refine⟨?_,F1 h.2.2.2.2⟩;intros j hj
 have:j=0\/j=1\/j=2\/j=3:=by exact l4 (F1 hj)
 rcases this with rfl | rfl | rfl | rfl
 ·exact F1 h.1
 ·exact F1 h.2.1
 ·exact F1 h.2.2.1
 ·exact F1 h.2.2.2.1
set_option maxHeartbeats 1000000 in
theorem Up (g:Gl B) {b:List UInt8} (hz:b.length<=16770000) (hw:w6 b ≠ .wild) (hS:∀Is,w6 b = .done Is->∀P m st',Ch [] st st'->st.length<=m->xc st' st.length P->P.map (fun x=>x.2)=Is->st'[m]?=some (.list (avs P))->Q (.ref m) st')
  (hN:∀k,w6 b = .told k->∀st',Ch [] st st'->X (.int (k:Nat)) st'):Spec B (n+5) (.ref 190) [.bytes b] st Q X:=by
 revert B n Q X st g b hz hw hS hN
 intros B n Q X st g b hz hw hS hN;refine zP g 17 rfl xX [0] ?_;refine uD xX 1 2 (zp (aN (zr (zA ⟨wD,a1 (cF g 5 rfl (zA (WU g ?_)))⟩))));intros k s1 c1 hk;refine⟨wA,_,rfl,rfl,?_⟩;have hsl:=wx 10 b;have hf1:s1[st.length]?=some (.list []):=c1.get zf (wE)
 have hs1:st.length+1<=s1.length:=by have:=c1.1;simpa using this
 refine RT xX 3 4 (cI g 11 rfl (yf ⟨fun z=>rfl,fun z=>rfl,rfl,fun z=>rfl⟩ (vv xX 0 rfl ⟨_,_,vz se jn,.bytes,a1 (zt (Xv (F1 hz) (sS zf ?_)))⟩)))
 refine⟨List UInt8×Nat,(zK 10 b).zipIdx 0,fun p=>.int (p.2:Nat),fun p=>.bytes p.1,fun rest r' s=>Ch [] st s/\Ch [st.length] (s1++[.list ((zK 10 b).map AV.bytes)]) s /\ ∃rows k0 P,rest=rows.zipIdx k0/\(∀r∈rows,r.length<=b.length)/\w6 b=xZ z4 k0 rows (P.map (fun x=>x.2)) /\
  xc s (s1.length+1) P/\s[st.length]?=some (.list (avs P))/\r'.get 1=some (.ref st.length)/\r'.get 2=some (qK k),jU AV.bytes _ 0,?_,?_,?_⟩
 ·exact⟨((Ch.push ..).trans c1).push' _,Ch.refl ..,zK 10 b,0,[],rfl,sY 10 b,rfl,.nil,zc hf1,rfl,rfl⟩
 ·intros r' s p4_;obtain⟨ch,ch1,rows,k0,P,hr,_,hP,hI,hl,g1,g2⟩:_:=p4_
  have hr0:rows=[]:=by cases rows with
   | nil=>rfl
   | cons x y=>exact nomatch hr
  subst hr0;refine⟨ch1.get zf (by simp;exact Qr (F1 hs1)),?_⟩;exact za (zq (vv xX 1 g1 (hS _ hP P _ _ ch (wC) ⟨fun p hp=>⟨(hI.all p hp).1,fun i hi=>by have:=(hI.all p hp).2 i hi;exact F2 hs1 this⟩,hI.apart⟩ rfl hl)))
 ·intros p5_ rest r' s p6_;obtain⟨row,k0⟩:_:=p5_;obtain⟨ch,ch1,rows,k9,P,hr,hrl,hP,hI,hl,g1,g2⟩:_:=p6_;refine⟨ch1.get zf (by simp;exact Qr (F1 hs1)),?_⟩
  have z1_:∃y,rows=row::y:=by cases rows with
   | nil=>exact nomatch hr
   | cons x y=>simp at hr;exact⟨y,by rw[hr.1.1]⟩
  obtain⟨rows,rfl⟩:_:=z1_;simp only[List.zipIdx_cons,List.cons.injEq,Prod.mk.injEq,true_and]at hr;obtain⟨rfl,rfl⟩:_:=hr;have hrow:=hrl row (.head _);have hrows:∀r∈rows,r.length<=b.length:=fun r hr=>hrl r (.tail _ hr)
  have hsL:s1.length+1<=s.length:=by have:=ch1.1;simpa using this
  have hk':∀{s':St} {rs:List Nat},Ch rs s s'->(∀i∈rs,s1.length+1<=i\/i=st.length)->∀j,j<3->∃ep,s'[k j]?=some (.dictB ep (z4 j)):=fun {s' rs} c hrs j hj=>by
   obtain⟨h1,ep,h2⟩:_:=hk j hj;have hlt:=zv h2;simp only[List.length_append,List.length_singleton]at h1;refine⟨ep,c.get (ch1.get (zc h2) (by simp;exact Qr (F1 h1))) ?_⟩;intros hm;exact(hrs _ hm).elim (fun q=>Nat.not_lt_of_le q (Nat.lt_succ_of_lt hlt)) fun q=>Nat.ne_of_gt h1 q
  rw[tv]at hP
  have go:∀rs',xQ z4 (P.map (fun x=>x.2)) row = .ok rs'->w6 b=xZ z4 (k0+1) rows rs':=fun rs' h=>by rw[hP,h]
  have bad:∀s',xQ z4 (P.map (fun x=>x.2)) row = .bad->Ch [] st s'->X (.int ((k0:Int)+1)) s':=by
   intros s' h c;have:=hN (k0+1) (by rw[hP,h]) s' c;simpa using this
  have notw:xQ z4 (P.map (fun x=>x.2)) row ≠ .wild:=fun h=>hw (by rw[hP,h]);refine asg xX 5 (ze (vv xX 3 (a:=.int (k0:Nat)) (rn zg rfl) (zb (zj ?_))))
  have b1:((((r'.set 3 (.int (k0:Nat))).set 4 (.bytes row)).set 5 (.int ((k0:Int)+1)))).get 1=some (.ref st.length):=by exact rn (rn (rn g1 rfl) rfl) rfl
  have b2:((((r'.set 3 (.int (k0:Nat))).set 4 (.bytes row)).set 5 (.int ((k0:Int)+1)))).get 2=some (qK k):=by exact rn (rn (rn g2 rfl) rfl) rfl
  have b4:((((r'.set 3 (.int (k0:Nat))).set 4 (.bytes row)).set 5 (.int ((k0:Int)+1)))).get 4=some (.bytes row):=by exact rn zg rfl
  have b5:((((r'.set 3 (.int (k0:Nat))).set 4 (.bytes row)).set 5 (.int ((k0:Int)+1)))).get 5=some (.int ((k0:Int)+1)):=zg;generalize (((r'.set 3 (.int (k0:Nat))).set 4 (.bytes row)).set 5 (.int ((k0:Int)+1)))=r1 at b1 b2 b4 b5;refine xx (fun r2 s₂=>r2=r1/\s₂=s /\ ¬(yS row=[]\/row.take 1=[35])) ?_ ?_
  ·refine z7 (xE (zk rfl (Z4 g (vv xX 4 b4 ⟨_,rfl,F2 hz hrow,zt (zU (bod (?_) ?_))⟩))))
   ·intros q;refine zo (zo (za (qA ?_)));exact⟨ch,ch1,rows,k0+1,P,rfl,hrows,go _ (by unfold xQ;rw[if_pos (.inl q)]),hI,hl,b1,b2⟩
   ·intros q;refine zm ?_;refine xE (zk rfl (zR (vv xX 4 b4 (zb ⟨_,rfl,yh (F2 hz hrow) (zt (zU (bod (?_) ?_)))⟩))))
    ·intros q2;refine zo (zo (za (qA ?_)));exact⟨ch,ch1,rows,k0+1,P,rfl,hrows,go _ (by unfold xQ;rw[if_pos (.inr (by rw[<-q2];exact(vP row 1).symm))]),hI,hl,b1,b2⟩
    ·intros q2;refine zm (xi (zm (zd ⟨rfl,rfl,?_⟩)))
     rintro (h | h)
     ·exact q h
     ·exact q2 (by rw[<-h];exact vP row 1)
  ·intros r2 s₂ p7_;obtain⟨rfl,rfl,hnb⟩:_:=p7_
   have hR:xQ z4 (P.map (fun x=>x.2)) row=match yZ row with
    | none=>.bad
    | some fs =>
     if tK row then
      match fs with
      | []=>.bad
      | f::fs=>match qI f with
       | none=>.bad
       | some ns=>if 1000<(P.map (fun x=>x.2)).length then .wild else (uE z4 (x7 ns) fs).bind fun I=>.ok (P.map (fun x=>x.2)++[I])
     else match (P.map (fun x=>x.2)).getLast? with
      | none=>.bad
      | some I=>(uE z4 I fs).bind fun I=>.ok ((P.map (fun x=>x.2)).dropLast++[I]):=by
    rw[xQ,if_neg hnb]<;>rfl
   refine asg xX 6 (cF g 7 rfl (a2 (vv xX 4 b4 (vv xX 5 b5 (Xs g (F2 hz hrow) (?_) fun hfs s3 c3=>bad _ (by rw[hR,hfs]) (ch.trans c3))))));intros fs hfs m s3 c3 hm3 hl3;rw[hfs]at hR;simp only at hR;obtain⟨hfl,hfn⟩:_:=Ua hfs
   have b1':(r2.set 6 (.ref m)).get 1=some (.ref st.length):=by exact rn b1 rfl
   have b2':(r2.set 6 (.ref m)).get 2=some (qK k):=by exact rn b2 rfl
   have b4':(r2.set 6 (.ref m)).get 4=some (.bytes row):=by exact rn b4 rfl
   have b5':(r2.set 6 (.ref m)).get 5=some (.int ((k0:Int)+1)):=by exact rn b5 rfl
   have b6':(r2.set 6 (.ref m)).get 6=some (.ref m):=zg;generalize (r2.set 6 (.ref m))=ρ₃ at b1' b2' b4' b5' b6';have hms:s₂.length<=m:=hm3;have ch3:=ch.trans c3;have ch13:=ch1.trans (c3.weak (rs':=[st.length]) (nn));have hI3:=hI.ch c3 (nn);have hl3':=c3.get hl (wE);have hk3:=hk' c3 (nn);have e1:cut none (some 1) row=row.take 1:=vP row 1
   refine xx (fun r4 s₄=>Ch [] st s₄/\Ch [st.length] (s1++[.list ((zK 10 b).map AV.bytes)]) s₄ /\ ∃(P0:List ((Nat->Nat)×InfoV)) (r:Nat->Nat) (I:InfoV) (fs':List (List UInt8)) (mf:Nat),xc s₄ (s1.length+1) (P0++[(r,I)])/\s₄[st.length]?=some (.list (avs P0++[zD r])) /\
    s₄[mf]?=some (.list (fs'.map AV.bytes))/\s1.length+1<=mf/\(∀i,i<6->r i≠mf)/\(∀f∈fs',f.length<=b.length)/\xQ z4 (P.map (fun x=>x.2)) row=(uE z4 I fs').bind (fun I=>.ok (P0.map (fun x=>x.2)++[I])) /\
    r4.get 1=some (.ref st.length)/\r4.get 2=some (qK k)/\r4.get 5=some (.int ((k0:Int)+1))/\r4.get 6=some (.ref mf)) ?_ ?_
   ·refine z7 (zk rfl (zR (vv xX 4 b4' (zb ⟨_,rfl,yh (F2 hz hrow) (zp (aN (zt (a1 (zt ⟨wA,kD RA (bon (?_) ?_)⟩)))))⟩))))
    ·intros q;refine zm ?_;rw[e1]at q;have hnt:¬tK row:=fun h=>h q;rw[if_neg hnt]at hR;refine za (z7 (zk rfl (vv xX 1 b1' (zr (zA ⟨wD,vA (zc hl3') zf wU (bod (?_) ?_)⟩)))))
     ·intros q2;refine zo ?_
      have hp:P=[]:=by unfold avs at q2;simpa using q2
      subst hp;exact rz g (vv xX 5 b5' (bad _ hR (ch3.push' _)))
     ·intros q2;refine zm (zd (zd ?_))
      rcases List.eq_nil_or_concat P with hp | y2_
      ·subst hp;exact absurd rfl q2
      ·obtain⟨P0,⟨r,I⟩,hp⟩:_:=y2_;rw[List.concat_eq_append]at hp;subst hp;have hlt:∀i,i<6->r i<s₂.length:=fun i hi=>(hI.all (r,I) (mm)).1.lt hi;refine⟨ch3.push' _,ch13.push' _,P0,r,I,fs,m,hI3.ch (Ch.push [] _ _) (nn),?_,zc hl3,F2 hsL hm3,fun i hi=>by have:=hlt i hi;exact Ql (F2 hm3 this),fun f hf=>Nat.le_trans (hfl f hf) hrow,?_,b1',b2',b5',b6'⟩
       ·have:=zc (t:=[.list []]) hl3';simpa[avs]using this
       ·rw[hR];simp
    ·intros q;refine zo ?_;rw[e1]at q;have hnt:tK row:=q;rw[if_pos hnt]at hR;refine za (z7 (zk rfl (vv xX 6 b6' (zr (zA ⟨wD,vA (zc hl3) zf wU (bod (?_) ?_)⟩)))))
     ·intros q2;refine zo ?_
      have hp:fs=[]:=by simpa using q2
      subst hp;exact rz g (vv xX 5 b5' (bad _ hR (ch3.push' _)))
     ·intros q2;refine zm (zd ?_)
      have z3_:∃f t,fs=f::t:=by cases fs with
       | nil=>exact absurd rfl q2
       | cons f t=>exact⟨f,t,rfl⟩
      obtain⟨f,fs,rfl⟩:_:=z3_;simp only at hR;have hff:=hfl f (.head _)
      have hflt:fs.length+1<=row.length:=by simpa using hfn
      refine app xX 1 (m:=st.length) b1' ⟨_,zc hl3'⟩ (cF g 3 rfl (a1 (cF g 16 rfl (a2 (sub (vv xX 6 b6' (zb (zH (a:=.bytes f) (zc hl3) (I6 (by exact wD)) (by rw[List.map_cons];rfl) (vv xX 5 b5' (VJ g (F3 hz hrow hff) (?_) fun hns s5 c5=>bad _ (by rw[hR,hns]) ((ch3.push' _).trans c5)))))))))));intros ns hns m5 s5 c5 hm5 h5;rw[hns]at hR;simp only at hR
      have hns1:ns.length<=16777000:=by
       unfold qI at hns
       split at hns
       ·cases hns
       ·cases hns;have:=wx 124 f;exact F4 hz hrow hff this
      refine X_ g h5 (F1 hns1) ?_;intros r s6 c6 hr hI6;have c36:Ch [] s3 s6:=((Ch.push [] _ _).trans c5).trans c6
      by_cases hbig:1000<(P.map (fun x=>x.2)).length
      ·rw[if_pos hbig]at hR;exact absurd hR notw
      rw[if_neg hbig]at hR
      have hPl:P.length<=1000:=by simpa using hbig
      have hl6:=c36.get hl3' (wE);refine⟨_,hl6,by unfold avs;simp;exact F1 hPl,?_⟩
      have hm6:(s6.set st.length (.list (avs P++[zD r])))[m]?=some (.list ((f::fs).map AV.bytes)):=by
       rw[List.getElem?_set_ne (Ql (F3 hs1 hsL hm3))];exact c36.get hl3 (wE)
      refine asg xX 6 (zR (vv xX 6 b6' (zb ⟨_,rfl,xz hm6 (by simp;exact F3 hz hrow hflt) (zd ?_)⟩)))
      have ecut:cut (some ((1:Nat):Int)) none ((f::fs).map AV.bytes)=fs.map AV.bytes:=by rw[jO];exact rfl
      have hs36:=c36.1
      have hr3:∀i,i<6->s3.length<=r i:=by
       intros i hi;have h1:=hr i hi;have h2:=c5.1;simp only[List.length_append,List.length_singleton]at h2;exact F2 h1 h2
      have cS:Ch [st.length] s6 (s6.set st.length (.list (avs P++[zD r]))):=Ch.set _ _ (.head _);have h36:=c3.1;have hI6':xc s6 (s1.length+1) (P++[(r,x7 ns)]):=xc.snoc hI3 (F2 hsL h36) (hI3.ch c36 (nn)) hI6 hr3;refine⟨(((ch3.trans c36).set' _ (.inr (wC))).push' _),(((ch13.trans (c36.weak (nn))).trans cS).push' _),P,r,x7 ns,fs,_,(hI6'.ch cS (by simp;exact F1 hs1)).ch (Ch.push [] _ _) (nn),zc (get_set (zv hl6)),?_,?_,?_,?_,?_,?_,?_,?_,zg⟩
      ·rw[show cut (some 1) none ((f::fs).map AV.bytes)=fs.map AV.bytes from ecut];exact zf
      ·simp;exact F3 hsL hs36 h36
      ·intros i hi;have:=hI6.lt hi;simp;exact Ql (F1 this)
      ·exact fun f' hf'=>Nat.le_trans (hfl f' (.tail _ hf')) hrow
      ·rw[hR]
      ·exact rn b1' rfl
      ·exact rn b2' rfl
      ·exact rn b5' rfl
   ·intros r4 s₄ p8_;obtain⟨ch4,ch14,P0,r,I,fs',mf,hI4,hl4,hmf,hmf1,hmf2,hfs',hR',d1,d2,d5,d6⟩:_:=p8_
    refine vN xX 7 (yj (vv xX 6 d6 (yg hmf ⟨List UInt8,fs',AV.bytes,fun rest r' s=>Ch [] st s/\Ch [st.length] (s1++[.list ((zK 10 b).map AV.bytes)]) s /\ ∃I,xc s (s1.length+1) (P0++[(r,I)])/\s[st.length]?=some (.list (avs P0++[zD r]))/\s[mf]?=some (.list (fs'.map AV.bytes))/\(∀f∈rest,f.length<=b.length) /\
     xQ z4 (P.map (fun x=>x.2)) row=(uE z4 I rest).bind (fun I=>.ok (P0.map (fun x=>x.2)++[I]))/\r'.get 1=some (.ref st.length)/\r'.get 2=some (qK k)/\r'.get 5=some (.int ((k0:Int)+1)),rfl,?_,?_,?_⟩)))
    ·exact⟨ch4,ch14,I,hI4,hl4,hmf,hfs',hR',d1,d2,d5⟩
    ·intros r5 s₅ p9_;obtain⟨ch5,ch15,I,hI5,hl5,hmf5,_,hR5,f1,f2,f5⟩:_:=p9_;refine⟨hmf5,zd ⟨ch5,ch15,rows,k0+1,P0++[(r,I)],rfl,hrows,go _ (by rw[hR5];simp[Rv,Res.bind]),hI5,by rw[hl5];simp[avs],f1,f2⟩⟩
    ·intros f rest r5 s₅ p10_;obtain⟨ch5,ch15,I,hI5,hl5,hmf5,hfr,hR5,f1,f2,f5⟩:_:=p10_;refine⟨hmf5,?_⟩;rw[qZ]at hR5
     by_cases hsm:sj I=true
     ·rw[if_pos hsm]at hR5;obtain⟨hz1,hz2⟩:_:=Sg hsm;have hf:=hfr f (.head _)
      have hk5:∀j,j<3->∃ep,s₅[k j]?=some (.dictB ep (z4 j)):=by
       intros j hj;obtain⟨h1,ep,h2⟩:_:=hk j hj;have hlt:=zv h2;simp only[List.length_append,List.length_singleton]at h1;exact⟨ep,ch15.get (zc h2) (by simp;exact Qr (F1 h1))⟩
      have hIr:zQ s₅ r I /\ ∀i,i<6->s1.length+1<=r i:=hI5.all (r,I) (mm);refine za (ul rfl (fun z z z=>rfl) (cF g 15 rfl (aN (sub (vv xX 1 (rn f1 rfl) (uZ (zb (vn (zH (a:=zD r) hl5 (by decide) (X7 _ _) ?_)))))))));refine aN (vv xX 7 zg (a2 (vv xX 2 (a:=qK k) (rn f2 rfl) (vv xX 5 (a:=.int ((k0:Int)+1)) (rn f5 rfl) ?_))));refine Sy g hk5 hIr.1 (F2 hz hf) hz1 hz2 (?_) (?_) ?_
      ·intros h;rw[h]at hR5;exact notw hR5
      ·intros I' hI' s6 c6 hIn;refine⟨rfl,zd ?_⟩;rw[hI']at hR5;simp only[Res.bind]at hR5;have hr0:∀i,i<6->s1.length+1<=r i:=hIr.2
       have nm:∀q,q<s1.length+1->q∉tZ r:=by
        intros q hq hm;obtain⟨j,hj,e⟩:_:=xT hm;have:=hr0 j hj;exact Z (F3 hq (Re e) this)
       refine⟨ch5.new c6 (?_),ch15.new c6 (?_),I',hI5.last c6 hIn,c6.get hl5 (nm _ (F1 hs1)),c6.get hmf5 ?_,fun f hf=>hfr f (.tail _ hf),hR5,?_,?_,?_⟩
       ·intros i hi;refine .inr ?_;obtain⟨j,hj,e⟩:_:=xT hi;have:=hr0 j hj;exact F3 hs1 (Re e) this
       ·intros i hi;refine .inr ?_;obtain⟨j,hj,e⟩:_:=xT hi;have:=hr0 j hj;simp;exact F2 (Re e) this
       ·intros hm;obtain⟨j,hj,e⟩:_:=xT hm;exact hmf2 j hj e.symm
       ·exact rn f1 rfl
       ·exact rn f2 rfl
       ·exact rn f5 rfl
      ·intros h s6 c6;rw[h]at hR5;refine bad _ hR5 (ch5.new c6 ?_);intros i hi;refine .inr ?_;obtain⟨j,hj,e⟩:_:=xT hi;have:=hIr.2 j hj;exact F3 hs1 this (Re e)
     ·rw[if_neg hsm]at hR5;exact absurd hR5 notw
end
theorem Ch.ex {a b:St} (c:Ch [] a b):∃e,b=a++e:=by
 refine⟨b.drop a.length,List.ext_getElem? fun i=>?_⟩
 by_cases hi:i<a.length
 ·rw[c.2 i hi (wE),List.getElem?_append_left hi]
 ·rw[List.getElem?_append_right (F1 (Nt hi)),List.getElem?_drop]
  congr 1;exact AS (F1 (Re (S1 (i) (List.length a) (F1 (Nt hi))))) (F1 (Le (S1 (i) (List.length a) (F1 (Nt hi)))))
theorem sd:∀(names:List (Str×NameKind)) (k:Nat) (acc:List (Str×Addr)) (x:Str),(acc.lookup x).isSome=true->((cellsFrom k names acc).lookup x).isSome=true
 | [],k,acc,x,h=>by unfold cellsFrom;exact h
 | (y,kd)::r,k,acc,x,h=>by
  unfold cellsFrom
  split
  ·refine sd r _ _ x ?_;rw[List.lookup_cons]
   split
   ·rfl
   ·exact h
  ·exact sd r _ _ x h
theorem u6 (names:List (Str×NameKind)):∀(k:Nat) (x:Str),names.lookup x=some .cell->((cellsFrom k names []).lookup x).isSome=true:=by
 have key:∀(names:List (Str×NameKind)) (k:Nat) (acc:List (Str×Addr)) (x:Str),names.lookup x=some .cell->((cellsFrom k names acc).lookup x).isSome=true:=by
  intro names
  induction names with
  | nil=>intro k acc x h;cases h
  | cons p r ih =>
   obtain⟨y,kd⟩:=p;intro k acc x h;rw[List.lookup_cons]at h;unfold cellsFrom
   cases hxy:x==y with
   | true =>
    rw[hxy]at h;cases h;rw[if_pos (by rfl)];refine sd r _ _ x ?_;rw[List.lookup_cons,hxy];rfl
   | false =>
    rw[hxy]at h
    split
    ·exact ih _ _ x h
    ·exact ih _ _ x h
 exact fun k x h=>key names k [] x h
noncomputable def w4 (o:Nat) (e:Bool):List UInt8 :=
 if o=27 then [92,69] else if o=44\/o=92\/o=94 then [92,o.toUInt8] else if o=32/\e=true then [92,115] else if o=127 then [94,63]
 else if 127<o\/o=0 then [92,(48+nou o/64).toUInt8,(48+nou o/8%8).toUInt8,(48+nou o%8).toUInt8]
 else if o<32 then [94,(o+64).toUInt8] else [o.toUInt8]
theorem YO (o:Nat) (e:Bool):(w4 o e).length<=4:=by
 revert o e
 intros o e;unfold w4
 split<;>(try split)<;>(try split)<;>(try split)<;>(try split)<;>(try split)<;>simp
section
variable {B:Base} {n:Nat} {sc:Scope} {ρ:Rho} {Q X:AV->St->Prop} {st:St}
theorem Pb {i a b c:Int}:jZ B 40 st (.int i) [.int a,.int b,.int c] (decide (i=a\/i=b\/i=c)) :=
 ⟨_,_,t4,⟨_,_,t4,(zV _ _ t4 rfl rfl),rfl⟩,dd3⟩
theorem sg {m:Nat} {st₁:St} (l:List Int) (h:st₁[m]?=some (.list (l.map AV.int))) (hr:∀n∈l,0<=n/\n<256) (hz:l.length<=16777216) {r:List UInt8} (e:vt l=r) (hQ:Q (.bytes r) st₁):w7 B (.type "bytes") [.ref m] Q st₁:=by
 subst e;exact xv h hr hz hQ
noncomputable def nSgn:List String:=["octet","is_end","value"]
theorem wW:Nms nSgn:=.of (by decide +kernel)
theorem Ul (g:Gl B) {o:Nat} {e:Bool} (ho:o<256) (h:∀st',Ch [] st st'->Q (.bytes (w4 o e)) st'):Spec B (n+1) (.ref 197) [.int (o:Nat),.bool e] st Q X:=by
 revert B n Q X st g o e ho h
 intros B n Q X st g o e ho h;have hc:=fun (t:St)=>Ch.push [] st t;have fin:∀{r:List UInt8} {s:St},Ch [] st s->r=w4 o e->Q (.bytes r) s:=fun c e=>e▸h _ c;refine zP g 18 rfl wW [0,1] ?_;refine za (z7 (zk rfl (vv wW 0 rfl (dat g 0 rfl (z6 rfl (bod (?_) ?_))))))
 ·intros q1;refine zo ?_;exact za (zq (zt (fin (Ch.refl ..) (by unfold w4;rw[if_pos (by exact AS (F1 (Le (iE q1))) (F1 (Re (iE q1))))]))))
 intros q1;refine zm (zd ?_)
 have q1':¬o=27:=by exact fun q5_=>(q1 (kE (o) (27) q5_))
 refine za (z7 (zk rfl (vv wW 0 rfl (zp (aN (dat g 1 rfl (aN (dat g 2 rfl (a1 (dat g 3 rfl ⟨by exact wA,vd Pb (bod (?_) ?_)⟩))))))))))
 ·intros q2;refine zo ?_;refine za (zq (cB g 0 rfl (a1 (zr (aN (dat g 2 rfl (a1 (vv wW 0 rfl ⟨by exact wA,sg [92,(o:Int)] zf ?_ (by exact wA) rfl (fin (hc _) ?_)⟩))))))))
  ·exact bc (by decide) (bc (b8 ho) nn)
  ·unfold w4;rw[if_neg q1',if_pos (by exact o3 q2)];exact rfl
 intros q2;refine zm (zd ?_)
 have q2':¬(o=44\/o=92\/o=94):=by exact fun q5_=>(q2 (c3 q5_))
 refine xx (fun r' s=>r'=Rho.of [0,1] [.int (o:Nat),.bool e]/\s=st /\ ¬(o=32/\e=true)) ?_ ?_
 ·refine z7 (xJ (zk rfl (vv wW 0 rfl (zb (z6 rfl (bod (?_) fun q3=>zm (zm (zd ⟨rfl,rfl,by exact fun q5_=>(q3 (kE (o) (32) q5_.1))⟩))))))));intros q3;refine zo ?_;refine xJ (xu (fun z z=>rfl) (vv wW 1 rfl (bo (?_) fun q4=>zm (zm (zd ⟨rfl,rfl,by rw[q4];exact nofun⟩)))));intros q4;refine zo (wa (zo ?_));exact za (zq (zt (fin (Ch.refl ..) (by unfold w4;rw[if_neg q1',if_neg q2',if_pos ⟨by exact AS (F1 (Le (iE q3))) (F1 (Re (iE q3))),q4⟩]))))
 intros r' s p3_;obtain⟨rfl,rfl,q3⟩:_:=p3_;refine za (z7 (zk rfl (vv wW 0 rfl (zb (z6 rfl (bod (?_) ?_))))))
 ·intros q4;refine zo ?_;exact za (zq (zt (fin (Ch.refl ..) (by unfold w4;rw[if_neg q1',if_neg q2',if_neg q3,if_pos (by exact AS (F1 (Le (iE q4))) (F1 (Re (iE q4))))]))))
 intros q4;refine zm (zd ?_)
 have q4':¬o=127:=by exact fun q5_=>(q4 (kE (o) (127) q5_))
 have big:(127<o\/o=0)->w4 o e=[92,(48+nou o/64).toUInt8,(48+nou o/8%8).toUInt8,(48+nou o%8).toUInt8]:=fun q=>by unfold w4;rw[if_neg q1',if_neg q2',if_neg q3,if_neg q4',if_pos q]
 have small:¬(127<o\/o=0)->w4 o e=if o<32 then [94,(o+64).toUInt8] else [o.toUInt8]:=fun q=>by unfold w4;rw[if_neg q1',if_neg q2',if_neg q3,if_neg q4',if_neg q]
 have nl:nou o<256:=by unfold nou;split<;>first | exact ho | decide
 refine xx (fun r' s'=>r'=Rho.of [0,1] [.int (o:Nat),.bool e]/\s'=s /\ ¬(127<o\/o=0)) ?_ ?_
 ·have body:(127<o\/o=0)->∀st₀,WSs B (zx nSgn) nSgn.length n (zT (y6 18)) st₀ (Rho.of [0,1] [.int (o:Nat),.bool e]) (fun f r' st'=>match f with
    | .next=>r'=Rho.of [0,1] [.int (o:Nat),.bool e]/\st'=s /\ ¬(127<o\/o=0)
    | f=>match f with
     | .ret a=>Q a st'
     | .next=>Q .none st'
     | .cont=>False) (fun t ρ st'=>X t st') s->True:=fun z z z=>trivial
  refine z7 (xE (zk rfl (vv wW 0 rfl (zb (z6 rfl (bod (?_) ?_))))))
  ·intros q5;refine zo (zo ?_)
   have hno:nou o=o:=by unfold nou;rw[if_pos (by exact Qr (F1 (iT q5)))]
   refine asg wW 2 (yE (zk rfl (vv wW 0 rfl (zb (z6 rfl (bon (fun q6=>by exact Z (F2 (iT q5) (Le (iE q6)))) ?_))))));intros q6;refine zo (vv wW 0 rfl ?_);refine za (zq (cB g 0 rfl (a1 (zr (aN (dat g 2 rfl (aN (ze (zb (ze (vv wW 2 rfl (zb (yx (by decide) (by decide) (zj ?_))))))))))))));refine aN (ze (zb (ze (ze (vv wW 2 rfl (zb (yx (by decide) (by decide) (zb (zB (by decide) (zj ?_))))))))));refine a1 (ze (zb (ze (vv wW 2 rfl (zb (zB (by decide) (zj ⟨by exact wA,sg [92,48+(o:Int)/64,48+(o:Int)/8%8,48+(o:Int)%8] zf ?_ (by exact wA) rfl (fin (Ch.push ..) ?_)⟩)))))))
   ·exact bc (by decide) (bc (bd (Nat.div_lt_of_lt_mul (k:=4) ho) (by decide)) (bc (bd (Nat.mod_lt _ (by decide)) (by decide)) (bc (bd (Nat.mod_lt _ (by decide)) (by decide)) nn)))
   ·rw[big (by exact .inl (F1 (iT q5))),hno]
    have e1:(48+(o:Int)/64).toNat=48+o/64:=by exact rfl
    have e2:(48+(o:Int)/8%8).toNat=48+o/8%8:=by exact rfl
    have e3:(48+(o:Int)%8).toNat=48+o%8:=by exact rfl
    exact rfl
  ·intros q5;refine zm ?_;refine xE (zk rfl (vv wW 0 rfl (zb (z6 rfl (bod (?_) fun q7=>zm (xi (zm (zd ⟨rfl,rfl,by exact fun h=>h.elim (fun h=>q5 (kT 127 o h)) fun h=>q7 (kE o 0 h)⟩))))))));intros q5;refine zo (zo ?_)
   have ho0:o=0:=by exact AS (F1 (Le (iE q5))) (by exact wD)
   subst ho0;refine asg wW 2 (yE (zk rfl (vv wW 0 rfl (zb (z6 rfl (bon (?_) fun q6=>by exact((q6 (kE (0) (0) (AS (by exact wC) (by exact wC)))):False).elim))))));intros q6;refine zm (dat g 4 rfl ?_);refine za (zq (cB g 0 rfl (a1 (zr (aN (dat g 2 rfl (aN (ze (zb (ze (vv wW 2 rfl (zb (yx (by decide) (by decide) (zj ?_))))))))))))));refine aN (ze (zb (ze (ze (vv wW 2 rfl (zb (yx (by decide) (by decide) (zb (zB (by decide) (zj ?_))))))))));refine a1 (ze (zb (ze (vv wW 2 rfl (zb (zB (by decide) (zj ⟨by exact wA,sg [92,50,48,48] zf ?_ (by exact wA) rfl (fin (Ch.push ..) ?_)⟩)))))))
   ·exact bc (by decide) (bc (by decide) (bc (by decide) (bc (by decide) nn)))
   ·rw[big (by exact .inr (AS (by exact wC) (by exact wC)))];rfl
 ·intros r' s' p4_;obtain⟨rfl,rfl,q5⟩:_:=p4_;refine za (zq (yE (zk rfl (vv wW 0 rfl (zb (z6 rfl (bod (?_) ?_)))))))
  ·intros q6;refine zo ?_;refine cB g 0 rfl (a1 (zr (aN (dat g 3 rfl (a1 (ze (vv wW 0 rfl (zb (zj ⟨by exact wA,sg [94,(o:Int)+64] zf ?_ (by exact wA) rfl (fin (Ch.push ..) ?_)⟩)))))))))
   ·exact bc (by decide) (bc (b8 (x:=o+64) (F1 (iT q6))) nn)
   ·have e1:((o:Int)+64).toNat=o+64:=by exact rfl
    rw[small q5,if_pos (by exact F1 (iT q6))];exact rfl
  ·intros q6;refine zm ?_;refine cB g 0 rfl (a1 (zr (a1 (vv wW 0 rfl ⟨by exact wB,sg [(o:Int)] zf ?_ (by exact wB) rfl (fin (Ch.push ..) ?_)⟩))))
   ·exact bc (b8 ho) nn
   ·rw[small q5,if_neg (by exact Qt (F1 (iNT q6)))];exact rfl
noncomputable def vF (b:List UInt8):List UInt8:=zC [] ((b.zipIdx 0).map fun p=>w4 p.1.toNat (decide ((p.2:Int)=0\/(p.2:Int)=b.length-1)))
noncomputable def nSoc:List String:=["octets","last","at","octet"]
theorem Xn:Nms nSoc:=.of (by kernel_rfl)
theorem sr {l:List (List UInt8)} {c:Nat} (h:∀p∈l,p.length<=c):(zC [] l).length<=l.length*c:=by
 have key:∀r:List (List UInt8),(∀p∈r,p.length<=c)->(r.flatMap (([]:List UInt8) ++ ·)).length<=r.length*c:=by
  intro r
  induction r with
  | nil=>intro _;exact wD
  | cons p r ih =>
   intro h;have h1:=h p (.head _);have h2:=ih fun q hq=>h q (.tail _ hq);rw[List.flatMap_cons,List.length_append,List.length_cons,Nat.succ_mul];simp only[List.nil_append]at h2 ⊢;exact F2 h1 h2
 cases l with
 | nil=>exact wD
 | cons p r =>
  have h1:=h p (.head _);have h2:=key r fun q hq=>h q (.tail _ hq);rw[yR,List.length_append,List.length_cons,Nat.succ_mul];exact F2 h1 h2
theorem Ys (g:Gl B) {b:List UInt8} (hz:b.length<=1000000) (h:∀st',Ch [] st st'->Q (.bytes (vF b)) st'):Spec B (n+2) (.ref 202) [.bytes b] st Q X:=by
 revert B n Q X st g b hz h
 intros B n Q X st g b hz h;refine q_ g 19 rfl Xn [0] ?_ ?_
 ·refine asg Xn 1 (ze (cB g 2 rfl (a1 (vv Xn 0 rfl (xj (F1 hz) (zb (w8 ?_)))))));refine za (zq (yf ⟨fun z=>rfl,fun z=>rfl,rfl,fun z=>rfl⟩ (zt ⟨_,_,vz t7 qt,.bytes,a1 ?_⟩)));refine yu (caps:=[1]) (t:=.tup [2,3]) Xn.inj (.of (by kernel_rfl)) (.tup (is:=[2,3]) (ps:=[_,_]) rfl) (fun i hi=>by rw[List.mem_singleton.mp hi];exact⟨_,rfl⟩) (fun z z=>rfl) (cI g 11 rfl (vv Xn 0 rfl (tI ?_)));refine ym (b.zipIdx 0) (fun p=>.tup [.int (p.2:Nat),.int (p.1.toNat:Nat)]) (fun p=>.bytes (w4 p.1.toNat (decide ((p.2:Int)=0\/(p.2:Int)=b.length-1)))) (fun z=>true) (ji b 0) (by simp;exact F1 hz) (fun z=>trivial) (?_) ?_
  ·intros p hp extra;refine⟨_,rfl,rfl,?_⟩;have hp8:=p.1.toNat_lt;refine cF g 18 rfl (a2 (vv Xn 3 rfl (XV rfl (vv Xn 2 rfl (zp (aN (zb (a1 (vv Xn 1 rfl ⟨wA,vd Qe (Ul g (hp8) ?_)⟩)))))))));intros s c;refine⟨rfl,?_⟩;exact c.ex
  ·intros junk;refine ZW (l:=(b.zipIdx 0).map fun p=>w4 p.1.toNat (decide ((p.2:Int)=0\/(p.2:Int)=b.length-1))) ?_ ?_ ?_
   ·rw[List.append_assoc];exact g0 (congrArg (fun l=>some (AO.list l)) (mf.trans (List.map_map ..).symm))
   ·have hle:∀q∈(b.zipIdx 0).map fun p=>w4 p.1.toNat (decide ((p.2:Int)=0\/(p.2:Int)=b.length-1)),q.length<=4:=by
     intros q hq;obtain⟨x,_,rfl⟩:_:=List.mem_map.mp hq;exact YO _ _
    have:=sr hle;rw[List.length_map,List.length_zipIdx]at this;exact F2 (U 4 hz) this
   ·refine h _ ?_;rw[List.append_assoc];exact Ch.push ..
 ·exact u6 _
end
inductive vD:AV->Prop
 | none:vD .none
 | bool {b}:vD (.bool b)
 | int {k:Nat}:k<10 ^ 18->vD (.int (k:Nat))
 | bytes {b:List UInt8}:b.length<=1000->vD (.bytes b)
noncomputable def xD (name:List UInt8):AV->List UInt8
 | .int i=>name++[35]++jh i.toNat
 | .bytes b=>name++[61]++vF b
 | .bool _=>name
 | _=>name++[64]
theorem tc:∀(name:List UInt8) (i:Int),xD name (AV.int i)=name++[35]++jh i.toNat:=fun a a=>rfl
theorem uO:∀(name b:List UInt8),xD name (AV.bytes b)=name++[61]++vF b:=fun a a=>rfl
theorem q9:∀(name:List UInt8) (b:Bool),xD name (AV.bool b)=name:=fun a a=>rfl
theorem YW:∀name:List UInt8,xD name AV.none=name++[64]:=fun a=>rfl
theorem Zm {b:List UInt8}:(vF b).length<=b.length*4:=by
 revert b
 intros b
 have hle:∀q∈(b.zipIdx 0).map fun p=>w4 p.1.toNat (decide ((p.2:Int)=0\/(p.2:Int)=b.length-1)),q.length<=4:=by
  intros q hq;obtain⟨x,_,rfl⟩:_:=List.mem_map.mp hq;exact YO _ _
 have:=sr hle;rw[List.length_map,List.length_zipIdx]at this;exact this
theorem Vu {m:Nat} (hm:m<10 ^ 18):(jh m).length<=18:=by
 have:=YJ 17 m hm;simp[jh,vt];exact this
set_option tactic.hygienic true in
theorem te {name:List UInt8} {v:AV} (hv:vD v):(xD name v).length<=name.length+4001:=by
 cases hv with
 | none=>simp[YW]
 | bool=>simp[q9]
 | int h =>
  have:=Vu h;simp only[tc,List.length_append,List.length_singleton];rw[Int.toNat_natCast];exact F1 this
 | bytes h =>
  rename_i b;have:=Zm (b:=b);simp only[uO,List.length_append,List.length_singleton];exact F2 (U 4 h) this
noncomputable def nFoc:List String:=["name","value"]
theorem qc:Nms nFoc:=.of (by kernel_rfl)
section
variable {B:Base} {n:Nat} {sc:Scope} {ρ:Rho} {Q X:AV->St->Prop} {st:St}
theorem sf {nm:Nat->Str} {nN:Nat} (g:Gl B) (i:Nat) {T:String} {px pos p2:Pos} {e:Expr} {x:String} (hi:yX[i]?=some (x,.type T)) (h:WE B nm nN n sc e ρ (fun a st'=>∃r,IsI st' a T r/\Q (.bool r) st') X st)
  (hk:autoParam (sc.names.lookup ("isinstance":Str)=some .globalImplicit) ak_) (hkT:autoParam (sc.names.lookup (Str.ofString x)=some .globalImplicit) ak_) (hd:autoParam ((Str.ofString x==("__debug__":Str))=false) ak_)
  (he:autoParam (∀env,starEach [e,.Name (Str.ofString x) p2] env=[(false,eval e env),(false,eval (.Name (Str.ofString x) p2) env)]) af_):WE B nm nN n sc (.Call (.Name "isinstance" px) [e,.Name (Str.ofString x) p2] [] pos) ρ Q X st :=
 UK hk (g.G 3 "isinstance" _ rfl) hkT hd (g.G i x _ hi) he h
theorem kF (g:Gl B) {name:List UInt8} {v:AV} (hv:vD v) (hz:name.length<=1000) (h:∀st',Ch [] st st'->Q (.bytes (xD name v)) st'):Spec B (n+3) (.ref 209) [.bytes name,v] st Q X:=by
 revert B n Q X st g name v hv hz h
 intros B n Q X st g name v hv hz h;refine zP g 20 rfl qc [0,1] ?_;refine za (z7 (zk rfl (vv qc 1 rfl (yt (w9 (bo (?_) ?_))))))
 ·intros q;refine zo ?_
  cases hv with
  | none=>exact za (zq (ze (vv qc 0 rfl (zt (zZ (by simp;exact F1 hz) (h _ (Ch.refl ..)))))))
  | bool=>cases q
  | int _=>cases q
  | bytes _=>cases q
 intros q;refine zm (zd ?_)
 cases hv with
 | none=>cases q
 | bool =>
  exact za (z7 (xu (fun z z=>rfl) (sf g 4 rfl (vv qc 1 rfl ⟨_,.bb,_,rfl,zo (za (zq (vv qc 0 rfl (h _ (Ch.refl ..)))))⟩))))
 | @int k hk =>
  refine za (z7 (xu (fun z z=>rfl) (sf g 4 rfl (vv qc 1 rfl ⟨_,.ib,_,rfl,zm (zd ?_)⟩))));refine za (z7 (xu (fun z z=>rfl) (sf g 5 rfl (vv qc 1 rfl ⟨_,.ii,_,rfl,zo ?_⟩))));have hd:=Vu hk;refine za (zq (ze (ze (vv qc 0 rfl (zt (zZ (by simp;exact F1 hz) (cF g 1 rfl (a1 (vv qc 1 rfl (S3 g hk ?_))))))))));intros s c;refine zZ (by simp;exact F2 hz hd) ?_;exact h _ c
 | @bytes b hb =>
  refine za (z7 (xu (fun z z=>rfl) (sf g 4 rfl (vv qc 1 rfl ⟨_,.yb,_,rfl,zm (zd ?_)⟩))));refine za (z7 (xu (fun z z=>rfl) (sf g 5 rfl (vv qc 1 rfl ⟨_,.yi,_,rfl,zm (zd ?_)⟩))));have hd:=Zm (b:=b);refine za (zq (ze (ze (vv qc 0 rfl (zt (zZ (by simp;exact F1 hz) (cF g 19 rfl (a1 (vv qc 1 rfl (Ys g (F1 hb) ?_))))))))));intros s c;refine zZ (by simp;exact F3 hz (U 4 hb) hd) ?_;exact h _ c
structure Z5 (I:InfoV):Prop where
 names:I.names.length<=50 /\ ∀x∈I.names,x.length<=1000
 lot:∀k,k<4->(I.lot k).length<64 /\ ∀p∈I.lot k,p.1.length<=1000/\vD p.2
 uses:I.uses.length<=50 /\ ∀x∈I.uses,x.length<=1000
noncomputable def vm (l:List (List UInt8×AV)) (x:List UInt8):List UInt8:=[9]++xD x ((yq l x).getD .none)++[44,10]
noncomputable def ut (x:List UInt8):List UInt8:=[9,117,115,101,61]++x++[44,10]
noncomputable def xY (I:InfoV) (ks:Nat->List (List UInt8)):Nat->List (List UInt8)
 | 0=>[]
 | j+1=>xY I ks j++(ks j).map (vm (I.lot j))
theorem VB:∀(I:InfoV) (ks:Nat->List (List UInt8)),xY I ks 0=[]:=fun a a=>rfl
theorem sy:∀(I:InfoV) (ks:Nat->List (List UInt8)) (j:Nat),xY I ks (j+1)=xY I ks j++(ks j).map (vm (I.lot j)):=fun a a a=>rfl
theorem X3 {I:InfoV} {ks ks':Nat->List (List UInt8)}:∀j,(∀k,k<j->ks k=ks' k)->xY I ks j=xY I ks' j:=by
 intro l_
 induction l_ with
 | zero =>
  intro _;exact rfl
 | succ j ih_ =>
  intro h;rw[sy,sy,ih_ fun k hk=>h k (F1 hk),h j (wC)]
noncomputable def wO (I:InfoV):List UInt8:=zC [124] I.names++[44,10]
noncomputable def y8 (I:InfoV) (ks:Nat->List (List UInt8)):List (List UInt8):=[wO I]++xY I ks 4++I.uses.map ut
noncomputable def nIoc:List String:=["info","rows","lot","name"]
theorem u8:Nms nIoc:=.of (by decide +kernel)
theorem wF {l:List (List UInt8×AV)} {x:List UInt8} (h:x∈l.map (fun x=>x.1)):∃v,yq l x=some v/\(x,v)∈l:=by
 revert l x h
 intros l x h;obtain⟨p,hp,rfl⟩:_:=List.mem_map.mp h;unfold yq
 cases hq:l.find? fun q=>decide (q.1=p.1)with
 | none =>
  rw[List.find?_eq_none]at hq;exact absurd (decide_eq_true (rfl:p.1=p.1)) (hq p hp)
 | some q =>
  refine zw q.2 rfl ?_;have h1:=List.find?_some hq;have h2:=List.mem_of_find?_eq_some hq
  have:q.1=p.1:=by exact of_decide_eq_true h1
  rw[<-this];exact h2
theorem Y_ {l:List (List UInt8)} {c:Nat} (h:∀p∈l,p.length<=c):(zC [124] l).length<=l.length*(c+1):=by
 revert l c h
 intros l c h
 cases l with
 | nil=>exact wD
 | cons p r =>
  have h1:=h p (.head _)
  have h2:(r.flatMap (([124]:List UInt8) ++ ·)).length<=r.length*(c+1):=by
   have hr:∀q∈r,q.length<=c:=fun q hq=>h q (.tail _ hq);clear h h1
   induction r with
   | nil=>exact wD
   | cons q r ih =>
    have h1:=hr q (.head _);have h2:=ih fun x hx=>hr x (.tail _ hx);rw[List.flatMap_cons,List.length_append,List.length_cons,Nat.succ_mul];simp only[List.length_append,List.length_singleton];exact F2 h1 h2
  rw[yR,List.length_append,List.length_cons,Nat.succ_mul];exact F2 h1 h2
set_option maxHeartbeats 1000000 in
theorem Yo (g:Gl B) {r:Nat->Nat} {I:InfoV} (hI:zQ st r I) (hs:Z5 I)
  (h:∀ks:Nat->List (List UInt8),(∀k,k<4->(ks k).Perm ((I.lot k).map (fun x=>x.1)))->∀st',Ch [] st st'->Q (.bytes (zC [] (y8 I ks))) st'):Spec B (n+4) (.ref 216) [zD r] st Q X:=by
 revert B n Q X st g r I hI hs h
 intros B n Q X st g r I hI hs h;refine zP g 21 rfl u8 [0] ?_;have hjn:=Y_ hs.names.2;have hjn2:I.names.length*(1000+1)<=50*1001:=Nat.mul_le_mul_right _ hs.names.1;refine asg u8 1 (zr (a1 (ze (yf ⟨fun z=>rfl,fun z=>rfl,rfl,fun z=>rfl⟩ (zt ⟨_,_,vz t7 qt,.bytes,a1 (att g 0 rfl (vv u8 0 rfl ⟨_,_,rfl,rfl,ZW hI.names (F2 hjn hjn2) (zt (zZ (by simp;exact F2 hjn hjn2) ⟨wB,?_⟩))⟩))⟩)))));refine vN u8 2 (yj (zp (aN (att g 1 rfl (vv u8 0 rfl ⟨_,_,rfl,rfl,aN (att g 2 rfl (vv u8 0 rfl ⟨_,_,rfl,rfl,aN (att g 3 rfl (vv u8 0 rfl ⟨_,_,rfl,rfl,a1 (att g 4 rfl (vv u8 0 rfl ⟨_,_,rfl,rfl,wA,sb ?_⟩))⟩))⟩))⟩)))))
 have useLe:∀x∈I.uses,(ut x).length<=50052:=by
  intros x hx;have:=hs.uses.2 x hx;simp[ut];exact F1 this
 have hdLe:(wO I).length<=50052:=by simp[wO];exact F2 hjn hjn2
 refine⟨Nat,List.range' 0 4,fun k=>.ref (r (k+1)),fun rest r' s=>Ch [] st s /\ ∃(ks:Nat->List (List UInt8)) (j:Nat),j<=4/\rest=List.range' j (4-j)/\(∀k,k<j->(ks k).Perm ((I.lot k).map (fun x=>x.1)))/\(xY I ks j).length<=j*63/\(∀x∈xY I ks j,x.length<=50052) /\
  s[st.length]?=some (.list (([wO I]++xY I ks j).map AV.bytes))/\r'.get 0=some (zD r)/\r'.get 1=some (.ref st.length),rfl,?_,?_,?_⟩
 ·exact⟨Ch.push ..,fun z=>[],0,wD,rfl,fun _ h=>(Nat.not_lt_zero _ h).elim,wC,nn,zf,rfl,rfl⟩
 ·intros r' s p7_;obtain⟨ch,ks,j,hj,hr,hks,hrl,hrz,hl,g0,g1⟩:_:=p7_;refine⟨trivial,?_⟩
  have:j=4:=by
   cases hq:4-j with
   | zero=>exact s4 hj hq
   | succ q=>rw[hq]at hr;exact nomatch hr
  subst this;have hIs:=hI.ch ch (fun z z=>wE);refine vN u8 3 (yj (att g 5 rfl (vv u8 0 g0 ⟨_,_,rfl,rfl,yg hIs.uses ⟨List UInt8,I.uses,AV.bytes,fun rest r' s'=>Ch [] st s'/\s'[r 5]?=some (.list (I.uses.map AV.bytes))/\(∃dn,I.uses=dn++rest/\s'[st.length]?=some (.list (([wO I]++xY I ks 4++dn.map ut).map AV.bytes)))/\r'.get 1=some (.ref st.length),rfl,?_,?_,?_⟩⟩)))
  ·exact⟨ch,hIs.uses,⟨[],rfl,by simpa using hl⟩,g1⟩
  ·intros r5 s₅ p8_;obtain⟨ch5,hu5,⟨dn,hdn,hl5⟩,f1⟩:_:=p8_;refine⟨hu5,?_⟩;rw[List.append_nil]at hdn;subst hdn
   have hz:(zC [] (y8 I ks)).length<=(y8 I ks).length*50052:=sr fun x hx=>by
    rcases List.mem_append.mp hx with hx | hx
    ·rcases List.mem_append.mp hx with hx | hx
     ·rw[List.mem_singleton.mp hx];exact hdLe
     ·exact hrz x hx
    ·obtain⟨y,hy,rfl⟩:_:=List.mem_map.mp hx;exact useLe y hy
   have hz2:(y8 I ks).length<=303:=by
    have:=hs.uses.1;unfold y8;simp only[List.length_append,List.length_singleton,List.length_map];exact F2 hrl this
   refine za (zq (yf ⟨fun z=>rfl,fun z=>rfl,rfl,fun z=>rfl⟩ (zt ⟨_,_,vz t7 qt,.bytes,a1 (vv u8 1 f1 (ZW hl5 ?_ (h ks hks _ ch5)))⟩)));have:(zC [] (y8 I ks)).length<=303*50052:=Nat.le_trans hz (Nat.mul_le_mul_right _ hz2);exact Nat.le_trans this (by decide)
  ·intros x rest r5 s₅ p9_;obtain⟨ch5,hu5,⟨dn,hdn,hl5⟩,f1⟩:_:=p9_;refine⟨hu5,?_⟩
   have hx:x∈I.uses:=by rw[hdn];exact mm
   have hx1:=hs.uses.2 x hx
   have hdl:dn.length<=50:=by
    have:=hs.uses.1;rw[hdn]at this;simp at this;exact F1 this
   have hr5:r 5≠st.length:=fun e=>by have:=hI.lt (i:=5) (wC);exact Z (F2 (Re e) this)
   refine app u8 1 (m:=st.length) (rn f1 rfl) ⟨_,hl5⟩ (ze (ze (zt (vv u8 3 zg (zZ (by simp;exact F1 hx1) (zt (zZ (by simp;exact F1 hx1) ⟨_,hl5,?_,zd ?_⟩)))))))
   ·simp;exact F2 (U 63 hrl) (U 63 hdl)
   ·refine⟨ch5.set' _ (.inr (wC)),by rw[List.getElem?_set_ne (fun q5_=>(hr5 q5_.symm))];exact hu5,⟨dn++[x],by rw[hdn];exact mc,?_⟩,rn f1 rfl⟩;rw[get_set (zv hl5)];simp[ut]
 ·intros k rest r' s p10_;obtain⟨ch,ks,j,hj,hr,hks,hrl,hrz,hl,g0,g1⟩:_:=p10_;refine⟨trivial,?_⟩
  have hj4:j<4:=by
   cases hq:4-j with
   | zero=>rw[hq]at hr;exact nomatch hr
   | succ q=>exact s5 hq
  obtain⟨e1,e2⟩:k=j/\rest=List.range' (j+1) (4-(j+1)):=by
   rw[show 4-j=(4-(j+1))+1 from by exact s1 hj4,List.range'_succ]at hr
   injection hr with h1 h2
   exact⟨h1,h2⟩
  subst e1 e2;have hIs:=hI.ch ch (fun z z=>wE);obtain⟨ep,hlot⟩:_:=hIs.lot k hj4;obtain⟨hs1,hs2⟩:_:=hs.lot k hj4
  have hrk:r (k+1)≠st.length:=fun e=>by have:=hI.lt (i:=k+1) (F1 hj4);exact Z (F2 (Re e) this)
  refine vN u8 3 (yj (cB g 9 rfl (a1 (vv u8 2 zg (VV g.hB hlot hs1 ?_)))));intros kk hkk;refine yg zf ?_
  have hkl:kk.length<64:=by have:=hkk.length_eq;simp at this;exact F2 hs1 (Le this)
  have hsl:=zv hl
  have kkLe:∀x∈kk,∃v,yq (I.lot k) x=some v/\x.length<=1000/\vD v:=by
   intros x hx;obtain⟨v,hv,hm⟩:_:=wF (hkk.mem_iff.mp hx);exact⟨v,hv,(hs2 _ hm).1,(hs2 _ hm).2⟩
  have rowLe:∀x∈kk,(vm (I.lot k) x).length<=50052:=by
   intros x hx;obtain⟨v,hv,h1,h2⟩:_:=kkLe x hx;have:=te (name:=x) h2;unfold vm;rw[hv];simp;exact F2 h1 this
  refine⟨List UInt8,kk,AV.bytes,fun rest' r'' s'=>Ch [] st s'/\s'[s.length]?=some (.list (kk.map AV.bytes))/\(∃dn,kk=dn++rest'/\s'[st.length]?=some (.list (([wO I]++xY I ks k++dn.map (vm (I.lot k))).map AV.bytes)))/\r''.get 0=some (zD r)/\r''.get 1=some (.ref st.length)/\r''.get 2=some (.ref (r (k+1))),rfl,?_,?_,?_⟩
  ·exact⟨ch.push' _,zf,⟨[],rfl,by simpa using zc hl⟩,rn g0 rfl,rn g1 rfl,zg⟩
  ·intros r5 s₅ p11_;obtain⟨ch5,hu5,⟨dn,hdn,hl5⟩,f0,f1,f2⟩:_:=p11_;refine⟨hu5,zd ?_⟩;rw[List.append_nil]at hdn;subst hdn;have e0:xY I (fun i=>if i=k then kk else ks i) k=xY I ks k:=X3 k fun i hi=>if_neg (Ql (F1 hi))
   have e1:xY I (fun i=>if i=k then kk else ks i) (k+1)=xY I ks k++kk.map (vm (I.lot k)):=by rw[sy,e0,if_pos rfl]
   refine⟨ch5,fun i=>if i=k then kk else ks i,k+1,F1 hj4,rfl,?_,?_,?_,?_,f0,f1⟩
   ·intros i hi;show (if i=k then kk else ks i).Perm _
    by_cases hik:i=k
    ·subst hik;simpa using hkk
    ·rw[if_neg hik];exact hks i (F1 (nl (F1 hi) hik))
   ·rw[e1];simp;exact F2 hrl hkl
   ·rw[e1];intros x hx
    rcases List.mem_append.mp hx with hx | hx
    ·exact hrz x hx
    ·obtain⟨y,hy,rfl⟩:_:=List.mem_map.mp hx;exact rowLe y hy
   ·rw[e1,hl5];exact rfl
  ·intros x rest r5 s₅ p12_;obtain⟨ch5,hu5,⟨dn,hdn,hl5⟩,f0,f1,f2⟩:_:=p12_;refine⟨hu5,?_⟩
   have hx:x∈kk:=by rw[hdn];exact mm
   obtain⟨v,hv,hx1,hv1⟩:_:=kkLe x hx
   have hdl:dn.length<64:=by
    rw[hdn]at hkl;simp at hkl;exact F1 hkl
   obtain⟨ep5,hlot5⟩:_:=(hI.ch ch5 (fun z z=>wE)).lot k hj4;have hfl:=te (name:=x) hv1;refine app u8 1 (m:=st.length) (rn f1 rfl) ⟨_,hl5⟩ (ze (ze (zt (cF g 20 rfl (a2 (vv u8 3 zg (sub (vv u8 2 (a:=.ref (r (k+1))) (rn f2 rfl) (vv u8 3 zg (z5 (dkB B) hlot5 hv (kF g hv1 hx1 ?_)))))))))) );intros s6 c6;refine zZ (by simp;exact F2 hx1 hfl) (zt (zZ (by simp;exact F2 hx1 hfl) ⟨_,c6.get hl5 (wE),?_,zd ?_⟩))
   ·simp;exact F3 hrl (U 63 hj4) hdl
   ·refine⟨(ch5.trans c6).set' _ (.inr (wC)),?_,⟨dn++[x],by rw[hdn];exact mc,?_⟩,rn f0 rfl,rn f1 rfl,rn f2 rfl⟩
    ·rw[List.getElem?_set_ne (Ql (F1 hsl))];exact c6.get hu5 (wE)
    ·rw[get_set (zv (c6.get hl5 (wE)))];simp[vm,hv]
end
noncomputable def zL (l:List (List UInt8)):List (List UInt8):=if l.length=1 then l else l.dropLast
theorem YU {α:Type} (l:List α):cut none (some (-1)) l=l.dropLast:=by
 unfold cut;simp only[Option.elim,List.drop_zero,Nat.sub_zero];rw[List.dropLast_eq_take]
 congr 1
 unfold clipAt;rw[if_pos (by decide)]
 cases l with
 | nil=>rfl
 | cons a r =>
  show (max 0 (min ((-1:Int)+((r.length:Int)+1)) ((r.length:Int)+1))).toNat=r.length;rw[Int.add_comm (r.length:Int),Int.neg_add_cancel_left,Int.min_eq_left (Int.le_add_of_nonneg_left (by decide)),Int.max_eq_right (Int.natCast_nonneg _)];rfl
noncomputable def nNmd:List String:=["infos","name","info"]
theorem kC:Nms nNmd:=.of (by kernel_rfl)
section
variable {B:Base} {n:Nat} {sc:Scope} {ρ:Rho} {Q X:AV->St->Prop} {st:St}
theorem Yt {x:List UInt8}:∀{l:List (List UInt8)},jZ B 40 st (.bytes x) (l.map AV.bytes) (decide (x∈l)):=by
 intro l_
 induction l_ with
 | nil =>
  exact rfl
 | cons a r ih_ =>
  exact zV _ _ vZ ih_ (by by_cases h:a=x<;>by_cases h2:x∈r<;>simp[h,h2,eq_comm]<;>(try (intro e;exact h e.symm))<;>(try (intro e;exact absurd e.symm h)))
theorem Wk (g:Gl B) {m lo:Nat} {P:List ((Nat->Nat)×InfoV)} {name:List UInt8} (hm:st[m]?=some (.list (avs P))) (hP:xc st lo P) (hz:∀p∈P,p.2.names.length<=1000)
  (hS:∀p,P.find? (fun p=>decide (name∈zL p.2.names))=some p->∀st',Ch [] st st'->Q (zD p.1) st') (hN:P.find? (fun p=>decide (name∈zL p.2.names))=none->∀st',Ch [] st st'->X (.bytes name) st') :
  Spec B (n+1) (.ref 223) [.ref m,.bytes name] st Q X:=by
 revert B n Q X st g m lo P name hm hP hz hS hN
 intros B n Q X st g m lo P name hm hP hz hS hN;refine zP g 22 rfl kC [0,1] ?_;refine vN kC 2 (yj (vv kC 0 rfl (yg hm ⟨(Nat->Nat)×InfoV,P,fun p=>zD p.1,fun rest r' s=>Ch [] st s/\P.find? (fun p=>decide (name∈zL p.2.names))=rest.find? (fun p=>decide (name∈zL p.2.names))/\(∀p∈rest,p∈P)/\r'.get 1=some (.bytes name),rfl,?_,?_,?_⟩)))
 ·exact⟨Ch.refl ..,rfl,fun p h=>h,rfl⟩
 ·intros r' s p7_;obtain⟨ch,hf,_,g1⟩:_:=p7_;exact⟨ch.get hm (wE),rz g (vv kC 1 g1 (hN (by rw[hf];rfl) _ ch))⟩
 ·intros p rest r' s p8_;obtain⟨ch,hf,hr,g1⟩:_:=p8_;refine⟨ch.get hm (wE),?_⟩;have hp:=hr p (.head _);have hI:=(hP.all p hp).1.ch ch (fun z z=>wE);have hzp:=hz p hp
  have g1':(r'.set 2 (zD p.1)).get 1=some (.bytes name):=by exact rn g1 rfl
  have yes:∀s',Ch [] st s'->name∈zL p.2.names->Q (zD p.1) s':=fun s' c h=>hS p (by rw[hf,List.find?_cons];simp[h]) _ c
  have no:¬name∈zL p.2.names->P.find? (fun p=>decide (name∈zL p.2.names))=rest.find? (fun p=>decide (name∈zL p.2.names)):=fun h=>by rw[hf,List.find?_cons];simp[h]
  refine za (z7 (zk rfl (vv kC 1 g1' (yE (zk rfl (cB g 2 rfl (a1 (att g 0 rfl (vv kC 2 zg ⟨_,_,rfl,rfl,vH hI.names (by simp;exact F1 hzp) (zb (z6 rfl (bod (?_) ?_)))⟩)))))))))
  ·intros q;refine zo ?_;have e:zL p.2.names=p.2.names:=if_pos (by simp only[List.length_map]at q;exact AS (F1 (Le (iE q))) (F1 (Re (iE q))));rw[e]at yes no;refine att g 0 rfl (vv kC 2 zg ⟨_,_,rfl,rfl,x9 hI.names Yt (bod (?_) ?_)⟩)
   ·intros q;refine zo ?_;exact za (zq (vv kC 2 zg (yes _ ch q)))
   ·intros q;refine zm (zd (zd ?_));exact⟨ch,no q,fun p h=>hr p (.tail _ h),g1'⟩
  ·intros q;refine zm ?_;have e:zL p.2.names=p.2.names.dropLast:=if_neg (by simp only[List.length_map]at q;exact fun q5_=>(q (kE (p.snd.names.length) (1) q5_)));rw[e]at yes no;refine zR (att g 0 rfl (vv kC 2 zg ⟨_,_,rfl,rfl,uZ (zb (vn ⟨_,rfl,xz hI.names (by simp;exact F1 hzp) ?_⟩))⟩))
   have ec:cut none (some (-1)) (p.2.names.map AV.bytes)=p.2.names.dropLast.map AV.bytes:=by rw[YU,List.map_dropLast]
   rw[ec];refine x9 zf Yt (bod (?_) ?_)
   ·intros q;refine zo ?_;exact za (zq (vv kC 2 zg (yes _ (ch.push' _) q)))
   ·intros q;refine zm (zd (zd ?_));exact⟨ch.push' _,no q,fun p h=>hr p (.tail _ h),g1'⟩
noncomputable def yF (l more:List (List UInt8×AV)):List (List UInt8×AV):=(more.map (fun x=>x.1)).foldl (fun acc x=>if (yq acc x).isSome=true then acc else yL acc x ((yq more x).getD .none)) l
noncomputable def nMer:List String:=["info","other","pairs","lot","more","name"]
theorem vT:Nms nMer:=.of (by kernel_rfl)
theorem XO (g:Gl B) {r r':Nat->Nat} {I J:InfoV} (hI:zQ st r I) (hJ:zQ st r' J) (hap:∀i j,i<6->j<6->r i≠r' j) (hz:∀k,k<4->(I.lot k).length+(J.lot k).length<=16777000)
  (h:∀st',Ch (tZ r) st st'->zQ st' r { I with lot:=fun k=>yF (I.lot k) (J.lot k) }->Q .none st'):Spec B (n+1) (.ref 230) [zD r,zD r'] st Q X:=by
 revert B n Q X st g r r' I J hI hJ hap hz h
 intros B n Q X st g r r' I J hI hJ hap hz h;refine zP g 23 rfl vT [0,1] ?_;refine asg vT 2 (zr (aN (zp (aN (att g 1 rfl (vv vT 0 rfl ⟨_,_,rfl,rfl,a1 (att g 1 rfl (vv vT 1 rfl ⟨_,_,rfl,rfl,wA,?_⟩))⟩))))));refine aN (zp (aN (att g 2 rfl (vv vT 0 rfl ⟨_,_,rfl,rfl,a1 (att g 2 rfl (vv vT 1 rfl ⟨_,_,rfl,rfl,wA,?_⟩))⟩))));refine a1 (zp (aN (att g 3 rfl (vv vT 0 rfl ⟨_,_,rfl,rfl,a1 (att g 3 rfl (vv vT 1 rfl ⟨_,_,rfl,rfl,wA,wA,?_⟩))⟩))));refine RT vT 3 4 (yj (ze (vv vT 2 rfl (zr (a1 (zp (aN (att g 4 rfl (vv vT 0 rfl ⟨_,_,rfl,rfl,a1 (att g 4 rfl (vv vT 1 rfl ⟨_,_,rfl,rfl,wA,wB,yA (zc zf) zf (wA) (yg zf ?_)⟩))⟩)))))))));generalize hst:((st++[AO.list [.tup [.ref (r 1),.ref (r' 1)],.tup [.ref (r 2),.ref (r' 2)],.tup [.ref (r 3),.ref (r' 3)]]])++[.list [.tup [.ref (r 4),.ref (r' 4)]]])=s0
 have c0:Ch [] st s0:=by subst hst;exact(Ch.push ..).push' _
 have hI0:=(hI.ch c0 (fun z z=>wE));have hJ0:=(hJ.ch c0 (fun z z=>wE));refine⟨Nat,List.range' 0 4,fun k=>.ref (r (k+1)),fun k=>.ref (r' (k+1)),fun rest ρ' s=>Ch (tZ r) st s/\s[s0.length]?=some (.list ((List.range' 0 4).map fun k=>.tup [.ref (r (k+1)),.ref (r' (k+1))])) /\ ∃j,j<=4/\rest=List.range' j (4-j)/\zQ s r { I with lot:=fun k=>if k<j then yF (I.lot k) (J.lot k) else I.lot k }/\zQ s r' J,rfl,?_,?_,?_⟩
 ·exact⟨(c0.push' _).weak (nn),zf,0,wD,rfl,by simpa using hI0.ch (Ch.push [] _ _) (fun z z=>wE),hJ0.ch (Ch.push [] _ _) (fun z z=>wE)⟩
 ·intros ρ' s p9_;obtain⟨ch,hl,j,hj,hr,hIs,hJs⟩:_:=p9_;refine⟨hl,?_⟩
  have:j=4:=by
   cases hq:4-j with
   | zero=>exact s4 hj hq
   | succ q=>rw[hq]at hr;exact nomatch hr
  subst this;refine zd (h s ch ⟨hIs.names,?_,hIs.uses,hIs.inj⟩);intros k hk;obtain⟨ep,e⟩:_:=hIs.lot k hk;exact⟨ep,by simpa[hk]using e⟩
 ·intros k rest ρ' s p10_;obtain⟨ch,hl,j,hj,hr,hIs,hJs⟩:_:=p10_;refine⟨hl,?_⟩
  have hj4:j<4:=by
   cases hq:4-j with
   | zero=>rw[hq]at hr;exact nomatch hr
   | succ q=>exact s5 hq
  obtain⟨e1,e2⟩:k=j/\rest=List.range' (j+1) (4-(j+1)):=by
   rw[show 4-j=(4-(j+1))+1 from by exact s1 hj4,List.range'_succ]at hr
   injection hr with h1 h2
   exact⟨h1,h2⟩
  subst e1 e2;obtain⟨epJ,hJl⟩:_:=hJs.lot k hj4;obtain⟨epI,hIl⟩:_:=hIs.lot k hj4;simp only[Nat.lt_irrefl,if_false]at hIl;have hz4:=hz k hj4
  have hs0:s0.length∉tZ r:=by
   intros hm;obtain⟨i,hi,e⟩:_:=xT hm;have:=hI0.lt hi;exact Z (F2 (Le e) this)
  have hrn:r (k+1)≠r' (k+1):=hap _ _ (F1 hj4) (F1 hj4)
  refine vN vT 5 (yj (vv vT 4 zg (ZH g.hB hJl ⟨List UInt8,(J.lot k).map (fun x=>x.1),AV.bytes,fun rest r'' s'=>Ch (tZ r) st s'/\s'[s0.length]?=some (.list ((List.range' 0 4).map fun k=>.tup [.ref (r (k+1)),.ref (r' (k+1))]))/\(∀x∈rest,x∈(J.lot k).map (fun x=>x.1))/\s'[r' (k+1)]?=some (.dictB epJ (J.lot k))/\zQ s' r' J /\
   (∃acc,acc.length+rest.length<=16777000/\zQ s' r { I with lot:=fun i=>if i<k then yF (I.lot i) (J.lot i) else if i=k then acc else I.lot i }/\yF (I.lot k) (J.lot k)=rest.foldl (fun acc x=>if (yq acc x).isSome=true then acc else yL acc x ((yq (J.lot k) x).getD .none)) acc) /\
   r''.get 3=some (.ref (r (k+1)))/\r''.get 4=some (.ref (r' (k+1))),by rw[List.map_map];rfl,?_,?_,?_⟩)))
  ·refine⟨ch,hl,fun x h=>h,hJl,hJs,⟨I.lot k,by simpa using hz4,?_,rfl⟩,rn zg rfl,zg⟩;refine⟨hIs.names,?_,hIs.uses,hIs.inj⟩;intros i hi;obtain⟨ep,e⟩:_:=hIs.lot i hi;refine⟨ep,?_⟩;rw[e]
   by_cases h1:i<k
   ·simp[h1]
   ·by_cases h2:i=k
    ·subst h2;simp
    ·simp[h1,h2]
  ·intros r5 s₅ p11_;obtain⟨ch5,hl5,_,hJl5,hJ5,⟨acc,_,hI5,hacc⟩,g3,g4⟩:_:=p11_;refine⟨hJl5,zd ⟨ch5,hl5,k+1,F1 hj4,rfl,⟨hI5.names,?_,hI5.uses,hI5.inj⟩,hJ5⟩⟩;intros i hi;obtain⟨ep,e⟩:_:=hI5.lot i hi;refine⟨ep,?_⟩;rw[e]
   by_cases h1:i<k
   ·simp[h1,Nat.lt_succ_of_lt h1]
   ·by_cases h2:i=k
    ·subst h2;simp[hacc]
    ·simp[h1,h2];exact fun q5_=>(Z (F2 (nl (F1 q5_) h2) (Nt h1)))
  ·intros x rest r5 s₅ p12_;obtain⟨ch5,hl5,hxs,hJl5,hJ5,⟨acc,hal,hI5,hacc⟩,g3,g4⟩:_:=p12_;refine⟨hJl5,?_⟩;obtain⟨v,hv,_⟩:_:=wF (hxs x (.head _));obtain⟨ep5,hlot⟩:_:=hI5.lot k hj4;simp only[Nat.lt_irrefl,if_false,if_true]at hlot
   have g3':(r5.set 5 (.bytes x)).get 3=some (.ref (r (k+1))):=by exact rn g3 rfl
   have g4':(r5.set 5 (.bytes x)).get 4=some (.ref (r' (k+1))):=by exact rn g4 rfl
   rw[List.foldl_cons]at hacc;simp only[List.length_cons]at hal;have hdl:=xC acc x v;refine za (z7 (zk rfl (vv vT 5 zg (vv vT 3 g3' (xd (dkB B) g.hB hlot (bo (?_) ?_))))))
   ·intros q;refine zo ?_
    have q':¬(yq acc x).isSome=true:=by simpa using q
    rw[if_neg q',hv]at hacc;refine za (wh (fun z z z=>rfl) (sub (vv vT 4 g4' (vv vT 5 zg (z5 (dkB B) hJl5 hv (vv vT 3 g3' (vv vT 5 zg (uc (dkB B) hlot (F1 hal) ?_))))))));intros ep6;refine zd (zd ?_);have cS:Ch (tZ r) s₅ (s₅.set (r (k+1)) (.dictB ep6 (yL acc x v))):=Ch.set _ _ (jo (F1 hj4))
    have njr:∀i,i<6->r' i∉tZ r:=by
     intros i hi hm;obtain⟨j,hj,e⟩:_:=xT hm;exact hap j i hj hi e.symm
    have hset:=hI5.setLot hj4 ep6 (yL acc x v);refine⟨ch5.trans cS,cS.get hl5 hs0,fun y hy=>hxs y (.tail _ hy),cS.get hJl5 (njr _ (F1 hj4)),hJ5.ch cS njr,⟨yL acc x v,F2 hal hdl,⟨hset.names,?_,hset.uses,hset.inj⟩,hacc⟩,g3',g4'⟩;intros i hi;obtain⟨ep,e⟩:_:=hset.lot i hi;refine⟨ep,?_⟩;rw[show (dkB B).ao ep6 (yL acc x v) = .dictB ep6 (yL acc x v) from rfl,e];simp only[InfoV.setLot]
    by_cases h2:i=k
    ·subst h2;simp
    ·simp[h2]
   ·intros q;refine zm (zd (zd ?_))
    have q':(yq acc x).isSome=true:=by simpa using q
    rw[if_pos q']at hacc;exact⟨ch5,hl5,fun y hy=>hxs y (.tail _ hy),hJl5,hJ5,⟨acc,F1 hal,hI5,hacc⟩,g3',g4'⟩
end
noncomputable def yI (l:List (List UInt8×AV)) (x:List UInt8):AV:=(yq l x).getD .none
noncomputable def ur (l:List (List UInt8×AV)):List (List UInt8):=(l.map (fun x=>x.1)).filter fun x=>!yT (yI l x)
noncomputable def w_ (l:List (List UInt8×AV)):List (List UInt8×AV):=yy [] ((ur l).map fun x=>(x,yI l x))
noncomputable def nPlain:List String:=["info","lots","lot","name"]
theorem yK:Nms nPlain:=.of (by decide +kernel)
theorem Ts {K:Type} [DecidableEq K]:∀(more kvs:List (K×AV)),(yy kvs more).length<=kvs.length+more.length:=by
 intro l_
 induction l_ with
 | nil =>
  intro _;exact wC
 | cons p r ih_ =>
  intro kvs;have h1:=ih_ (yL kvs p.1 p.2);have h2:=xC kvs p.1 p.2;simp only[yy,List.foldl_cons,List.length_cons]at h1 ⊢;exact F2 h1 h2
theorem Za (l:List (List UInt8×AV)):(w_ l).length<=l.length:=by
 have h1:=Ts ((ur l).map fun x=>(x,yI l x)) ([]:List (List UInt8×AV));have h2:=List.length_filter_le (fun x=>!yT (yI l x)) (l.map (fun x=>x.1));simp only[List.length_nil,List.length_map]at h1 h2;unfold w_ ur at *;exact F2 h1 h2
section
variable {B:Base} {n:Nat} {sc:Scope} {ρ:Rho} {Q X:AV->St->Prop} {st:St}
theorem We (g:Gl B) {r:Nat->Nat} {I:InfoV} (hI:zQ st r I) (hz:∀k,k<4->(I.lot k).length<=16777000) (hnz:I.names.length<=16777000)
  (h:∀r' st',Ch [] st st'->(∀i,i<6->st.length<=r' i)->zQ st' r' ⟨I.names,fun k=>w_ (I.lot k),[]⟩->Q (zD r') st'):Spec B (n+2) (.ref 235) [zD r] st Q X:=by
 revert B n Q X st g r I hI hz hnz h
 intros B n Q X st g r I hI hz hnz h;refine q_ g 24 rfl yK [0] ?_ (u6 _);refine asg yK 1 (zr (zA ⟨wD,?_⟩));refine vN yK 2 (yj (zp (aN (att g 1 rfl (vv yK 0 rfl ⟨_,_,rfl,rfl,aN (att g 2 rfl (vv yK 0 rfl ⟨_,_,rfl,rfl,aN (att g 3 rfl (vv yK 0 rfl ⟨_,_,rfl,rfl,a1 (att g 4 rfl (vv yK 0 rfl ⟨_,_,rfl,rfl,wA,sb ?_⟩))⟩))⟩))⟩)))))
 refine⟨Nat,List.range' 0 4,fun k=>.ref (r (k+1)),fun rest ρ' s=>Ch [] st s/\(∃(d:Nat->Nat) (j:Nat),j<=4/\rest=List.range' j (4-j)/\s[st.length]?=some (.list ((List.range' 0 j).map fun k=>.ref (d k))) /\ ∀k,k<j->st.length<d k /\ ∃ep,s[d k]?=some (.dictB ep (w_ (I.lot k)))) /\
  ρ'.get 0=some (zD r)/\ρ'.get 1=some (.ref st.length),rfl,?_,?_,?_⟩
 ·exact⟨Ch.push ..,⟨fun z=>0,0,wD,rfl,zf,fun _ h=>(Nat.not_lt_zero _ h).elim⟩,rfl,rfl⟩
 ·intros ρ' s p3_;obtain⟨ch,⟨d,j,hj,hr,hl,hd⟩,g0,g1⟩:_:=p3_;refine⟨trivial,?_⟩
  have:j=4:=by
   cases hq:4-j with
   | zero=>exact s4 hj hq
   | succ q=>rw[hq]at hr;exact nomatch hr
  subst this;have hIs:=hI.ch ch (fun z z=>wE);refine za (zq (RL g (aN (att g 0 rfl (vv yK 0 g0 ⟨_,_,rfl,rfl,aN (sub (vv yK 1 g1 (zb (zH (a:=.ref (d 0)) hl (I6 (by exact wD)) rfl ?_))))⟩)))));refine aN (sub (vv yK 1 g1 (zb (zH (a:=.ref (d 1)) hl (I6 (by exact wB)) rfl ?_))));refine aN (sub (vv yK 1 g1 (zb (zH (a:=.ref (d 2)) hl (I6 (by exact wA)) rfl ?_))));refine a1 (sub (vv yK 1 g1 (zb (zH (a:=.ref (d 3)) hl (I6 (by exact wA)) rfl ?_))));refine qe g hIs.names (fun k hk=>(hd k hk).2) (F1 hnz) (fun k hk=>by have:=hz k hk;have:=Za (I.lot k);exact F2 this ‹(I.lot k).length<=16777000›) fun r' st' c hr' hI'=>h r' st' (ch.trans c) (fun i hi=>Nat.le_trans ch.1 (hr' i hi)) hI'
 ·intros k rest ρ' s p4_;obtain⟨ch,⟨d,j,hj,hr,hl,hd⟩,g0,g1⟩:_:=p4_;refine⟨trivial,?_⟩
  have hj4:j<4:=by
   cases hq:4-j with
   | zero=>rw[hq]at hr;exact nomatch hr
   | succ q=>exact s5 hq
  obtain⟨e1,e2⟩:k=j/\rest=List.range' (j+1) (4-(j+1)):=by
   rw[show 4-j=(4-(j+1))+1 from by exact s1 hj4,List.range'_succ]at hr
   injection hr with h1 h2
   exact⟨h1,h2⟩
  subst e1 e2;obtain⟨ep,hlot⟩:_:=(hI.ch ch (fun z z=>wE)).lot k hj4;have hzk:=hz k hj4
  have g1':(ρ'.set 2 (.ref (r (k+1)))).get 1=some (.ref st.length):=by exact rn g1 rfl
  refine app yK 1 g1' ⟨_,hl⟩ (cB g 8 rfl (a1 ?_));refine yu (caps:=[2]) (t:=.one 3) yK.inj (.of (by kernel_rfl)) (.one (i:=3)) (fun i hi=>by rw[List.mem_singleton.mp hi];exact⟨_,zg⟩) (fun z z=>rfl) (yj (vv yK 2 zg (ZH g.hB hlot ?_)))
  have g2:(Rho.only [2] (ρ'.set 2 (.ref (r (k+1))))).get 2=some (.ref (r (k+1))):=by
   unfold Rho.only;simp only[List.filterMap_cons,List.filterMap_nil,zg]
   rfl
  generalize Rho.only [2] (ρ'.set 2 (.ref (r (k+1))))=r0 at g2;refine ym ((I.lot k).map (fun x=>x.1)) AV.bytes (fun x=>.tup [.bytes x,yI (I.lot k) x]) (fun x=>!yT (yI (I.lot k) x)) (by rw[List.map_map];rfl) (by simp;exact F1 hzk) (fun extra=>zc hlot) (?_) ?_
  ·intros x hx extra;refine⟨_,rfl,?_⟩;obtain⟨v,hv,_⟩:_:=wF hx
   have hvo:yI (I.lot k) x=v:=by unfold yI;rw[hv];rfl
   have g2':(r0.set 3 (.bytes x)).get 2=some (.ref (r (k+1))):=by exact rn g2 rfl
   rw[hvo];refine zk rfl (sub (vv yK 2 g2' (vv yK 3 zg (z5 (dkB B) (zc hlot) hv (yt (xO (bo (?_) ?_)))))))
   ·intros q;simp only[if_true];exact⟨q,zp (aN (vv yK 3 zg (a1 (sub (vv yK 2 g2' (vv yK 3 zg (z5 (dkB B) (zc hlot) hv ⟨wA,rfl,[],(List.append_nil _).symm⟩)))))))⟩
   ·intros q;simp only[Bool.false_eq_true,if_false];exact⟨q,[],(List.append_nil _).symm⟩
  ·intros junk
   have hkz:(ur (I.lot k)).length<=(I.lot k).length:=by
    have:=List.length_filter_le (fun x=>!yT (yI (I.lot k) x)) ((I.lot k).map (fun x=>x.1));simpa[ur]using this
   refine wz (dkB B) (kvs:=(ur (I.lot k)).map fun x=>(x,yI (I.lot k) x)) (m:=s.length) ?_ (by simp;exact F2 hzk hkz) ?_
   ·rw[List.append_assoc];simp[ur,dkB]
   ·intros ep2;have hl2:(s++[AO.list (((I.lot k).map (fun x=>x.1)).filter (fun x=>!yT (yI (I.lot k) x)) |>.map fun x=>.tup [.bytes x,yI (I.lot k) x])]++junk++[(dkB B).ao ep2 (yy [] ((ur (I.lot k)).map fun x=>(x,yI (I.lot k) x)))])[st.length]?=some (.list ((List.range' 0 k).map fun k=>.ref (d k))):=zc (zc (zc hl));refine⟨_,hl2,by simp;exact F1 hj4,zd ?_⟩;have hsl:=zv hl;refine⟨?_,⟨fun i=>if i=k then (s++[AO.list (((I.lot k).map (fun x=>x.1)).filter (fun x=>!yT (yI (I.lot k) x)) |>.map fun x=>.tup [.bytes x,yI (I.lot k) x])]++junk).length else d i,k+1,F1 hj4,rfl,?_,?_⟩,rn g0 rfl,g1'⟩
    ·exact(((ch.push' _).push' _).push' _).set' _ (.inr (wC))
    ·rw[get_set (zv hl2),List.range'_1_concat,List.map_append]
     have e:(List.range' 0 k).map (fun i=>AV.ref (d i))=(List.range' 0 k).map (fun i=>AV.ref (if i=k then (s++[AO.list (((I.lot k).map (fun x=>x.1)).filter (fun x=>!yT (yI (I.lot k) x)) |>.map fun x=>.tup [.bytes x,yI (I.lot k) x])]++junk).length else d i)):=by
      refine List.map_congr_left ?_;intros i hi;rw[List.mem_range'_1]at hi;rw[if_neg (Ql (F1 hi.2))]
     rw[e];simp
    ·intros i hi;dsimp only
     by_cases hik:i=k
     ·subst hik;rw[if_pos rfl];refine⟨by simp;exact F1 hsl,ep2,?_⟩;rw[List.getElem?_set_ne (by simp;exact Ql (F1 hsl))];exact zf
     ·rw[if_neg hik];obtain⟨h1,ep3,h2⟩:_:=hd i (F1 (nl (F1 hi) hik));refine⟨h1,ep3,?_⟩;rw[List.getElem?_set_ne (Ql (F1 h1))];exact zc (zc (zc h2))
end
noncomputable abbrev xV:=Nat->List (List UInt8×AV)
noncomputable def xM (rs:List UInt8->Res xV):List (List UInt8)->xV->Res xV
 | [],acc=>.ok acc
 | u::us,acc=>match rs u with
  | .ok J=>xM rs us fun k=>yF (acc k) (J k)
  | .bad=>.bad
  | .wild=>.wild
theorem Ry:∀(rs:List UInt8->Res xV) (x:xV),xM rs [] x=Res.ok x:=fun a a=>rfl
theorem sk:∀(rs:List UInt8->Res xV) (x:xV) (u:List UInt8) (us:List (List UInt8)),xM rs (u::us) x=match rs u with | .ok J=>xM rs us fun k=>yF (x k) (J k) | .bad=>.bad | .wild=>.wild:=fun a a a a=>rfl
noncomputable def tR (l:xV):Bool:=decide ((l 0).length<=1000)&&(decide ((l 1).length<=1000)&&(decide ((l 2).length<=1000)&&decide ((l 3).length<=1000)))
noncomputable def yp (l:xV):Res xV:=if tR l=true then .ok l else .wild
theorem jm {l:xV} (h:tR l=true):∀k,k<4->(l k).length<=1000:=by
 revert l h
 intros l h;unfold tR at h;simp only[Bool.and_eq_true,decide_eq_true_eq]at h;intros j hj
 have:j=0\/j=1\/j=2\/j=3:=by exact l4 (F1 hj)
 rcases this with rfl | rfl | rfl | rfl
 ·exact h.1
 ·exact h.2.1
 ·exact h.2.2.1
 ·exact h.2.2.2
noncomputable def xK (Is:List InfoV):Nat->List UInt8->List (List UInt8)->Res xV
 | 0,_,_=>.wild
 | f+1,name,path=>match Is.find? (fun I=>decide (name∈zL I.names))with
  | none=>.bad
  | some I=>match I.names with
   | []=>.wild
   | h::_=>if h∈path then .bad else
    (xM (fun u=>(xK Is f u (path++[h])).bind fun l=>yp l) I.uses I.lot).bind fun l=>.ok fun k=>w_ (l k)
theorem ZO:∀(Is:List InfoV) (x:List UInt8) (y:List (List UInt8)) (f:Nat),xK Is (f+1) x y=match Is.find? (fun I=>decide (x∈zL I.names))with | none=>.bad | some I=>match I.names with | []=>.wild | h::_=>if h∈y then .bad else (xM (fun u=>(xK Is f u (y++[h])).bind fun l=>yp l) I.uses I.lot).bind fun l=>.ok fun k=>w_ (l k):=fun a a a a=>rfl
theorem qj (l more:List (List UInt8×AV)):(yF l more).length<=l.length+more.length:=by
 have key:∀(ks:List (List UInt8)) (acc:List (List UInt8×AV)),(ks.foldl (fun acc x=>if (yq acc x).isSome=true then acc else yL acc x ((yq more x).getD .none)) acc).length<=acc.length+ks.length:=by
  intro ks
  induction ks with
  | nil=>intro acc;exact wC
  | cons k ks ih =>
   intro acc;rw[List.foldl_cons,List.length_cons]
   split
   ·have:=ih acc;exact F1 this
   ·have h1:=ih (yL acc k ((yq more k).getD .none));have h2:=xC acc k ((yq more k).getD .none);exact F2 h1 h2
 have:=key (more.map (fun x=>x.1)) l;simpa[yF]using this
noncomputable def nRes:List String:=["infos","name","path","info","found","used"]
theorem vQ:Nms nRes:=.of (by decide +kernel)
section
variable {B:Base} {n:Nat} {sc:Scope} {ρ:Rho} {Q X:AV->St->Prop} {st:St}
theorem UR {P:List ((Nat->Nat)×InfoV)} {q:InfoV->Bool}:(P.map (fun x=>x.2)).find? q=(P.find? fun p=>q p.2).map (fun x=>x.2):=by
 rw[List.find?_map];rfl
noncomputable abbrev UZ (B:Base) (lo:Nat) (P:List ((Nat->Nat)×InfoV)) (f:Nat):Prop :=
 ∀{n:Nat} {Q X:AV->St->Prop} {st:St} {m mp:Nat} {name:List UInt8} {path:List (List UInt8)},st[m]?=some (.list (avs P))->xc st lo P->st[mp]?=some (.list (path.map AV.bytes))->path.length<=1000-f->f<=100->xK (P.map (fun x=>x.2)) f name path ≠ .wild ->
  (∀l,xK (P.map (fun x=>x.2)) f name path = .ok l->∀r st' ns,Ch [] st st'->(∀i,i<6->st.length<=r i)->zQ st' r ⟨ns,l,[]⟩->Q (zD r) st') ->
  (xK (P.map (fun x=>x.2)) f name path = .bad->∀nm st',Ch [] st st'->X nm st')->Spec B (n+f+3) (.ref 242) [.ref m,.bytes name,.ref mp] st Q X
theorem Tp (g:Gl B) {lo:Nat} {P:List ((Nat->Nat)×InfoV)} (hz:∀p∈P,p.2.names.length<=1000/\(∀k,k<4->(p.2.lot k).length<=1000)/\p.2.uses.length<=1000) (f:Nat) (ih:UZ B lo P f):UZ B lo P (f+1):=by
 revert B g lo P hz f ih
 intros B g lo P hz f ih;intros n Q X st m mp name path hm hP hmp hpl hf hw hS hN;rw[ZO,UR]at hw hS hN;rw[show n+(f+1)+3=(n+f+3)+1 from by exact rfl];refine zP g 25 rfl vQ [0,1,2] ?_;refine asg vQ 3 (cF g 22 rfl (a2 (vv vQ 0 rfl (vv vQ 1 rfl (Wk g hm hP (fun p hp=>(hz p hp).1) (?_) fun hfd s1 c1=>hN (by rw[hfd];rfl) _ _ c1)))));intros p hfd s1 c1;rw[hfd]at hw hS hN;simp only[Option.map_some]at hw hS hN;have hp:p∈P:=List.mem_of_find?_eq_some hfd;obtain⟨z1,z2,z3⟩:_:=hz p hp;have hI1:=(hP.all p hp).1.ch c1 (fun z z=>wE)
 rcases Wo (p.2.names)with hns | w1_
 ·try rw[hns]
  rw[hns]at hw;exact absurd rfl hw
 ·obtain⟨hd,tl,hns⟩:_:=w1_
  try rw[hns]
  rw[hns]at hw hS hN;simp only at hw hS hN;have hnm:=hI1.names;rw[hns]at hnm;refine za (z7 (zk rfl (sub (att g 0 rfl (vv vQ 3 rfl ⟨_,_,rfl,rfl,zb (zH (a:=.bytes hd) hnm (I6 (by exact wD)) rfl (vv vQ 2 rfl (x9 (c1.get hmp (wE)) Yt (bod (?_) ?_))))⟩)))))
  ·intros q;refine zo ?_;exact rz g (vv vQ 1 rfl (hN (if_pos q) _ _ c1))
  intros q;refine zm (zd ?_);rw[if_neg q]at hw hS hN;refine asg vQ 4 (RL g (aN (att g 0 rfl (vv vQ 3 rfl ⟨_,_,rfl,rfl,aN (att g 1 rfl (vv vQ 3 rfl ⟨_,_,rfl,rfl,aN (att g 2 rfl (vv vQ 3 rfl ⟨_,_,rfl,rfl,aN (att g 3 rfl (vv vQ 3 rfl ⟨_,_,rfl,rfl,a1 (att g 4 rfl (vv vQ 3 rfl ⟨_,_,rfl,rfl,?_⟩))⟩))⟩))⟩))⟩))));refine qe (n:=n+f+2) g (d:=fun k=>p.1 (k+1)) hI1.names hI1.lot (F1 z1) (fun k hk=>by have:=z2 k hk;exact F1 this) ?_;intros r s2 c2 hr hI2;have c02:=c1.trans c2;have hpr:∀i,i<6->p.1 i<st.length:=fun i hi=>(hP.all p hp).1.lt hi;have hrs:∀i,i<6->st.length<=r i:=fun i hi=>Nat.le_trans c1.1 (hr i hi)
  refine vN vQ 5 (yj (att g 5 rfl (vv vQ 3 rfl ⟨_,_,rfl,rfl,yg (hI1.ch c2 (fun z z=>wE)).uses ⟨List UInt8,p.2.uses,AV.bytes,fun rest ρ' s=>Ch [] st s/\(∃acc:xV,(∀k,k<4->(acc k).length+1000*rest.length<=10000000)/\zQ s r ⟨p.2.names,acc,[]⟩ /\
   xM (fun u=>(xK (P.map (fun x=>x.2)) f u (path++[hd])).bind fun l=>yp l) p.2.uses p.2.lot=xM (fun u=>(xK (P.map (fun x=>x.2)) f u (path++[hd])).bind fun l=>yp l) rest acc)/\ρ'.get 0=some (.ref m)/\ρ'.get 2=some (.ref mp)/\ρ'.get 3=some (zD p.1)/\ρ'.get 4=some (zD r),rfl,?_,?_,?_⟩⟩)))
  ·exact⟨c02,⟨p.2.lot,fun k hk=>by have:=z2 k hk;exact F2 this (U 1000 z3),hI2,rfl⟩,rfl,rfl,rfl,rfl⟩
  ·intros ρ' s p2_;obtain⟨ch,⟨acc,hal,hIr,hu⟩,g0,g2,g3,g4⟩:_:=p2_;refine⟨(((hP.all p hp).1.ch ch (fun z z=>wE)).uses),?_⟩;rw[hu]at hS;refine za (zq (cF g 24 rfl (a1 (vv vQ 4 g4 (We g hIr (fun k hk=>by have:=hal k hk;simp;exact F1 this) (by simp;exact F1 z1) ?_)))));intros r' s' c' hr' hI';exact hS _ rfl r' s' _ (ch.trans c') (fun i hi=>Nat.le_trans ch.1 (hr' i hi)) hI'
  ·intros u rest ρ' s p3_;obtain⟨ch,⟨acc,hal,hIr,hu⟩,g0,g2,g3,g4⟩:_:=p3_;refine⟨(((hP.all p hp).1.ch ch (fun z z=>wE)).uses),?_⟩;rw[sk]at hu;have hIp:=(hP.all p hp).1.ch ch (fun z z=>wE);have hnm':=hIp.names;rw[hns]at hnm'
   have k0:(ρ'.set 5 (.bytes u)).get 0=some (.ref m):=by exact rn g0 rfl
   have k2:(ρ'.set 5 (.bytes u)).get 2=some (.ref mp):=by exact rn g2 rfl
   have k3:(ρ'.set 5 (.bytes u)).get 3=some (zD p.1):=by exact rn g3 rfl
   have k4:(ρ'.set 5 (.bytes u)).get 4=some (zD r):=by exact rn g4 rfl
   refine za (ul rfl (fun z z z=>rfl) (cF g 23 rfl (a2 (vv vQ 4 k4 (cF g 25 rfl (aN (vv vQ 0 k0 (a2 (vv vQ 5 zg (ze (vv vQ 2 k2 (zr (a1 (sub (att g 0 rfl (vv vQ 3 k3 ⟨_,_,rfl,rfl,zb (zH (a:=.bytes hd) hnm' (I6 (by exact wD)) rfl ⟨wB,?_⟩)⟩))))))))))))))));refine yA (zc (ch.get hmp (wE))) zf (by simp;exact F2 hpl (Le (S1 (1000) (f+1) (F1 hf)))) ?_;have c3:Ch [] s ((s++[AO.list [.bytes hd]])++[.list (path.map AV.bytes++[.bytes hd])]):=(Ch.push ..).push' _;generalize hs3:((s++[AO.list [.bytes hd]])++[.list (path.map AV.bytes++[.bytes hd])])=s3 at c3
   have hmp3:s3[(s++[AO.list [.bytes hd]]).length]?=some (.list ((path++[hd]).map AV.bytes)):=by
    subst hs3;rw[List.map_append];exact zf
   have nw:xK (P.map (fun x=>x.2)) f u (path++[hd]) ≠ .wild:=by
    intros h;rw[h]at hu;rw[hu]at hw;exact hw rfl
   refine ih ((ch.trans c3).get hm (wE)) (hP.ch (ch.trans c3) (nn)) hmp3 (by simp;exact F3 hpl (Le (S1 (1000) (f+1) (F1 hf))) (Re (S1 (1000) (f) (F1 hf)))) (F1 hf) nw (?_) fun hb nm s4 c4=>hN (by rw[hu,hb];rfl) _ _ ((ch.trans c3).trans c4);intros l hl r2 s4 ns2 c4 hr2 hI4;rw[hl,show (Res.ok l).bind (fun l=>yp l)=yp l from rfl]at hu
   by_cases hsm:tR l=true
   ·rw[show yp l = .ok l from if_pos hsm]at hu;have hsl:=jm hsm;refine XO g (hIr.ch (c3.trans c4) (fun z z=>wE)) hI4 (?_) (?_) ?_
    ·intros i j hi hj e;have h1:=hIr.lt hi;have h2:=hr2 j hj;have h3:=c3.1;exact Z (F4 (Re e) h1 h2 h3)
    ·intros k hk;have:=hal k hk;have:=hsl k hk;simp at *;exact F2 ‹(acc k).length+1000*(rest.length+1)<=10000000› this
    ·intros s5 c5 hI5;refine⟨rfl,zd ?_⟩;refine⟨((ch.trans c3).trans c4).new c5 ?_,⟨fun k=>yF (acc k) (l k),?_,hI5,hu⟩,k0,k2,k3,k4⟩
     ·intros i hi;refine .inr ?_;obtain⟨j,hj,e⟩:_:=xT hi;have:=hrs j hj;exact F2 (Re e) this
     ·intros k hk;have h1:=hal k hk;have h2:=hsl k hk;have h3:=qj (acc k) (l k);simp only[List.length_cons]at h1;show (yF (acc k) (l k)).length+1000*rest.length<=10000000;exact F3 h1 h2 h3
   ·rw[show yp l = .wild from if_neg hsm]at hu;rw[hu]at hw;exact absurd rfl hw
theorem XM (g:Gl B) {lo:Nat} {P:List ((Nat->Nat)×InfoV)} (hz:∀p∈P,p.2.names.length<=1000/\(∀k,k<4->(p.2.lot k).length<=1000)/\p.2.uses.length<=1000) (f:Nat):UZ B lo P f:=by
 induction f with
 | zero=>intro n Q X st m mp name path _ _ _ _ _ hw _ _;exact absurd rfl hw
 | succ f ih=>exact Tp g hz f ih
noncomputable def nRsd:List String:=["infos","name"]
theorem RV:Nms nRsd:=.of (by kernel_rfl)
theorem kJ (g:Gl B) {lo m:Nat} {P:List ((Nat->Nat)×InfoV)} {name:List UInt8} (hz:∀p∈P,p.2.names.length<=1000/\(∀k,k<4->(p.2.lot k).length<=1000)/\p.2.uses.length<=1000) (hm:st[m]?=some (.list (avs P))) (hP:xc st lo P)
  (hw:xK (P.map (fun x=>x.2)) 5 name [] ≠ .wild) (hS:∀l,xK (P.map (fun x=>x.2)) 5 name [] = .ok l->∀r st' ns,Ch [] st st'->(∀i,i<6->st.length<=r i)->zQ st' r ⟨ns,l,[]⟩->Q (zD r) st') (hN:xK (P.map (fun x=>x.2)) 5 name [] = .bad->∀nm st',Ch [] st st'->X nm st') :
  Spec B (n+9) (.ref 249) [.ref m,.bytes name] st Q X:=by
 refine zP g 26 rfl RV [0,1] ?_;refine za (zq (cF g 25 rfl (aN (vv RV 0 rfl (a2 (vv RV 1 rfl (zr (zA ⟨wD,?_⟩))))))));exact XM g hz 5 (n:=n) (zc hm) (hP.ch (Ch.push [] _ _) (nn)) zf (wD) (wA) hw (fun l hl r st' ns c hr hI=>hS l hl r st' ns ((Ch.push ..).trans c) (fun i hi=>by have:=hr i hi;simp at this;exact F1 this) hI) fun hb nm st' c=>hN hb nm st' ((Ch.push ..).trans c)
end
noncomputable def vY:List Nat:=[108,101,102,116]
noncomputable def xp:List Nat:=[109,105,120,101,100]
noncomputable def yJ (st:St) (d l:Nat):Prop:=d≠l /\ ∃(ep:Nat) (mix:Int) (L:List Int),st[d]?=some (.dictS ep [(vY,.ref l),(xp,.int mix)])/\st[l]?=some (.list (L.map AV.int))/\L.length<=24/\0<=mix/\mix<1000003
theorem yJ.ch {st st':St} {d l:Nat} {rs:List Nat} (h:yJ st d l) (c:Ch rs st st') (hd:d∉rs) (hl:l∉rs):yJ st' d l:=by
 revert st st' d l rs h c hd hl
 intros st st' d l rs h c hd hl;obtain⟨hn,ep,mix,L,h1,h2,h3⟩:_:=h;exact⟨hn,ep,mix,L,c.get h1 hd,c.get h2 hl,h3⟩
theorem yJ.lt {st:St} {d l:Nat} (h:yJ st d l):d<st.length/\l<st.length:=by
 revert st d l h
 intros st d l h;obtain⟨hn,ep,mix,L,h1,h2,h3⟩:_:=h;exact⟨zv h1,zv h2⟩
noncomputable def nDeck:List String:=["script","left","mixed","cell"]
theorem uA:Nms nDeck:=.of (by decide +kernel)
noncomputable def nDraw:List String:=["deck","many"]
theorem qD:Nms nDraw:=.of (by kernel_rfl)
section
variable {B:Base} {n:Nat} {sc:Scope} {ρ:Rho} {Q X:AV->St->Prop} {st:St}
theorem yH (g:Gl B) {d l many:Nat} (hD:yJ st d l) (h0:0<many) (h1:many<1000) (h:∀v:Nat,v<many->∀st',Ch [d,l] st st'->yJ st' d l->Q (.int (v:Nat)) st'):Spec B (n+1) (.ref 285) [.ref d,.int (many:Nat)] st Q X:=by
 revert B n Q X st g d l many hD h0 h1 h
 intros B n Q X st g d l many hD h0 h1 h;refine zP g 29 rfl qD [0,1] ?_;obtain⟨hdl,ep,mix,L,e1,e2,hL,hm0,hm1⟩:_:=id hD
 have fin:∀(i:Int) (st':St),Ch [d,l] st st'->yJ st' d l->Q (.int (i%(many:Nat))) st':=by
  intros i st' c hd;have:=h (i%(many:Nat)).toNat ((Int.toNat_lt (Int.emod_nonneg i (b:=(many:Nat)) (fun q5_=>(Z (F2 h0 (Le (iE q5_))))))).mpr (Int.emod_lt_of_pos i (b:=(many:Nat)) (kT (0) (many) (F1 h0)))) st' c hd;have e:(((i%(many:Nat)).toNat:Nat):Int)=i%(many:Nat):=Int.toNat_of_nonneg (Int.emod_nonneg i (fun q5_=>(Z (F2 h0 (Le (iE q5_))))))
  rwa [e]at this
 have gl:∀s:St,(∃ep mix,s[d]?=some (.dictS ep [(vY,.ref l),(xp,.int mix)]))->∃ep mix,s[d]?=some ((dkS B).ao ep [(vY,.ref l),(xp,.int mix)]):=fun s h=>h;refine za (z7 (zk rfl (sub (vv qD 0 rfl (zh (y:=vY) (by kernel_rfl) (z5 (dkS B) (k:=vY) (a:=.ref l) e1 rfl (zr (zA ⟨by simp,xA (zc e2) zf wU (bon (?_) ?_)⟩))))))))
 ·intros q;refine zm (zd ?_);have e1':=zc (t:=[.list []]) e1;refine za (wh (fun z z z=>rfl) (ze (ze (ze (sub (vv qD 0 rfl (zh (y:=xp) (by kernel_rfl) (z5 (dkS B) (k:=xp) (a:=.int mix) e1' rfl (zb (vB (I3 (by assumption) (by assumption)) (zb (zj (zb (zB (by decide) ?_))))))))))))));refine vv qD 0 rfl (zh (y:=xp) (by kernel_rfl) (uc (dkS B) (k:=xp) e1' (wA) ?_));intros ep2;have e3:((st++[AO.list []]).set d ((dkS B).ao ep2 (yL [(vY,.ref l),(xp,.int mix)] xp (.int ((mix*4801+97)%1000003)))))[d]?=some (.dictS ep2 [(vY,.ref l),(xp,.int ((mix*4801+97)%1000003))]):=get_set (zv e1');refine za (zq (ze (ze (sub (vv qD 0 rfl (zh (y:=xp) (by kernel_rfl) (z5 (dkS B) (k:=xp) (a:=.int ((mix*4801+97)%1000003)) e3 rfl (zb (yx (by decide) (by decide) (vv qD 1 rfl (zB (kT (0) (many) (F1 h0)) ?_)))))))))));refine fin _ _ (((Ch.push ..)).set' _ (.inl (.head _))) ⟨hdl,ep2,_,L,e3,?_,hL,?_,?_⟩
  ·rw[List.getElem?_set_ne hdl];exact zc e2
  ·exact Int.emod_nonneg _ (by decide)
  ·exact Int.emod_lt_of_pos _ (by decide)
 ·intros q;refine zo ?_;have e1':=zc (t:=[.list []]) e1;have e2':=zc (t:=[.list []]) e2
  obtain⟨i,L,rfl⟩:∃i t,L=i::t:=by cases L with
   | nil=>exact absurd rfl q
   | cons i t=>exact⟨i,t,rfl⟩
  refine za (zq (ze (yf ⟨fun z=>rfl,fun z=>rfl,rfl,fun z=>rfl⟩ (sub (vv qD 0 rfl (zh (y:=vY) (by kernel_rfl) (z5 (dkS B) (k:=vY) (a:=.ref l) e1' rfl ⟨_,_,ke F.slot_list_pop F.type_list_pop,.list e2',a1 (zb (R2 e2' (by simp at hL ⊢;exact F1 hL) (vv qD 1 rfl (zB (kT (0) (many) (F1 h0)) ?_))))⟩)))))));refine fin _ _ (((Ch.push ..)).set' _ (.inl (.tail _ (.head _)))) ⟨hdl,ep,mix,L,?_,get_set (zv e2'),by simp at hL;exact F1 hL,hm0,hm1⟩;rw[List.getElem?_set_ne (Ne.symm hdl)];exact e1'
theorem Ue (g:Gl B) {L:List Int} (hz:L.length<=1000) (h:∀d l st',Ch [] st st'->st.length<=d->st.length<=l->yJ st' d l->Q (.ref d) st'):Spec B (n+1) (.ref 278) [.clist (L.map AV.int)] st Q X:=by
 revert B n Q X st g L hz h
 intros B n Q X st g L hz h;refine zP g 28 rfl uA [0] ?_
 have ecut:cut none (some 24) (L.map AV.int)=(L.take 24).map AV.int:=by rw[show cut none (some 24) (L.map AV.int)=(L.map AV.int).take 24 from vP _ 24,List.map_take]
 refine uD uA 1 2 (zp (aN ?_));refine yu (caps:=[]) (t:=.one 3) uA.inj (.of (by kernel_rfl)) (.one (i:=3)) (nn) (fun z z=>rfl) (yj (zR (vv uA 0 rfl (zb ⟨_,rfl,YI (by simp;exact F1 hz) (yg zf ?_)⟩))));rw[ecut];refine ym (L.take 24) AV.int (fun i=>.int (i%1000003)) (fun z=>true) rfl (by simp;exact F1 (Nat.min_le_left (24) (L.length))) (fun extra=>zc zf) (?_) ?_
 ·intros i hi extra;refine⟨_,rfl,rfl,?_⟩;exact ze (cB g 5 rfl (a1 (vv uA 3 rfl (Vd (zb (zB (by decide) ⟨rfl,[],(List.append_nil _).symm⟩))))))
 intros junk;refine a1 (zb ⟨wA,_,rfl,rfl,?_⟩);rw[wQ];generalize hs1:(st++[AO.list ((L.take 24).map AV.int)]++[.list ((L.take 24).map fun i=>.int (i%1000003))]++junk)=s1
 have c1:Ch [] st s1:=by subst hs1;exact((Ch.push ..).push' _).push' _
 have hl1:s1[(st++[AO.list ((L.take 24).map AV.int)]).length]?=some (.list (((L.take 24).map fun i=>i%1000003).map AV.int)):=by
  subst hs1;rw[List.map_map];exact zc zf
 generalize hll:(st++[AO.list ((L.take 24).map AV.int)]).length=ll at hl1
 have hll1:st.length<=ll:=by subst hll;simp
 have hin:∀x∈(L.take 24).map (fun i=>i%1000003),0<=x/\x<1000003:=by
  intros x hx;obtain⟨y,_,rfl⟩:_:=List.mem_map.mp hx;exact⟨Int.emod_nonneg _ (by decide),Int.emod_lt_of_pos _ (by decide)⟩
 have hlen:((L.take 24).map fun i=>i%1000003).length<=24:=by simp;exact F1 (Nat.min_le_left (24) (L.length))
 generalize ((L.take 24).map fun i=>i%1000003)=D at hl1 hin hlen;refine vN uA 3 (yj (vv uA 1 rfl (yg hl1 ⟨Int,D,AV.int,fun rest r' s=>s=s1/\(∀x∈rest,0<=x/\x<1000003) /\ ∃mix:Int,0<=mix/\mix<1000003/\r'.get 1=some (.ref ll)/\r'.get 2=some (.int mix),rfl,?_,?_,?_⟩)))
 ·exact⟨rfl,hin,4613,by decide,by decide,rfl,rfl⟩
 ·intros r' s p3_;obtain⟨rfl,_,mix,h0,h1,g1,g2⟩:_:=p3_;refine⟨hl1,za (zq (th (dkS B) (rfl) (nofun) (by decide) ?_))⟩;intros ep;refine zh (y:=vY) (by kernel_rfl) (vv uA 1 g1 (zh (y:=xp) (by kernel_rfl) (vv uA 2 g2 ⟨[(vY,.ref ll),(xp,.int mix)],rfl,⟨ep,zf⟩,?_⟩)));intros ep3;have hd:((s++[(dkS B).ao ep []]).set s.length ((dkS B).ao ep3 (yy [] [(vY,.ref ll),(xp,.int mix)])))[s.length]?=some (.dictS ep3 [(vY,.ref ll),(xp,.int mix)]):=get_set (by simp);have hlt:=zv hl1;refine h s.length ll _ ((c1.push' _).set' _ (.inr c1.1)) c1.1 hll1 ⟨Qr (F1 hlt),ep3,mix,D,hd,?_,hlen,h0,h1⟩;rw[List.getElem?_set_ne (Qr (F1 hlt))];exact zc hl1
 ·intros x rest r' s p4_;obtain⟨rfl,hx,mix,h0,h1,g1,g2⟩:_:=p4_;have hx1:=hx x (.head _);refine⟨hl1,asg uA 2 (ze (ze (ze (ze (vv uA 2 (a:=.int mix) (rn g2 rfl) (zb (vB (I3 (by assumption) (by assumption)) (vv uA 3 zg (zj (zb (zj (zb (zB (by decide) (zd ⟨rfl,fun y hy=>hx y (.tail _ hy),_,?_,?_,?_,zg⟩))))))))))))))⟩
  ·exact Int.emod_nonneg _ (by decide)
  ·exact Int.emod_lt_of_pos _ (by decide)
  ·exact rn (rn g1 rfl) rfl
end
inductive Fld where
 | truth (i:Nat) | num (i k p:Nat) | str (i:Nat) (ss:List Nat) | off (i:Nat) | use (i:Nat)
noncomputable def zu:Nat->List Nat
 | 0=>[98,111,111,108,101,97,110,115]
 | 1=>[110,117,109,98,101,114,115]
 | 2=>[115,116,114,105,110,103,115]
 | 3=>[109,111,114,101]
 | _=>[117,115,101,115]
noncomputable def yC:Nat->List Nat
 | 0=>[97,109] | 1=>[98,99,101] | _=>[84,99]
noncomputable def yU:Nat->List Nat
 | 0=>[99,111,108,115] | 1=>[108,105,110,101,115] | _=>[85,56]
noncomputable def yM:Nat->List Nat
 | 0=>[99,114] | 1=>[98,101,108] | _=>[77,115]
noncomputable def ko:Nat->List Nat
 | 0=>[97,109] | 1=>[99,111,108,115] | 2=>[99,114] | _=>[84,99]
noncomputable def uJ:Nat->List Nat
 | 0=>[101,48] | 1=>[101,49] | 2=>[101,50] | _=>[102,49]
noncomputable def signL:List (List Nat×Nat):=[([92,69],27),([94,88],24),([92,110],10),([92,114],13),([92,115],32),([92,44],44),([92,94],94),([92,92],92),([92,58],58),([92,48,51,51],27),([92,48],128),([92,50,48,48],128),([94,63],127),([94,64],128),([97],97),([37],37)]
noncomputable def sgn (i:Nat):List Nat×Nat:=signL.getD i ([],0)
noncomputable def tW (i:Nat):AV:=.tup [.str (sgn i).1,.int ((sgn i).2:Nat)]
theorem SA {i:Nat} (h:i<16):idx t9 (i:Int)=some (tW i):=by
 have e:t9=signL.map fun p=>.tup [.str p.1,.int (p.2:Nat)]:=rfl;rw[sE,e,List.getElem?_map];unfold tW sgn;rw[List.getD_eq_getElem?_getD,List.getElem?_eq_getElem (show i<signL.length from h)]
 rfl
noncomputable def RC (k:Nat):Nat:=[48,49,50,51,52,53,54,55,56,57,97,98,99,100,101,102].getD k 0
noncomputable def Qj (k:Nat):Nat:=[48,49,50,51,52,53,54,55,56,57,65,66,67,68,69,70].getD k 0
noncomputable def x8 (k:Nat):Nat->List Nat
 | 0=>wg (k:Nat)
 | 1=>[48,120]++[RC (k/16)]++[Qj (k%16)]
 | _=>[48]++wg ((k:Int)/64)++wg ((k:Int)/8%8)++wg ((k:Int)%8)
noncomputable def Fld.kind:Fld->Nat
 | .truth i=>if i=2 then 3 else 0
 | .num i _ _=>if i=2 then 3 else 1
 | .str i _=>if i=2 then 3 else 2
 | .off i=>i
 | .use _=>4
noncomputable def Fld.name:Fld->List Nat
 | .truth i=>yC i
 | .num i _ _=>yU i
 | .str i _=>yM i
 | .off i=>ko i
 | .use i=>uJ i
noncomputable def Fld.told:Fld->AV
 | .truth _=>.bool true
 | .num _ k _=>.int (k:Nat)
 | .str _ ss=>.bytes (ss.map fun i=>(sgn i).2.toUInt8)
 | .off _=>.none
 | .use _=>.none
noncomputable def Fld.text:Fld->List Nat
 | .truth i=>yC i
 | .num i k p=>yU i++[35]++x8 k p
 | .str i ss=>yM i++[61]++zC [] (ss.map fun i=>(sgn i).1)
 | .off i=>ko i++[64]
 | .use i=>[117,115,101,61]++uJ i
noncomputable def Fld.ok:Fld->Prop
 | .truth i=>i<3
 | .num i k p=>i<3/\k<200/\p<3
 | .str i ss=>i<3/\ss.length<=3 /\ ∀s∈ss,s<16
 | .off i=>i<4
 | .use i=>i<4
noncomputable def nFld:List String:=["deck","way","number","name","page","some","go","sign","octet","sort"]
theorem zY:Nms nFld:=.of (by decide +kernel)
theorem ux {k:Nat} (h:k<200):(wg (k:Nat)).length<=3:=by
 have key:∀k,k<200->(wg (k:Nat)).length<=3:=by decide +kernel
 exact key k h
theorem ZZ (i:Nat):(sgn i).1.length<=4:=by
 unfold sgn
 by_cases h:i<signL.length
 ·have key:∀p∈signL,p.1.length<=4:=by decide
  rw[List.getD_eq_getElem?_getD,List.getElem?_eq_getElem h];exact key _ (List.getElem_mem h)
 ·rw[List.getD_eq_getElem?_getD,List.getElem?_eq_none (F1 (Nt h))];simp
theorem UY (i:Nat):(sgn i).2<256:=by
 unfold sgn
 by_cases h:i<signL.length
 ·have key:∀p∈signL,p.2<256:=by decide
  rw[List.getD_eq_getElem?_getD,List.getElem?_eq_getElem h];exact key _ (List.getElem_mem h)
 ·rw[List.getD_eq_getElem?_getD,List.getElem?_eq_none (F1 (Nt h))];exact wB
section
variable {B:Base} {n:Nat} {sc:Scope} {ρ:Rho} {Q X:AV->St->Prop} {st:St}
theorem at3 {α:Type} (f:Nat->α) (k:Nat):idx [f 0,f 1,f 2] ((k:Int)%3)=some (f (k%3)):=by
 rw[show (k:Int)%3=((k%3:Nat):Int) from by exact rfl];exact Wl f _ (F1 (M3 (k)))
theorem at4 {α:Type} (f:Nat->α) (k:Nat):idx [f 0,f 1,f 2,f 3] ((k:Int)%4)=some (f (k%4)):=by
 rw[show (k:Int)%4=((k%4:Nat):Int) from by exact rfl]
 have:k%4=0\/k%4=1\/k%4=2\/k%4=3:=by exact l4 (F1 (M4 (k)))
 rcases this with h | h | h | h<;>rw[h]<;>rfl
set_option maxHeartbeats 2000000 in
theorem WH (g:Gl B) {d l:Nat} (hD:yJ st d l) (h:∀F:Fld,F.ok->∀st',Ch [d,l] st st'->yJ st' d l->Q (.tup [.str F.text,.str (zu F.kind),.str F.name,F.told]) st'):Spec B (n+2) (.ref 295) [.ref d] st Q X:=by
 revert B n Q X st g d l hD h
 intros B n Q X st g d l hD h;refine q_ g 31 rfl zY [0] ?_ (u6 _);refine uD zY 1 2 (zp (aN (cF g 29 rfl (a2 (vv zY 0 rfl (zb (yH g (many:=9) hD (wB) (wA) ?_)))))));intros way hway s1 c1 D1;refine a1 (cF g 29 rfl (a2 (vv zY 0 rfl (zb (yH g (many:=200) D1 (wB) (wA) ?_)))));intros k hk s2 c2 D2;refine⟨wA,_,rfl,rfl,?_⟩;have c02:=c1.trans c2;have hd2:=D2.lt;refine za (z7 (zk rfl (vv zY 1 rfl (zb (z6 rfl (bod (?_) ?_))))))
 ·intros q;refine zo ?_;refine asg zY 3 (sub (zr (aN (zh (y:=yC 0) (by kernel_rfl) (aN (zh (y:=yC 1) (by kernel_rfl) (a1 (zh (y:=yC 2) (by kernel_rfl) ⟨wA,ze (vv zY 2 rfl (zb (zB (by decide) (zH zf (I6 (j:=(k%3)) (F1 (M3 (k)))) (at3 (fun i=>AV.str (yC i)) k) ?_))))⟩))))))));have fin:=fun s c D=>h (.truth (k%3)) (Nat.mod_lt k (wB)) s c D;have c3:=c02.push' [.list [.str (yC 0),.str (yC 1),.str (yC 2)]];have D3:=D2.ch (Ch.push [] s2 [.list [.str (yC 0),.str (yC 1),.str (yC 2)]]) (wE) (wE);refine za (zq (zp (aN (vv zY 3 rfl (aN (yE (zk rfl (vv zY 3 rfl (zh (y:=yC 2) (by kernel_rfl) (wZ (bod (?_) ?_)))))))))))
  ·intros q;refine zo ?_
   have hk2:k%3=2:=by
    have:k%3=0\/k%3=1\/k%3=2:=by exact l3 (F1 (M3 (k)))
    rcases this with e | e | e
    ·rw[e]at q;exact absurd q (by decide)
    ·rw[e]at q;exact absurd q (by decide)
    ·exact e
   refine zh (y:=zu 3) (by kernel_rfl) (aN (vv zY 3 rfl (a1 (Z3 ⟨wA,?_⟩))));have:=fin _ c3 D3;simpa[Fld.kind,hk2,Fld.text,Fld.name,Fld.told]using this
  ·intros q;refine zm ?_;have hk2:¬k%3=2:=fun e=>q (by rw[e]);refine zh (y:=zu 0) (by kernel_rfl) (aN (vv zY 3 rfl (a1 (Z3 ⟨wA,?_⟩))));have:=fin _ c3 D3;simpa[Fld.kind,hk2,Fld.text,Fld.name,Fld.told]using this
 intros q;refine zm (zd ?_);refine za (z7 (zk rfl (vv zY 1 rfl (zb (z6 rfl (bod (?_) ?_))))))
 ·intros q;refine zo ?_;refine asg zY 3 (sub (zr (aN (zh (y:=yU 0) (by kernel_rfl) (aN (zh (y:=yU 1) (by kernel_rfl) (a1 (zh (y:=yU 2) (by kernel_rfl) ⟨wA,ze (vv zY 2 rfl (zb (zB (by decide) (zH zf (I6 (j:=(k%3)) (F1 (M3 (k)))) (at3 (fun i=>AV.str (yU i)) k) ?_))))⟩))))))));have c3:=c02.push' [.list [.str (yU 0),.str (yU 1),.str (yU 2)]];have D3:=D2.ch (Ch.push [] s2 [.list [.str (yU 0),.str (yU 1),.str (yU 2)]]) (wE) (wE);generalize (s2++[AO.list [.str (yU 0),.str (yU 1),.str (yU 2)]])=s3 at c3 D3;have hd3:=D3.lt
  have i1:idx [48,49,50,51,52,53,54,55,56,57,97,98,99,100,101,102] ((k:Int)/16)=some (RC (k/16)):=by
   rw[show (k:Int)/16=((k/16:Nat):Int) from by exact rfl,sE];unfold RC;rw[List.getD_eq_getElem?_getD,List.getElem?_eq_getElem (by simp;exact Nat.div_lt_of_lt_mul (Nat.lt_trans hk (by decide)))];rfl
  have i2:idx [48,49,50,51,52,53,54,55,56,57,65,66,67,68,69,70] ((k:Int)%16)=some (Qj (k%16)):=by
   rw[show (k:Int)%16=((k%16:Nat):Int) from by exact rfl,sE];unfold Qj;rw[List.getD_eq_getElem?_getD,List.getElem?_eq_getElem (by simp;exact F1 (M16 (k)))];rfl
  have j1:(k:Int)/64=((k/64:Nat):Int):=by exact rfl
  have j2:(k:Int)/8%8=((k/8%8:Nat):Int):=by exact rfl
  have j3:(k:Int)%8=((k%8:Nat):Int):=by exact rfl
  have l1:(wg ((k:Int)/64)).length<=3:=by rw[j1];exact ux (k:=k/64) (F2 (Nat.div_le_self (k) (64)) hk)
  have l2:(wg ((k:Int)/8%8)).length<=3:=by rw[j2];exact ux (k:=k/8%8) (F1 (M8 (k/8)))
  have l3:(wg ((k:Int)%8)).length<=3:=by rw[j3];exact ux (k:=k%8) (F1 (M8 (k)))
  have l0:=ux hk;have big:(2:Nat) ^ 1900>=2 ^ 10:=Nat.pow_le_pow_right (by decide) (by decide);refine asg zY 4 (sub (zr (aN (cB g 6 rfl (a1 (vv zY 2 rfl (y_ (A6 (F1 hk)) ?_)))))));refine aN (ze (ze (zh (y:=[48,120]) (by kernel_rfl) (sub (zh (y:=[48,49,50,51,52,53,54,55,56,57,97,98,99,100,101,102]) (by kernel_rfl) (ze (vv zY 2 rfl (zb (yx (by decide) (by decide) (Yz (I6 (j:=(k/16)) (F2 (Nat.div_le_self (k) (16)) hk)) i1 (z9 (wA) ?_)))))))))));refine sub (zh (y:=[48,49,50,51,52,53,54,55,56,57,65,66,67,68,69,70]) (by kernel_rfl) (ze (vv zY 2 rfl (zb (zB (by decide) (Yz (I6 (j:=(k%16)) (F1 (M16 (k)))) i2 (z9 (wA) ?_)))))));refine a1 (ze (ze (ze (zh (y:=[48]) (by kernel_rfl) (cB g 6 rfl (a1 (ze (vv zY 2 rfl (zb (yx (by decide) (by decide) ?_))))))))));refine y_ (A6 (j:=(k/64)) (F2 (Nat.div_le_self (k) (64)) hk)) (z9 (by simp;exact F1 l1) (cB g 6 rfl (a1 (ze (ze (vv zY 2 rfl (zb (yx (by decide) (by decide) (zb (zB (by decide) ?_))))))))));refine y_ (by rw[j2];exact A6 (F1 (M8 _))) (z9 (by simp;exact F2 l1 l2) (cB g 6 rfl (a1 (ze (vv zY 2 rfl (zb (zB (by decide) ?_)))))));refine y_ (A6 (j:=(k%8)) (F1 (M8 (k)))) (z9 (by simp;exact F3 l1 l2 l3) ⟨wA,?_⟩);have D4:=D3.ch (Ch.push [] s3 [.list [.str (x8 k 0),.str (x8 k 1),.str (x8 k 2)]]) (wE) (wE);refine cF g 29 rfl (a2 (vv zY 0 rfl (zb (yH g (many:=3) D4 (wB) (wA) ?_))));intros p hp s5 c5 D5;have c5':=(c3.push' _).trans c5
  have pl:(x8 k p).length<=10:=by
   have:p=0\/p=1\/p=2:=Mine.l3 (F1 hp)
   rcases this with rfl | rfl | rfl
   ·simp only[x8];exact F1 l0
   ·exact wA
   ·simp only[x8,List.length_append,List.length_singleton];exact F3 l1 l2 l3
  refine zH (c5.get zf (by simp;exact⟨(Qr (F1 hd3.1)),(Qr (F1 hd3.2))⟩)) (I6 (F1 hp)) (Wl (fun p=>AV.str (x8 k p)) p hp) ?_
  have nl:(yU (k%3)).length<=5:=by
   have:k%3=0\/k%3=1\/k%3=2:=Mine.l3 (M3 k)
   rcases this with e | e | e<;>rw[e]<;>decide
  refine za (zq (zp (aN (ze (ze (vv zY 3 rfl (zh (y:=[35]) (by kernel_rfl) (z9 (by simp;exact F1 nl) (vv zY 4 rfl (z9 (by simp;exact F2 pl nl) ?_))))))))));have fin:=fun s c D=>h (.num (k%3) k p) ⟨Nat.mod_lt k (wB),hk,hp⟩ s c D;refine aN (yE (zk rfl (vv zY 3 rfl (zh (y:=yU 2) (by kernel_rfl) (wZ (bod (?_) ?_))))))
  ·intros q;refine zo ?_
   have hk2:k%3=2:=by
    have:k%3=0\/k%3=1\/k%3=2:=Mine.l3 (M3 k)
    rcases this with e | e | e
    ·rw[e]at q;exact absurd q (by decide)
    ·rw[e]at q;exact absurd q (by decide)
    ·exact e
   refine zh (y:=zu 3) (by kernel_rfl) (aN (vv zY 3 rfl (a1 (vv zY 2 rfl ⟨wA,?_⟩))));have:=fin _ c5' D5;simpa[Fld.kind,hk2,Fld.text,Fld.name,Fld.told]using this
  ·intros q;refine zm ?_;have hk2:¬k%3=2:=fun e=>q (by rw[e]);refine zh (y:=zu 1) (by kernel_rfl) (aN (vv zY 3 rfl (a1 (vv zY 2 rfl ⟨wA,?_⟩))));have:=fin _ c5' D5;simpa[Fld.kind,hk2,Fld.text,Fld.name,Fld.told]using this
 intros q;refine zm (zd ?_);refine za (z7 (zk rfl (vv zY 1 rfl (zb (z6 rfl (bod (?_) ?_))))))
 ·intros q;refine zo ?_;refine uD zY 3 5 (zp (aN (sub (zr (aN (zh (y:=yM 0) (by kernel_rfl) (aN (zh (y:=yM 1) (by kernel_rfl) (a1 (zh (y:=yM 2) (by kernel_rfl) ⟨wA,ze (vv zY 2 rfl (zb (zB (by decide) (zH zf (I6 (j:=(k%3)) (F1 (M3 (k)))) (at3 (fun i=>AV.str (yM i)) k) (a1 ?_)))))⟩))))))))));have c3:=c02.push' [.list [.str (yM 0),.str (yM 1),.str (yM 2)]];have D3:=D2.ch (Ch.push [] s2 [.list [.str (yM 0),.str (yM 1),.str (yM 2)]]) (wE) (wE);generalize (s2++[AO.list [.str (yM 0),.str (yM 1),.str (yM 2)]])=s3 at c3 D3;refine yu (caps:=[0]) (t:=.one 6) zY.inj (.of (by kernel_rfl)) (.one (i:=6)) (fun i hi=>by rw[List.mem_singleton.mp hi];exact⟨_,rfl⟩) (fun z z=>rfl) (cI g 10 rfl (cF g 29 rfl (a2 (vv zY 0 rfl (zb (yH g (many:=4) D3 (wB) (wA) ?_))))));intros q4 hq4 s4 c4 D4;refine jV (J2 (j:=(q4)) (F1 hq4)) ?_;have hd4:=D4.lt;have c04:=c3.trans c4
  have strLe:(yM (k%3)).length<=3:=by
   have:k%3=0\/k%3=1\/k%3=2:=by exact l3 (F1 (M3 (k)))
   rcases this with e | e | e<;>rw[e]<;>decide
  refine⟨fun items s=>∃(ss:List Nat) (rest:List Nat),items=rest.map (fun i:Nat=>AV.int (i:Nat))/\ss.length+rest.length<=3/\(∀i∈ss,i<16)/\Ch [d,l] st s/\yJ s d l/\s[s4.length]?=some (.list (ss.map tW)),?_,?_,?_⟩
  ·exact⟨[],List.range' 0 q4,qT q4 0,by simp;exact F1 hq4,nn,c04.push' _,D4.ch (Ch.push [] _ _) (wE) (wE),zf⟩
  ·intros s p3_;obtain⟨ss,rest,hr,hsl,hss,ch,D,hl⟩:_:=p3_
   have hr0:rest=[]:=by simpa using hr.symm
   subst hr0;refine⟨trivial,wA,_,rfl,rfl,?_⟩
   have sum_le:∀ss:List Nat,((ss.map fun i=>(sgn i).1).map List.length).sum<=4*ss.length:=by
    intros ss
    induction ss with
    | nil=>exact wC
    | cons a r ih =>
     have:=ZZ a;simp only[List.map_cons,List.sum_cons,List.length_cons]at ih ⊢;exact F2 ih this
   have hsum:=sum_le ss
   have jl:(zC [] (ss.map fun i=>(sgn i).1)).length<=12:=by
    have key:∀(r:List (List Nat)),(r.flatMap (([]:List Nat) ++ ·)).length=(r.map List.length).sum:=by
     intros r
     induction r with
     | nil=>rfl
     | cons a r ih=>rw[List.flatMap_cons,List.length_append,ih];exact rfl
    simp only[List.length_nil,Nat.add_zero]at hsl
    cases hq:ss.map (fun i=>(sgn i).1)with
    | nil=>exact wD
    | cons a r =>
     rw[yR,List.length_append,key];rw[hq]at hsum;simp only[List.map_cons,List.sum_cons]at hsum;exact F5 hsum hsl hsl hsl hsl
   refine asg zY 4 (yf ⟨fun z=>rfl,fun z=>rfl,rfl,fun z=>rfl⟩ (zh (y:=[]) (by kernel_rfl) ⟨_,_,jA F.slot_str_join F.type_str_join,.str,a1 ?_⟩));refine yu (caps:=[]) (t:=.tup [7,8]) zY.inj (.of (by kernel_rfl)) (.tup (is:=[7,8]) (ps:=[_,_]) rfl) (nn) (fun z z=>rfl) (yj (vv zY 5 rfl (yg hl ?_)));simp only[List.length_nil,Nat.add_zero]at hsl;refine ym ss tW (fun i=>.str (sgn i).1) (fun z=>true) rfl (F1 hsl) (fun extra=>zc hl) (fun i hi extra=>⟨_,rfl,rfl,vv zY 7 rfl ⟨rfl,[],(List.append_nil _).symm⟩⟩) ?_;intros junk;rw[wQ];refine w5 (xs:=ss.map fun i=>(sgn i).1) (m:=s.length) (by rw[List.append_assoc];exact g0 (congrArg (fun l=>some (AO.list l)) (List.map_map ..).symm)) (by simp only[List.length_map,List.length_nil];exact F5 hsum hsl hsl hsl hsl) ?_;generalize hs6:(s++[AO.list (ss.map fun i=>AV.str (sgn i).1)]++junk)=s6
   have c6:Ch [] s s6:=by subst hs6;exact(Ch.push ..).push' _
   have hl6:=c6.get hl (wE);refine za (zq (zp (aN (ze (ze (vv zY 3 rfl (zh (y:=[61]) (by kernel_rfl) (z9 (by simp;exact F1 strLe) (vv zY 4 rfl (z9 (by simp;exact F2 strLe jl) ?_))))))))));have fin:=fun s c D=>h (.str (k%3) ss) ⟨Nat.mod_lt k (wB),hsl,hss⟩ s c D;refine aN (yE (zk rfl (vv zY 3 rfl (zh (y:=yM 2) (by kernel_rfl) (wZ (bod (?_) ?_))))))
   ·intros q;refine zo ?_
    have hk2:k%3=2:=by
     have:k%3=0\/k%3=1\/k%3=2:=by exact l3 (F1 (M3 (k)))
     rcases this with e | e | e
     ·rw[e]at q;exact absurd q (by decide)
     ·rw[e]at q;exact absurd q (by decide)
     ·exact e
    refine zh (y:=zu 3) (by kernel_rfl) (aN (vv zY 3 rfl (a1 (cB g 0 rfl (a1 ?_)))));refine yu (caps:=[]) (t:=.tup [7,8]) zY.inj (.of (by kernel_rfl)) (.tup (is:=[7,8]) (ps:=[_,_]) rfl) (nn) (fun z z=>rfl) (yj (vv zY 5 rfl (yg hl6 ?_)));refine ym ss tW (fun i=>.int ((sgn i).2:Nat)) (fun z=>true) rfl (F1 hsl) (fun extra=>zc hl6) (fun i hi extra=>⟨_,rfl,rfl,vv zY 8 rfl ⟨rfl,[],(List.append_nil _).symm⟩⟩) ?_;intros junk2;rw[wQ];refine(sg (ss.map fun i=>((sgn i).2:Int)) (m:=s6.length) (by rw[List.append_assoc];exact g0 (congrArg (fun l=>some (AO.list l)) (List.map_map ..).symm)) ?_ (by simp;exact F1 hsl) (r:=ss.map fun i=>(sgn i).2.toUInt8) (List.map_map ..) ⟨wA,?_⟩)
    ·intros x hx;obtain⟨i,_,rfl⟩:_:=List.mem_map.mp hx;have:=UY i;exact⟨(kL (0) ((sgn i).snd) (wD)),(kT ((sgn i).snd) (256) (F1 this))⟩
    ·have c7:=(ch.trans (c6.weak (rs':=[d,l]) (nn))).trans (((Ch.push [d,l] s6 [.list (ss.map fun i=>.int ((sgn i).2:Nat))]).push' junk2));have D7:=(D.ch c6 (wE) (wE)).ch ((Ch.push [] s6 [.list (ss.map fun i=>.int ((sgn i).2:Nat))]).push' junk2) (wE) (wE);have:=fin _ c7 D7;simpa[Fld.kind,hk2,Fld.text,Fld.name,Fld.told]using this
   ·intros q;refine zm ?_;have hk2:¬k%3=2:=fun e=>q (by rw[e]);refine zh (y:=zu 2) (by kernel_rfl) (aN (vv zY 3 rfl (a1 (cB g 0 rfl (a1 ?_)))));refine yu (caps:=[]) (t:=.tup [7,8]) zY.inj (.of (by kernel_rfl)) (.tup (is:=[7,8]) (ps:=[_,_]) rfl) (nn) (fun z z=>rfl) (yj (vv zY 5 rfl (yg hl6 ?_)));refine ym ss tW (fun i=>.int ((sgn i).2:Nat)) (fun z=>true) rfl (F1 hsl) (fun extra=>zc hl6) (fun i hi extra=>⟨_,rfl,rfl,vv zY 8 rfl ⟨rfl,[],(List.append_nil _).symm⟩⟩) ?_;intros junk2;rw[wQ];refine(sg (ss.map fun i=>((sgn i).2:Int)) (m:=s6.length) (by rw[List.append_assoc];exact g0 (congrArg (fun l=>some (AO.list l)) (List.map_map ..).symm)) ?_ (by simp;exact F1 hsl) (r:=ss.map fun i=>(sgn i).2.toUInt8) (List.map_map ..) ⟨wA,?_⟩)
    ·intros x hx;obtain⟨i,_,rfl⟩:_:=List.mem_map.mp hx;have:=UY i;exact⟨(kL (0) ((sgn i).snd) (wD)),(kT ((sgn i).snd) (256) (F1 this))⟩
    ·have c7:=(ch.trans (c6.weak (rs':=[d,l]) (nn))).trans (((Ch.push [d,l] s6 [.list (ss.map fun i=>.int ((sgn i).2:Nat))]).push' junk2));have D7:=(D.ch c6 (wE) (wE)).ch ((Ch.push [] s6 [.list (ss.map fun i=>.int ((sgn i).2:Nat))]).push' junk2) (wE) (wE);have:=fin _ c7 D7;simpa[Fld.kind,hk2,Fld.text,Fld.name,Fld.told]using this
  ·intros a rest s p4_;obtain⟨ss,rest',hr,hsl,hss,ch,D,hl⟩:_:=p4_
   obtain⟨i,r,rfl⟩:∃i r,rest'=i::r:=by cases rest' with
    | nil=>exact nomatch hr
    | cons i r=>exact⟨i,r,rfl⟩
   rw[List.map_cons]at hr
   injection hr with h1 h2
   subst h1 h2;refine⟨trivial,_,rfl,?_⟩;refine sub (dat g 7 rfl (cF g 29 rfl (a2 (vv zY 0 rfl (zb (yH g (many:=16) D (wB) (wA) fun v hv s5 c5 D5=>WM (I6 (F1 hv)) (SA hv) ⟨ss.map tW,c5.get hl (by simp;exact⟨(Qr (F1 hd4.1)),(Qr (F1 hd4.2))⟩),?_,?_⟩))))))
   ·simp at hsl ⊢;exact F1 hsl
   ·refine⟨ss++[v],r,rfl,by simp at hsl ⊢;exact F1 hsl,?_,(ch.trans c5).set' _ (.inr c04.1),D5.ch (Ch.set (rs:=[s4.length]) s5 (m:=s4.length) _ (.head _)) (by simp;exact Ql (F1 hd4.1)) (by simp;exact Ql (F1 hd4.2)),?_⟩
    ·intros x hx
     rcases List.mem_append.mp hx with hx | hx
     ·exact hss x hx
     ·rw[List.mem_singleton.mp hx];exact hv
    ·rw[get_set (zv (c5.get hl (by simp;exact⟨(Qr (F1 hd4.1)),(Qr (F1 hd4.2))⟩)))];simp
 intros q;refine zm (zd ?_);refine za (z7 (zk rfl (vv zY 1 rfl (zb (z6 rfl (bod (?_) ?_))))))
 ·intros q;refine zo ?_;refine Zo zY 9 3 (sub (zr (aN (zp (aN (zh (y:=zu 0) (by kernel_rfl) (a1 (zh (y:=ko 0) (by kernel_rfl) ⟨wA,?_⟩))))))));refine aN (zp (aN (zh (y:=zu 1) (by kernel_rfl) (a1 (zh (y:=ko 1) (by kernel_rfl) ⟨wA,?_⟩)))));refine aN (zp (aN (zh (y:=zu 2) (by kernel_rfl) (a1 (zh (y:=ko 2) (by kernel_rfl) ⟨wA,?_⟩)))));refine a1 (zp (aN (zh (y:=zu 3) (by kernel_rfl) (a1 (zh (y:=ko 3) (by kernel_rfl) ⟨wA,wA,?_⟩)))));refine ze (vv zY 2 rfl (zb (zB (by decide) (zH zf (I6 (j:=(k%4)) (F1 (M4 (k)))) (at4 (fun i=>AV.tup [.str (zu i),.str (ko i)]) k) ⟨_,rfl,rfl,?_⟩))))
  have nl:(ko (k%4)).length<=5:=by
   have:k%4=0\/k%4=1\/k%4=2\/k%4=3:=by exact l4 (F1 (M4 (k)))
   rcases this with e | e | e | e<;>rw[e]<;>decide
  refine za (zq (zp (aN (ze (vv zY 3 rfl (zh (y:=[64]) (by kernel_rfl) (z9 (by simp;exact F1 nl) (aN (vv zY 9 rfl (aN (vv zY 3 rfl (a1 (yt ⟨wA,?_⟩)))))))))))));exact h (.off (k%4)) (Nat.mod_lt k (wB)) _ (c02.push' _) (D2.ch (Ch.push [] s2 _) (wE) (wE))
 ·intros q;refine zm (zd ?_);refine asg zY 3 (sub (zr (aN (zh (y:=uJ 0) (by kernel_rfl) (aN (zh (y:=uJ 1) (by kernel_rfl) (aN (zh (y:=uJ 2) (by kernel_rfl) (a1 (zh (y:=uJ 3) (by kernel_rfl) ⟨wA,?_⟩))))))))));refine ze (vv zY 2 rfl (zb (zB (by decide) (zH zf (I6 (j:=(k%4)) (F1 (M4 (k)))) (at4 (fun i=>AV.str (uJ i)) k) ?_))))
  have nl:(uJ (k%4)).length<=5:=by
   have:k%4=0\/k%4=1\/k%4=2\/k%4=3:=by exact l4 (F1 (M4 (k)))
   rcases this with e | e | e | e<;>rw[e]<;>decide
  refine za (zq (zp (aN (ze (zh (y:=[117,115,101,61]) (by kernel_rfl) (vv zY 3 rfl (z9 (by simp;exact F1 nl) (aN (zh (y:=zu 4) (by kernel_rfl) (aN (vv zY 3 rfl (a1 (yt ⟨wA,?_⟩)))))))))))));exact h (.use (k%4)) (Nat.mod_lt k (wB)) _ (c02.push' _) (D2.ch (Ch.push [] s2 _) (wE) (wE))
end
noncomputable instance:Nonempty Fld:=⟨.off 0⟩
noncomputable def oct (x:List Nat):List UInt8:=x.map Nat.toUInt8
noncomputable def zG (k:Nat):Nat->List (List Nat)
 | 0=>[[101]++wg (k:Nat)]
 | 1=>[[101]++wg (k:Nat),[116,104,101,32,101,110,116,114,121]]
 | _=>[[101]++wg (k:Nat),[102]++wg (k:Nat),[97,110,32,101,110,116,114,121]]
noncomputable def zW (I:InfoV) (F:Fld):InfoV :=
 if F.kind=4 then { I with uses:=I.uses++[oct F.name] }
 else if (yq (I.lot F.kind) (oct F.name)).isSome=true then I else I.setLot F.kind (yL (I.lot F.kind) (oct F.name) F.told)
noncomputable def un (ns:List (List Nat)) (fs:List Fld):InfoV:=fs.foldl zW ⟨ns.map oct,fun z=>[],[]⟩
noncomputable def xm (n:Nat):List Nat:=if n%2=0 then [9] else [32,32,32,32]
noncomputable def tA (rows:List (List Nat)) (some:List (List Nat)):List (List Nat):=if some=[] then rows else rows++[xm rows.length++zC [44,32] some++[44]]
noncomputable def V6 (ns:List (List Nat)) (ts:List (List Nat)) (c:Nat):List (List Nat):=tA (tA [zC [124] ns++[44]] (ts.take c)) (ts.drop c)
set_option genInjectivity false in
structure Ent where
 k:Nat
 j:Nat
 fs:List Fld
 c:Nat
structure Ent.ok (e:Ent):Prop where
 k:e.k<3
 j:e.j<3
 fs:∀F∈e.fs,F.ok
 len:e.fs.length<=5
 c:e.c<=e.fs.length
noncomputable def Ent.info (e:Ent):InfoV:=un (zG e.k e.j) e.fs
noncomputable def Ent.rows (e:Ent):List (List Nat):=V6 (zG e.k e.j) (e.fs.map Fld.text) e.c
noncomputable def wX:List Nat:=[110,97,109,101,115]
noncomputable def Zs (r:Nat->Nat):List (List Nat×AV):=[(wX,.ref (r 0)),(zu 0,.ref (r 1)),(zu 1,.ref (r 2)),(zu 2,.ref (r 3)),(zu 3,.ref (r 4)),(zu 4,.ref (r 5))]
structure WIn (st:St) (w:Nat) (r:Nat->Nat) (I:InfoV):Prop where
 dict:∃ep,st[w]?=some (.dictS ep (Zs r))
 info:zQ st r I
 apart:∀i,i<6->r i≠w
theorem WIn.ch {st st':St} {w:Nat} {r:Nat->Nat} {I:InfoV} {rs:List Nat} (h:WIn st w r I) (c:Ch rs st st') (hw:w∉rs) (hd:∀i,i<6->r i∉rs):WIn st' w r I:=by
 obtain⟨⟨ep,e⟩,h2,h3⟩:=h;exact⟨⟨ep,c.get e hw⟩,h2.ch c hd,h3⟩
theorem Y4 (r:Nat->Nat) {k:Nat} (h:k<5):yq (Zs r) (zu k)=some (.ref (r (k+1))):=by
 have:k=0\/k=1\/k=2\/k=3\/k=4:=by exact l5 (F1 h)
 rcases this with rfl | rfl | rfl | rfl | rfl<;>rfl
theorem Fld.kind_lt {F:Fld} (h:F.ok):F.kind<5:=by
 cases F with
 | truth i=>simp only[Fld.kind];split<;>decide
 | num i k p=>simp only[Fld.kind];split<;>decide
 | str i ss=>simp only[Fld.kind];split<;>decide
 | off i=>simp only[Fld.kind,Fld.ok]at *;exact F1 h
 | use i=>exact wC
theorem YX {k:Nat} (h:k<5):zu k=zu 4↔k=4:=by
 revert k h
 intros k h
 have:k=0\/k=1\/k=2\/k=3\/k=4:=by exact l5 (F1 h)
 rcases this with rfl | rfl | rfl | rfl | rfl<;>decide
theorem Fld.name_ok {F:Fld} (h:F.ok):(∀c∈F.name,c<256)/\F.name.length<=5:=by
 have k3:∀(f:Nat->List Nat),(∀i,i<3->(∀c∈f i,c<256)/\(f i).length<=5)->∀i,i<3->(∀c∈f i,c<256)/\(f i).length<=5:=fun f h=>h
 cases F with
 | truth i=>exact(by decide:∀i,i<3->(∀c∈yC i,c<256)/\(yC i).length<=5) i h
 | num i k p=>exact(by decide:∀i,i<3->(∀c∈yU i,c<256)/\(yU i).length<=5) i h.1
 | str i ss=>exact(by decide:∀i,i<3->(∀c∈yM i,c<256)/\(yM i).length<=5) i h.1
 | off i=>exact(by decide:∀i,i<4->(∀c∈ko i,c<256)/\(ko i).length<=5) i h
 | use i=>exact(by decide:∀i,i<4->(∀c∈uJ i,c<256)/\(uJ i).length<=5) i h
theorem kp {k:Int} (h0:0<=k) (h:k<200):(wg k).length<=3:=by
 have:=ux (k:=k.toNat) ((Int.toNat_lt h0).mpr h)
 rwa [Int.toNat_of_nonneg h0]at this
theorem X5 (ss:List Nat):(zC [] (ss.map fun i=>(sgn i).1)).length<=4*ss.length:=by
 have key:∀ss:List Nat,((ss.map fun i=>(sgn i).1).flatMap (([]:List Nat) ++ ·)).length<=4*ss.length:=by
  intro ss
  induction ss with
  | nil=>exact wC
  | cons a r ih =>
   have:=ZZ a;rw[List.map_cons,List.flatMap_cons,List.length_append];simp only[List.nil_append,List.length_cons]at ih ⊢;exact F2 ih this
 cases ss with
 | nil=>exact wC
 | cons a r =>
  have h1:=key r;have:=ZZ a;rw[List.map_cons,yR,List.length_append];simp only[List.length_cons];exact F2 h1 this
theorem Fld.text_len {F:Fld} (h:F.ok):F.text.length<=30:=by
 have hn:=(Fld.name_ok h).2
 cases F with
 | truth i=>simp only[Fld.name]at hn;simp only[Fld.text];exact F1 hn
 | num i k p =>
  simp only[Fld.name]at hn;simp only[Fld.ok]at h;have l0:=ux h.2.1;have l1:=kp (k:=(k:Int)/64) (kL (0) (k/64) (by exact wD)) (kT (k/64) (200) (F2 (Nat.div_le_self (k) (64)) h.2.1));have l2:=kp (k:=(k:Int)/8%8) (kL (0) (k/8%8) (by exact wD)) (kT (k/8%8) (200) (F1 (M8 (k/8))));have l3:=kp (k:=(k:Int)%8) (kL (0) (k%8) (by exact wD)) (kT (k%8) (200) (F1 (M8 (k))))
  have pl:(x8 k p).length<=10:=by
   have:p=0\/p=1\/p=2:=Mine.l3 (F1 h.2.2)
   rcases this with rfl | rfl | rfl
   ·simp only[x8];exact F1 l0
   ·exact wA
   ·simp only[x8,List.length_append,List.length_singleton];exact F3 l1 l2 l3
  simp only[Fld.text,List.length_append,List.length_singleton];exact F2 hn pl
 | str i ss =>
  simp only[Fld.name]at hn;simp only[Fld.ok]at h;have:=X5 ss;simp only[Fld.text,List.length_append,List.length_singleton];exact F5 (G hn this) h.2.1 h.2.1 h.2.1 h.2.1
 | off i=>simp only[Fld.name]at hn;simp only[Fld.text,List.length_append,List.length_singleton];exact F1 hn
 | use i=>simp only[Fld.name]at hn;simp only[Fld.text,List.length_append,List.length_cons,List.length_nil];exact F1 hn
theorem X6 {k j:Nat} (hk:k<3) (hj:j<3):(∀x∈zG k j,(∀c∈x,c<256)/\x.length<=10)/\(zG k j).length<=3:=by
 have:∀k,k<3->∀j,j<3->(∀x∈zG k j,(∀c∈x,c<256)/\x.length<=10)/\(zG k j).length<=3:=by decide +kernel
 exact this k hk j hj
theorem sP {sep:List Nat} {l:List (List Nat)} {c:Nat} (h:∀p∈l,p.length<=c):(zC sep l).length<=l.length*(c+sep.length):=by
 revert sep l c h
 intros sep l c h
 cases l with
 | nil=>exact wD
 | cons p r =>
  have h1:=h p (.head _)
  have h2:(r.flatMap (fun x=>sep++x)).length<=r.length*(c+sep.length):=by
   have hr:∀q∈r,q.length<=c:=fun q hq=>h q (.tail _ hq);clear h h1
   induction r with
   | nil=>exact wD
   | cons q r ih =>
    have h1:=hr q (.head _);have h2:=ih fun x hx=>hr x (.tail _ hx);rw[List.flatMap_cons,List.length_append,List.length_cons,Nat.succ_mul];simp only[List.length_append];exact F2 h1 h2
  rw[yR,List.length_append,List.length_cons,Nat.succ_mul];exact F2 h1 h2
theorem sum_le {l:List (List Nat)} {c:Nat} (h:∀p∈l,p.length<=c):(l.map List.length).sum<=l.length*c:=by
 induction l with
 | nil=>exact wD
 | cons p r ih =>
  have h1:=h p (.head _);have h2:=ih fun q hq=>h q (.tail _ hq);rw[List.map_cons,List.sum_cons,List.length_cons,Nat.succ_mul];exact F2 h1 h2
noncomputable instance:Nonempty Ent:=⟨⟨0,0,[],0⟩⟩
section
variable {B:Base} {n:Nat} {sc:Scope} {ρ:Rho} {Q X:AV->St->Prop} {st:St} {l:List String} {R:Fl->Rho->St->Prop} {XS:AV->Rho->St->Prop} {ps:List Stmt}
theorem Q4 (N:Nms l) (i0 i1 i2 i3:Nat) {q0 q1 q2 q3:Pos} {k:Nat} {tp pos:Pos} {e:Expr} (h:WE B (zx l) l.length n sc e ρ (fun a st'=>∃as,a = .tup as/\[i0,i1,i2,i3].length=as.length/\WSs B (zx l) l.length n sc ps (ρ.sets [i0,i1,i2,i3] as) R XS st') (fun t st'=>XS t ρ st') st)
  (hi:autoParam (uo sc l [i0,i1,i2,i3]=true) ak_) (hv:autoParam (∀env l',swapsWithSole [.Tuple [.Name (zx l i0) q0,.Name (zx l i1) q1,.Name (zx l i2) q2,.Name (zx l i3) q3] k tp] e l' env=pure false) af_)
  (hw:autoParam (∀env:Env,env.scope=sc->swappedStores [.Tuple [.Name (zx l i0) q0,.Name (zx l i1) q1,.Name (zx l i2) q2,.Name (zx l i3) q3] k tp] e env=pure none) af_) :
  WSs B (zx l) l.length n sc (.Assign [.Tuple [.Name (zx l i0) q0,.Name (zx l i1) q1,.Name (zx l i2) q2,.Name (zx l i3) q3] k tp] e pos::ps) ρ R XS st :=
 za (Z9 (is:=[i0,i1,i2,i3]) (ps:=[q0,q1,q2,q3]) N.inj (uo.at hi) rfl hv hw h)
noncomputable def nEnt:List String:=["deck","k","names","w","texts","go","text","sort","name","told","rows","cut","some"]
theorem yB:Nms nEnt:=.of (by decide +kernel)
theorem Q2:tP "list" "append" "list.append":=ke F.slot_list_append F.type_list_append
theorem Tz {F:Fld} (h:F.ok) (hk:¬F.kind=4):F.kind<4:=by have:=Fld.kind_lt h;exact F1 (nl (F1 this) hk)
theorem so {I:InfoV} {F:Fld} {c:Nat} (h:∀k,k<4->(I.lot k).length<=c):∀k,k<4->((zW I F).lot k).length<=c+1:=by
 revert I F c h
 intros I F c h;intros k hk;have hk':=h k hk;unfold zW
 split
 ·show (I.lot k).length<=c+1;exact F1 hk'
 ·split
  ·exact F1 hk'
  ·simp only[InfoV.setLot]
   split
   ·rename_i e;have:=xC (I.lot F.kind) (oct F.name) F.told;rw[<-e]at this ⊢;exact F2 hk' this
   ·exact F1 hk'
set_option maxHeartbeats 2000000 in
theorem XT (g:Gl B) {d l k:Nat} (hk:k<3) (hD:yJ st d l) (h:∀(e:Ent) (R W:Nat) (r:Nat->Nat) (st':St),e.ok->e.k=k->Ch [d,l] st st'->yJ st' d l->st.length<=R->st.length<=W->(∀i,i<6->st.length<=r i)->R≠W->(∀i,i<6->r i≠R) ->
  st'[R]?=some (.list (e.rows.map AV.str))->WIn st' W r e.info->Q (.tup [.ref R,.ref W]) st'):Spec B (n+3) (.ref 300) [.ref d,.int (k:Nat)] st Q X:=by
 revert B n Q X st g d l k hk hD h
 intros B n Q X st g d l k hk hD h;refine zP g 32 rfl yB [0,1] ?_;have l0:=ux (k:=k) (F1 hk);have hdl:=hD.lt;have big:(2:Nat) ^ 1900>=2 ^ 10:=Nat.pow_le_pow_right (by decide) (by decide);refine asg yB 2 (sub (zr (aN (zr (a1 (ze (zh (y:=[101]) (by decide +kernel) (cB g 6 rfl (a1 (vv yB 1 rfl (y_ (A6 (F1 hk)) (z9 (by simp;exact F1 l0) ⟨wB,?_⟩))))))))))));refine aN (zr (aN (ze (zh (y:=[101]) (by decide +kernel) (cB g 6 rfl (a1 (vv yB 1 rfl (y_ (A6 (F1 hk)) (z9 (by simp;exact F1 l0) (a1 (zh (y:=[116,104,101,32,101,110,116,114,121]) (by decide +kernel) ⟨wA,?_⟩)))))))))) );refine a1 (zr (aN (ze (zh (y:=[101]) (by decide +kernel) (cB g 6 rfl (a1 (vv yB 1 rfl (y_ (A6 (F1 hk)) (z9 (by simp;exact F1 l0) ?_)))))))));refine aN (ze (zh (y:=[102]) (by decide +kernel) (cB g 6 rfl (a1 (vv yB 1 rfl (y_ (A6 (F1 hk)) (z9 (by simp;exact F1 l0) (a1 (zh (y:=[97,110,32,101,110,116,114,121]) (by decide +kernel) ⟨wA,wA,?_⟩)))))))));generalize hs1:(st++[AO.list [.str ([101]++wg (k:Nat))]]++[AO.list [.str ([101]++wg (k:Nat)),.str [116,104,101,32,101,110,116,114,121]]]++[AO.list [.str ([101]++wg (k:Nat)),.str ([102]++wg (k:Nat)),.str [97,110,32,101,110,116,114,121]]])=s1
 have hs1l:s1.length=st.length+3:=by subst hs1;simp
 have hs1g:∀j,j<3->s1[st.length+j]?=some (.list ((zG k j).map AV.str)):=by
  intros j hj;subst hs1
  have:j=0\/j=1\/j=2:=by exact l3 (F1 hj)
  rcases this with rfl | rfl | rfl<;>simp[zG]
 have c1:Ch [] st s1:=by subst hs1;exact((Ch.push ..).push' _).push' _
 have e3:[AV.ref st.length,.ref (st++[AO.list [.str ([101]++wg (k:Nat))]]).length,.ref (st++[AO.list [.str ([101]++wg (k:Nat))]]++[AO.list [.str ([101]++wg (k:Nat)),.str [116,104,101,32,101,110,116,114,121]]]).length]=[AV.ref (st.length+0),.ref (st.length+1),.ref (st.length+2)]:=by simp
 rw[e3];have D1:=hD.ch ((c1.push' [.list [AV.ref (st.length+0),.ref (st.length+1),.ref (st.length+2)]])) (wE) (wE);refine cF g 29 rfl (a2 (vv yB 0 rfl (zb (yH g (many:=3) D1 (wB) (wA) ?_))));intros j hj s2 c2 D2;refine zH (c2.get zf (by simp;exact⟨(Qr (F2 hdl.1 (Re hs1l))),(Qr (F2 hdl.2 (Re hs1l)))⟩)) (I6 (F1 hj)) (Wl (fun j=>AV.ref (st.length+j)) j hj) ?_;have hn2:=c2.get (zc (hs1g j hj)) (by simp;exact⟨(Qr (F1 hdl.1)),(Qr (F1 hdl.2))⟩);have c02:Ch [d,l] st s2:=((c1.push' _).weak (nn)).trans c2;obtain⟨hnok,hnl⟩:_:=X6 hk hj;generalize hns:zG k j=ns at hn2 hnok hnl
 have hs2l:st.length+4<=s2.length:=by have:=c2.1;simp at this;exact F2 (Re hs1l) this
 refine asg yB 3 (th (dkS B) (rfl) (nofun) (by decide) ?_);intros ep;have hn2':=zc (t:=[(dkS B).ao ep []]) hn2;have hW0:(s2++[(dkS B).ao ep []])[s2.length]?=some ((dkS B).ao ep []):=zf;refine zh (y:=wX) (by decide +kernel) ?_;refine yu (caps:=[]) (t:=.one 8) yB.inj (.of (by decide +kernel)) (.one (i:=8)) (nn) (fun z z=>rfl) (yj (vv yB 2 rfl (yg hn2' ?_)));refine ym ns AV.str (fun x=>.bytes (oct x)) (fun z=>true) rfl (F1 hnl) (fun extra=>zc hn2') (?_) ?_
 ·intros x hx extra;refine⟨_,rfl,rfl,?_⟩;exact cF g 30 rfl (a1 (vv yB 8 rfl (y7 g (by have:=(hnok x hx).2;exact F1 this) (hnok x hx).1 fun s c=>⟨rfl,c.ex⟩)))
 intros junk;rw[wQ];refine zh (y:=zu 0) (by decide +kernel) (xS (dkB B) ?_);intros p0;refine zh (y:=zu 1) (by decide +kernel) (xS (dkB B) ?_);intros p1;refine zh (y:=zu 2) (by decide +kernel) (xS (dkB B) ?_);intros p2;refine zh (y:=zu 3) (by decide +kernel) (xS (dkB B) ?_);intros p3;refine zh (y:=zu 4) (by decide +kernel) (zr (zA ⟨by simp,?_⟩))
 have hNm:∀t:St,(s2++[(dkS B).ao ep []]++[AO.list (ns.map fun x=>.bytes (oct x))]++t)[s2.length+1]?=some (.list ((ns.map oct).map AV.bytes)):=by
  intros t;refine zc ?_;have:=zf (st:=s2++[(dkS B).ao ep []]) (o:=AO.list (ns.map fun x=>.bytes (oct x)));simpa[Function.comp_def]using this
 generalize hs3:(s2++[(dkS B).ao ep []]++[AO.list (ns.map fun x=>.bytes (oct x))]++junk)=s3
 have hs3l:s2.length+2<=s3.length:=by subst hs3;simp
 have hs3n:s3[s2.length+1]?=some (.list ((ns.map oct).map AV.bytes)):=by subst hs3;exact hNm _
 have hs3w:s3[s2.length]?=some (.dictS ep []):=by
  subst hs3;exact zc (zc hW0)
 have c23:Ch [] s2 s3:=by subst hs3;exact((Ch.push ..).push' _).push' _
 have er:(s2++[(dkS B).ao ep []]).length=s2.length+1:=by exact List.length_append
 rw[er];refine⟨Zs fun i=>if i=0 then s2.length+1 else s3.length+(i-1),?_,⟨ep,?_⟩,?_⟩
 ·simp[Zs,dkS,dkB]
 ·exact zc (zc (zc (zc (zc hs3w))))
 intros ep3;generalize hr:(fun i=>if i=0 then s2.length+1 else s3.length+(i-1))=r
 have hr0:r 0=s2.length+1:=by subst hr;rfl
 have hri:∀i,i≠0->r i=s3.length+(i-1):=fun i hi=>by subst hr;exact if_neg hi
 generalize hs4:(s3++[(dkB B).ao p0 []]++[(dkB B).ao p1 []]++[(dkB B).ao p2 []]++[(dkB B).ao p3 []]++[AO.list []]).set s2.length ((dkS B).ao ep3 (yy [] (Zs r)))=s4
 have hs4l:s4.length=s3.length+5:=by subst hs4;simp
 have c34:Ch [s2.length] s3 s4:=by
  subst hs4;exact(((((Ch.push ..).push' _).push' _).push' _).push' _).set' _ (.inl (.head _))
 have hWin:WIn s4 s2.length r ⟨ns.map oct,fun z=>[],[]⟩:=by
  refine⟨⟨ep3,?_⟩,⟨?_,?_,?_,?_⟩,?_⟩
  ·subst hs4;rw[get_set (by simp;exact F1 hs3l)]
   rfl
  ·rw[hr0];exact c34.get hs3n (by simp)
  ·intros q hq;rw[hri _ (Qr (by exact wB))]
   have:q=0\/q=1\/q=2\/q=3:=by exact l4 (F1 hq)
   rcases this with rfl | rfl | rfl | rfl
   ·exact⟨p0,by subst hs4;rw[List.getElem?_set_ne (Ql (F1 hs3l))];exact gp (gp (gp (gp gn)))⟩
   ·exact⟨p1,by subst hs4;rw[List.getElem?_set_ne (Ql (F1 hs3l))];exact gp (gp (gp g1))⟩
   ·exact⟨p2,by subst hs4;rw[List.getElem?_set_ne (Ql (F1 hs3l))];exact gp (gp g2)⟩
   ·exact⟨p3,by subst hs4;rw[List.getElem?_set_ne (Ql (F1 hs3l))];exact gp g3⟩
  ·rw[hri _ (Qr (by exact wB))];subst hs4;rw[List.getElem?_set_ne (Ql (F1 hs3l))];exact g4
  ·intros i j hi hj e
   by_cases h0:i=0
   ·by_cases h1:j=0
    ·exact AS (F1 (Le h0)) (F1 (Le h1))
    ·rw[h0,hr0,hri _ h1]at e;exact Z (F2 hs3l (Re e))
   ·by_cases h1:j=0
    ·rw[h1,hr0,hri _ h0]at e;exact Z (F2 hs3l (Le e))
    ·rw[hri _ h0,hri _ h1]at e;exact AS (F3 (Re (S1 (i) (1) (F1 (nr (wD) h0)))) (Le e) (Le (S1 (j) (1) (F1 (nr (wD) h1))))) (F3 (Re (S1 (j) (1) (F1 (nr (wD) h1)))) (Re e) (Le (S1 (i) (1) (F1 (nr (wD) h0)))))
  ·intros i hi e
   by_cases h0:i=0
   ·rw[h0,hr0]at e;exact Z (F1 (Le e))
   ·rw[hri _ h0]at e;exact Z (F2 hs3l (Le e))
 have hrlo:∀i,i<6->s2.length<r i/\r i<s4.length:=by
  intros i hi
  by_cases h0:i=0
  ·rw[h0,hr0];exact⟨(wC),(F2 hs3l (Re hs4l))⟩
  ·rw[hri _ h0,hs4l];exact⟨Nat.lt_of_lt_of_le (F1 hs3l) (Nat.le_add_right ..),Nat.add_lt_add_left (Nat.lt_succ_of_le (sa (F1 hi))) _⟩
 have c04:Ch [d,l] st s4:=c02.new ((c23.weak (rs':=[s2.length]) (nn)).trans c34) fun i hi=>.inr (by rw[List.mem_singleton.mp hi];exact F1 hs2l);have hn4:=c34.get (c23.get hn2 (wE)) (by simp;exact Ql (F2 hj hs2l));have D4:yJ s4 d l:=(D2.ch c23 (wE) (wE)).ch c34 (by simp;exact Ql (F2 hdl.1 hs2l)) (by simp;exact Ql (F2 hdl.2 hs2l));clear hs4 hr hs3 hri hr0 c34 hs3w hs3n hs3l hNm hn2';generalize hW:s2.length=W at hWin hrlo
 have hWl:st.length+4<=W:=by exact F2 hs2l (Le hW)
 clear hW hs1g;refine asg yB 4 (zr (zA ⟨by simp,?_⟩));have D5:=D4.ch (Ch.push [] s4 [.list []]) (wE) (wE);refine vN yB 5 (cI g 10 rfl (cF g 29 rfl (a2 (vv yB 0 rfl (zb (yH g (many:=6) D5 (wB) (wA) ?_))))));intros q hq s6 c6 D6;refine jV (J2 (j:=(q)) (F1 hq)) ?_;have hdl6:=D6.lt;have hdl4:=D4.lt
 have hWs4:W<s4.length:=by have:=hrlo 0 (wB);exact F2 this.1 this.2
 have hT6:s6[s4.length]?=some (.list []):=c6.get zf (by simp;exact⟨(Qr (F1 hdl4.1)),(Qr (F1 hdl4.2))⟩)
 have hs46:s4.length+1<=s6.length:=by have:=c6.1;simpa using this
 refine⟨Nat,List.range' 0 q,fun i=>.int (i:Nat),fun rest r' s=>Ch [d,l] st s/\yJ s d l/\s[st.length+j]?=some (.list (ns.map AV.str))/\s4.length<s.length/\(∃fs:List Fld,(∀F∈fs,F.ok)/\fs.length+rest.length<=5/\s[s4.length]?=some (.list (fs.map fun F=>.str F.text))/\WIn s W r (un (ns) fs)/\(∀k,k<4->((un ns fs).lot k).length<=fs.length)/\(un ns fs).uses.length<=fs.length) /\
  r'.get 0=some (.ref d)/\r'.get 2=some (.ref (st.length+j))/\r'.get 3=some (.ref W)/\r'.get 4=some (.ref s4.length),qT q 0,?_,?_,?_⟩
 ·refine⟨((c04.push' _).trans c6),D6,c6.get (zc hn4) (by simp;exact⟨(Qr (F1 hdl.1)),(Qr (F1 hdl.2))⟩),F1 hs46,⟨[],nn,by simp;exact F1 hq,hT6,?_,by simp[un],wC⟩,rfl,rfl,rfl,rfl⟩
  exact(hWin.ch (Ch.push [] _ _) (wE) (fun z z=>wE)).ch c6 (by simp;exact⟨(Qr (F2 hdl.1 hWl)),(Qr (F2 hdl.2 hWl))⟩) fun i hi hm=>by
   have:=hrlo i hi;simp at hm;exact hm.elim (fun q5_=>(Z (F4 hdl.1 hWl this.1 (Le q5_)))) fun q5_=>(Z (F4 hdl.2 hWl this.1 (Le q5_)))
 ·intros r' s p6_;obtain⟨ch,D,hn,hsl,⟨fs,hfs,hfl,hT,hWi,hlz,huz⟩,g0,g2,g3,g4⟩:_:=p6_;refine⟨trivial,?_⟩;simp only[List.length_nil,Nat.add_zero]at hfl;have hdl9:=D.lt;have hS1:=sum_le (c:=10) (l:=ns) fun x hx=>(hnok x hx).2;have hJ1:=sP (sep:=[124]) (c:=10) (l:=ns) fun x hx=>(hnok x hx).2;simp only[List.length_singleton]at hJ1;refine asg yB 10 (zr (a1 (ze (yf ⟨fun z=>rfl,fun z=>rfl,rfl,fun z=>rfl⟩ (zh (y:=[124]) (by decide +kernel) ⟨_,_,jA F.slot_str_join F.type_str_join,.str,a1 (vv yB 2 g2 (w5 hn (by simp;exact F2 hS1 (U 11 hnl)) (zh (y:=[44]) (by decide +kernel) (z9 (by simp;exact F2 (U 11 hnl) hJ1) ⟨wB,?_⟩))))⟩)))));have c7:=ch.push' [.list [.str (zC [124] ns++[44])]];have D7:=D.ch (Ch.push [] s [.list [.str (zC [124] ns++[44])]]) (wE) (wE);have hT7:=zc (t:=[.list [.str (zC [124] ns++[44])]]) hT;have hR7:(s++[AO.list [.str (zC [124] ns++[44])]])[s.length]?=some (.list ([zC [124] ns++[44]].map AV.str)):=zf;have hW7:=hWi.ch (Ch.push [] s [.list [.str (zC [124] ns++[44])]]) (wE) (fun z z=>wE)
  have hs7:(s++[AO.list [.str (zC [124] ns++[44])]]).length=s.length+1:=by exact List.length_append
  generalize (s++[AO.list [.str (zC [124] ns++[44])]])=s7 at c7 D7 hT7 hR7 hW7 hs7
  have hlen:(((fs.map fun F=>AV.str F.text).length:Nat):Int)+1=((fs.length+1:Nat):Int):=by rw[List.length_map];exact rfl
  refine asg yB 11 (cF g 29 rfl (a2 (vv yB 0 (a:=.ref d) (rn g0 rfl) (ze (cB g 2 rfl (a1 (vv yB 4 (rn g4 rfl) (vH hT7 (by simp;exact F1 hfl) (zb (zj ?_))))))))));rw[hlen];refine yH g (many:=fs.length+1) D7 (wB) (F1 hfl) ?_;intros c hc s8 c8 D8;have hT8:=c8.get hT7 (by simp;exact⟨(Qr (F1 hdl4.1)),(Qr (F1 hdl4.2))⟩);have hR8:=c8.get hR7 (by simp;exact⟨(Qr (F1 hdl9.1)),(Qr (F1 hdl9.2))⟩);have c08:=c7.trans c8
  have hW8:=hW7.ch c8 (by simp;exact⟨(Qr (F2 hdl.1 hWl)),(Qr (F2 hdl.2 hWl))⟩) fun i hi hm=>by
   have:=hrlo i hi;simp at hm;exact hm.elim (fun q5_=>(Z (F4 hdl.1 hWl this.1 (Le q5_)))) fun q5_=>(Z (F4 hdl.2 hWl this.1 (Le q5_)))
  have hs8:s7.length<=s8.length:=c8.1
  have e1:cut none (some (c:Nat)) (fs.map fun F=>AV.str F.text)=((fs.map Fld.text).take c).map AV.str:=by rw[vP];simp[List.map_take,Function.comp_def]
  have e2:cut (some (c:Nat)) none (fs.map fun F=>AV.str F.text)=((fs.map Fld.text).drop c).map AV.str:=by rw[jO];simp[List.map_drop,Function.comp_def]
  have txl:∀x∈fs.map Fld.text,x.length<=30:=by
   intros x hx;obtain⟨F,hF,rfl⟩:_:=List.mem_map.mp hx;exact Fld.text_len (hfs F hF)
  refine vN yB 12 (yj (zp (aN (zR (vv yB 4 (rn (rn g4 rfl) rfl) (vv yB 11 zg ⟨_,rfl,xz hT8 (by simp;exact F1 hfl) (a1 (zR (vv yB 4 (rn (rn g4 rfl) rfl) (vv yB 11 zg ⟨_,rfl,xz (zc hT8) (by simp;exact F1 hfl) ⟨wA,sb ?_⟩⟩))))⟩))))));rw[e1,e2];have hA:(s8++[AO.list (((fs.map Fld.text).take c).map AV.str)]++[AO.list (((fs.map Fld.text).drop c).map AV.str)])[s8.length]?=some (.list (((fs.map Fld.text).take c).map AV.str)):=zc zf
  have hB:(s8++[AO.list (((fs.map Fld.text).take c).map AV.str)]++[AO.list (((fs.map Fld.text).drop c).map AV.str)])[s8.length+1]?=some (.list (((fs.map Fld.text).drop c).map AV.str)):=by
   have:=zf (st:=s8++[AO.list (((fs.map Fld.text).take c).map AV.str)]) (o:=.list (((fs.map Fld.text).drop c).map AV.str));exact g1
  have c9:Ch [] s8 (s8++[AO.list (((fs.map Fld.text).take c).map AV.str)]++[AO.list (((fs.map Fld.text).drop c).map AV.str)]):=(Ch.push ..).push' _;rw[show (s8++[AO.list (((fs.map Fld.text).take c).map AV.str)]).length=s8.length+1 from by exact List.length_append];generalize (s8++[AO.list (((fs.map Fld.text).take c).map AV.str)]++[AO.list (((fs.map Fld.text).drop c).map AV.str)])=s9 at hA hB c9
  refine⟨Nat×List (List Nat),[(s8.length,(fs.map Fld.text).take c),(s8.length+1,(fs.map Fld.text).drop c)],fun p=>.ref p.1,fun rest r'' s'=>Ch [d,l] st s'/\yJ s' d l/\WIn s' W r (un ns fs)/\(∀p∈rest,s8.length<=p.1/\s'[p.1]?=some (.list (p.2.map AV.str))/\p.2.length<=5 /\ ∀x∈p.2,x.length<=30) /\
   (∃rws,s'[s.length]?=some (.list (rws.map AV.str))/\rws.length+rest.length<=3/\rest.foldl (fun acc p=>tA acc p.2) rws=V6 ns (fs.map Fld.text) c)/\r''.get 3=some (.ref W)/\r''.get 10=some (.ref s.length),rfl,?_,?_,?_⟩
  ·refine⟨c08.trans (c9.weak (nn)),D8.ch c9 (wE) (wE),hW8.ch c9 (wE) (fun z z=>wE),?_,⟨_,c9.get hR8 (wE),wC,rfl⟩,rn (rn g3 rfl) rfl,rn zg rfl⟩;intros p hp;simp only[List.mem_cons,wE,or_false]at hp
   rcases hp with rfl | rfl
   ·exact⟨wC,hA,by simp;exact F3 (Le (mL (c) (fs.length) (F1 hc))) hc hfl,fun x hx=>txl x (List.mem_of_mem_take hx)⟩
   ·exact⟨by simp,hB,by simp;exact F1 hfl,fun x hx=>txl x (List.mem_of_mem_drop hx)⟩
  ·intros r'' s' p7_;obtain⟨chF,DF,hWF,_,⟨rws,hRF,_,hrw⟩,k3,k10⟩:_:=p7_;refine⟨trivial,za (zq (zp (aN (vv yB 10 k10 (a1 (vv yB 3 k3 ⟨wA,?_⟩))))))⟩;refine h ⟨k,j,fs,c⟩ s.length W r s' ⟨hk,hj,hfs,hfl,Nat.le_of_lt_succ hc⟩ rfl chF DF ch.1 (F1 hWl) (fun i hi=>by have:=hrlo i hi;exact F2 hWl this.1) (Qr (F2 hWs4 hsl)) (fun i hi=>by have:=hrlo i hi;exact Ql (F2 hsl this.2)) ?_ ?_
   ·rw[hRF];show _=some (AO.list ((V6 (zG k j) (fs.map Fld.text) c).map AV.str));rw[hns,<-hrw];rfl
   ·show WIn s' W r (un (zG k j) fs);rw[hns];exact hWF
  ·intros p8_ rest r'' s' p9_;obtain⟨m,tx⟩:_:=p8_;obtain⟨chF,DF,hWF,hrs,⟨rws,hRF,hrl,hrw⟩,k3,k10⟩:_:=p9_;refine⟨trivial,?_⟩;obtain⟨hm8,hmg,hm5,hmx⟩:_:=hrs _ (.head _);simp only at hm8 hmg hm5 hmx hrl ⊢;have hdF:=DF.lt
   have k10':(r''.set 12 (.ref m)).get 10=some (.ref s.length):=by exact rn k10 rfl
   have k3':(r''.set 12 (.ref m)).get 3=some (.ref W):=by exact rn k3 rfl
   rw[List.foldl_cons]at hrw;simp only[List.length_cons]at hrl
   have hrs':∀{s'':St} {qs:List Nat},Ch qs s' s''->(∀i∈qs,i<s8.length\/s'.length<=i)->∀p∈rest,s8.length<=p.1/\s''[p.1]?=some (.list (p.2.map AV.str))/\p.2.length<=5 /\ ∀x∈p.2,x.length<=30:=fun {s'' qs} cq hq p hp=>by
    obtain⟨a1,a2,a3,a4⟩:_:=hrs p (.tail _ hp);refine⟨a1,cq.get a2 ?_,a3,a4⟩;intros hm;have:=zv a2;exact(hq _ hm).elim (fun q=>Nat.not_lt_of_le a1 q) fun q=>Nat.not_lt_of_le q this
   refine za (z7 (zk rfl (vv yB 12 zg (zr (zA ⟨by simp,xA (zc hmg) zf wU (bon (?_) ?_)⟩)))))
   ·intros q;refine zm (zd (zd ?_))
    have htx:tx=[]:=by simpa using q
    subst htx;have cp:Ch [] s' (s'++[AO.list []]):=Ch.push ..;exact⟨chF.trans (cp.weak (nn)),DF.ch cp (wE) (wE),hWF.ch cp (wE) (fun z z=>wE),hrs' cp (nn),⟨rws,zc hRF,F1 hrl,by rw[<-hrw];rfl⟩,k3',k10'⟩
   ·intros q;refine zo ?_
    have htx:¬tx=[]:=by simpa using q
    have cp:Ch [] s' (s'++[AO.list []]):=Ch.push ..;have cp2:=cp.push' [.list [.str [9],.str [32,32,32,32]]];have hRG:=cp2.get hRF (wE);have hmG:=cp2.get hmg (wE)
    have hx2:idx [AV.str [9],.str [32,32,32,32]] (((rws.map AV.str).length:Int)%2)=some (.str (xm rws.length)):=by
     rw[List.length_map,show ((rws.length:Nat):Int)%2=((rws.length%2:Nat):Int) from by exact rfl,sE];unfold xm
     by_cases hp:rws.length%2=0
     ·rw[hp];rfl
     ·rw[show rws.length%2=1 from by exact AS (F1 (M2 (rws.length))) (F1 (nr (wD) hp))];rfl
    have hS2:=sum_le (c:=30) (l:=tx) hmx;have hJ2:=sP (sep:=[44,32]) (c:=30) (l:=tx) hmx
    have hil:(xm rws.length).length<=4:=by unfold xm;split<;>simp
    simp only[List.length_cons,List.length_nil]at hJ2;refine app yB 10 (m:=s.length) k10' ⟨_,zc hRF⟩ (ze (ze (sub (zr (aN (zh (y:=[9]) (by decide +kernel) (a1 (zh (y:=[32,32,32,32]) (by decide +kernel) ⟨wA,ze (cB g 2 rfl (a1 (vv yB 10 k10' (vH hRG (by simp;exact F1 hrl) (zb (zB (by decide) (zH zf (by simp;exact I7 (j:=(rws.length%2)) (F1 (M2 (rws.length)))) hx2 ?_)))))))⟩))))))));refine yf ⟨fun z=>rfl,fun z=>rfl,rfl,fun z=>rfl⟩ (zh (y:=[44,32]) (by decide +kernel) ⟨_,_,jA F.slot_str_join F.type_str_join,.str,a1 (vv yB 12 zg (w5 hmG (by simp;exact F2 hS2 (U 32 hm5)) (z9 (F3 hil hJ2 (U 32 hm5)) (zh (y:=[44]) (by decide +kernel) (z9 (by simp;exact F3 hil hJ2 (U 32 hm5)) ⟨_,hRG,by simp;exact F1 hrl,zd (zd ?_)⟩)))))⟩);have cS:=Ch.set (rs:=[s.length]) (s'++[AO.list []]++[AO.list [.str [9],.str [32,32,32,32]]]) (m:=s.length) (.list (rws.map AV.str++[.str (xm rws.length++zC [44,32] tx++[44])])) (.head _);have cT:=(cp2.weak (rs':=[s.length]) (nn)).trans cS;refine⟨chF.new cT fun i hi=>.inr (by rw[List.mem_singleton.mp hi];exact ch.1),DF.ch cT (by simp;exact Ql (F1 hdl9.1)) (by simp;exact Ql (F1 hdl9.2)),hWF.ch cT (by simp;exact Ql (F2 hWs4 hsl)) (fun i hi=>by have:=hrlo i hi;simp;exact Ql (F2 hsl this.2)),hrs' cT (fun i hi=>.inl (by rw[List.mem_singleton.mp hi];exact F2 (Re hs7) hs8)),⟨rws++[xm rws.length++zC [44,32] tx++[44]],?_,by simp;exact F1 hrl,?_⟩,k3',k10'⟩
    ·rw[get_set (zv hRG)];simp
    ·rw[<-hrw]
     congr 1
     unfold tA;rw[if_neg htx]
 ·intros i rest r' s p10_;obtain⟨ch,D,hn,hsl,⟨fs,hfs,hfl,hT,hWi,hlz,huz⟩,g0,g2,g3,g4⟩:_:=p10_;refine⟨trivial,?_⟩;simp only[List.length_cons]at hfl;have hdl9:=D.lt;refine Q4 yB 6 7 8 9 (cF g 31 rfl (a1 (vv yB 0 (rn g0 rfl) (WH g D ?_))));intros F hF s7 c7 D7;refine⟨_,rfl,rfl,?_⟩;have hdl7:=D7.lt
  have r0:(((r'.set 5 (.int (i:Nat))).sets [6,7,8,9] [.str F.text,.str (zu F.kind),.str F.name,F.told])).get 0=some (.ref d):=by exact rn (rn (rn (rn (rn g0 rfl) rfl) rfl) rfl) rfl
  have r2:(((r'.set 5 (.int (i:Nat))).sets [6,7,8,9] [.str F.text,.str (zu F.kind),.str F.name,F.told])).get 2=some (.ref (st.length+j)):=by exact rn (rn (rn (rn (rn g2 rfl) rfl) rfl) rfl) rfl
  have r3:(((r'.set 5 (.int (i:Nat))).sets [6,7,8,9] [.str F.text,.str (zu F.kind),.str F.name,F.told])).get 3=some (.ref W):=by exact rn (rn (rn (rn (rn g3 rfl) rfl) rfl) rfl) rfl
  have r4:(((r'.set 5 (.int (i:Nat))).sets [6,7,8,9] [.str F.text,.str (zu F.kind),.str F.name,F.told])).get 4=some (.ref s4.length):=by exact rn (rn (rn (rn (rn g4 rfl) rfl) rfl) rfl) rfl
  have r6:(((r'.set 5 (.int (i:Nat))).sets [6,7,8,9] [.str F.text,.str (zu F.kind),.str F.name,F.told])).get 6=some (.str F.text):=by exact rn (rn (rn zg rfl) rfl) rfl
  have r7:(((r'.set 5 (.int (i:Nat))).sets [6,7,8,9] [.str F.text,.str (zu F.kind),.str F.name,F.told])).get 7=some (.str (zu F.kind)):=by exact rn (rn zg rfl) rfl
  have r8:(((r'.set 5 (.int (i:Nat))).sets [6,7,8,9] [.str F.text,.str (zu F.kind),.str F.name,F.told])).get 8=some (.str F.name):=by exact rn zg rfl
  have r9:(((r'.set 5 (.int (i:Nat))).sets [6,7,8,9] [.str F.text,.str (zu F.kind),.str F.name,F.told])).get 9=some F.told:=by exact zg
  generalize (((r'.set 5 (.int (i:Nat))).sets [6,7,8,9] [.str F.text,.str (zu F.kind),.str F.name,F.told]))=r1 at r0 r2 r3 r4 r6 r7 r8 r9;have hT7:=c7.get hT (by simp;exact⟨(Qr (F1 hdl4.1)),(Qr (F1 hdl4.2))⟩);have hn7:=c7.get hn (by simp;exact⟨(Qr (F1 hdl.1)),(Qr (F1 hdl.2))⟩)
  have hW7:=hWi.ch c7 (by simp;exact⟨(Qr (F2 hdl.1 hWl)),(Qr (F2 hdl.2 hWl))⟩) fun i hi hm=>by
   have:=hrlo i hi;simp at hm;exact hm.elim (fun q5_=>(Z (F4 hdl.1 hWl this.1 (Le q5_)))) fun q5_=>(Z (F4 hdl.2 hWl this.1 (Le q5_)))
  have hs7:=c7.1;obtain⟨hnm1,hnm2⟩:_:=Fld.name_ok hF;refine app yB 4 (m:=s4.length) r4 ⟨_,hT7⟩ (vv yB 6 r6 ⟨_,hT7,by simp;exact F1 hfl,?_⟩);have cS:=Ch.set (rs:=[s4.length]) s7 (m:=s4.length) (.list ((fs.map fun F=>AV.str F.text)++[.str F.text])) (.head _)
  have hT8:(s7.set s4.length (.list ((fs.map fun F=>AV.str F.text)++[.str F.text])))[s4.length]?=some (.list ((fs++[F]).map fun F=>AV.str F.text)):=by
   rw[get_set (zv hT7)];simp
  have c08:=(ch.trans c7).new cS fun i hi=>.inr (by rw[List.mem_singleton.mp hi];exact c04.1);have D8:=D7.ch cS (by simp;exact Ql (F1 hdl4.1)) (by simp;exact Ql (F1 hdl4.2));have hn8:=cS.get hn7 (by simp;exact Ql (F3 hj hWl hWs4))
  have hW8:=hW7.ch cS (by simp;exact Ql (F1 hWs4)) fun i hi hm=>by
   have:=hrlo i hi;simp at hm;exact Z (F2 this.2 (Re hm))
  have hs8:=cS.1;generalize (s7.set s4.length (.list ((fs.map fun F=>AV.str F.text)++[.str F.text])))=s8 at cS hT8 c08 D8 hn8 hW8 hs8;clear cS hT7 hn7 hW7
  have hfs':∀G∈fs++[F],G.ok:=by
   intros G hG
   rcases List.mem_append.mp hG with hG | hG
   ·exact hfs G hG
   ·rw[List.mem_singleton.mp hG];exact hF
  have eI:un ns (fs++[F])=zW (un ns fs) F:=by unfold un;rw[List.foldl_append];rfl
  have hdl8:=D8.lt
  have done:∀{s9:St} {qs:List Nat},Ch qs s8 s9->(∀q∈qs,(∃i,i<6/\q=r i)\/s8.length<=q)->WIn s9 W r (zW (un ns fs) F)->Ch [d,l] st s9/\yJ s9 d l/\s9[st.length+j]?=some (.list (ns.map AV.str))/\s4.length<s9.length/\(∃fs:List Fld,(∀F∈fs,F.ok)/\fs.length+rest.length<=5/\s9[s4.length]?=some (.list (fs.map fun F=>.str F.text))/\WIn s9 W r (un (ns) fs)/\(∀k,k<4->((un ns fs).lot k).length<=fs.length)/\(un ns fs).uses.length<=fs.length) /\
    r1.get 0=some (.ref d)/\r1.get 2=some (.ref (st.length+j))/\r1.get 3=some (.ref W)/\r1.get 4=some (.ref s4.length):=fun {s9 qs} cq hq hWq=>by
   have nq:∀x,x<s8.length->(∀i,i<6->x≠r i)->x∉qs:=by
    intros x hx hne hm
    rcases hq x hm with ⟨i,hi,e⟩ | q
    ·exact hne i hi e
    ·exact Z (F2 hx q)
   have hq9:=cq.1;refine⟨c08.new cq ?_,D8.ch cq (nq _ (F1 hdl8.1) fun i hi=>by have:=hrlo i hi;exact Ql (F3 hdl.1 hWl this.1)) (nq _ (F1 hdl8.2) fun i hi=>by have:=hrlo i hi;exact Ql (F3 hdl.2 hWl this.1)),cq.get hn8 (nq _ (zv hn8) fun i hi=>by have:=hrlo i hi;exact Ql (F3 hj hWl this.1)),F4 hsl hs7 hs8 hq9,⟨fs++[F],hfs',by simp;exact F1 hfl,cq.get hT8 (nq _ (zv hT8) fun i hi=>by have:=hrlo i hi;exact Qr (F1 this.2)),by rw[eI];exact hWq,?_,?_⟩,r0,r2,r3,r4⟩
   ·intros q hm;refine .inr ?_
    rcases hq q hm with ⟨i,hi,e⟩ | q'
    ·have:=hrlo i hi;exact F3 hWl (Re e) this.1
    ·have:=c08.1;exact F5 (G hWl hWs4) hsl hs7 hs8 q'
   ·intros k hk;rw[eI];have:=so (F:=F) hlz k hk;simpa using this
   ·rw[eI];unfold zW
    split
    ·simp;exact huz
    ·split
     ·simp;exact F1 huz
     ·simp[InfoV.setLot];exact F1 huz
  obtain⟨ep,hwd⟩:_:=hW8.dict;refine za (z7 (zk rfl (vv yB 7 r7 (zh (y:=zu 4) (by decide +kernel) (wZ (bod (?_) ?_))))))
  ·intros q;refine zo ?_;have hk4:F.kind=4:=(YX (Fld.kind_lt hF)).mp q;refine za (ul rfl (fun z z z=>rfl) (yf ⟨fun z=>rfl,fun z=>rfl,rfl,fun z=>rfl⟩ (sub (vv yB 3 r3 (zh (y:=zu 4) (by decide +kernel) (z5 (dkS B) (k:=zu 4) hwd (Y4 r (wC)) ⟨_,_,Q2,.list hW8.info.uses,?_⟩))))));refine a1 (cF g 30 rfl (a1 (vv yB 8 r8 (y7 g (F1 hnm2) hnm1 ?_))));intros s9 c9;refine vW (c9.get hW8.info.uses (wE)) (by simp;exact F2 hfl huz) ⟨rfl,zd (zd ?_)⟩;have hW9:=hW8.ch c9 (wE) (fun z z=>wE);refine done ((c9.weak (rs':=[r 5]) (nn)).trans (Ch.set s9 _ (.head _))) (fun q hq=>.inl ⟨5,wC,List.mem_singleton.mp hq⟩) ?_;have hu:=hW9.info.setUses ((un ns fs).uses++[oct F.name]);obtain⟨ep9,hwd9⟩:_:=hW9.dict;refine⟨⟨ep9,by rw[List.getElem?_set_ne (hW9.apart 5 (wC))];exact hwd9⟩,?_,hW9.apart⟩;unfold zW;rw[if_pos hk4];simpa[oct]using hu
  ·intros q;refine zm ?_;have hk4:¬F.kind=4:=fun e=>q ((YX (Fld.kind_lt hF)).mpr e);have hkl:=Tz hF hk4;refine za (z7 (zk rfl (cF g 30 rfl (a1 (vv yB 8 r8 (y7 g (F1 hnm2) hnm1 ?_))))));intros s9 c9;have hW9:=hW8.ch c9 (wE) (fun z z=>wE);obtain⟨ep9,hwd9⟩:_:=hW9.dict;obtain⟨epl,hlot⟩:_:=hW9.info.lot _ hkl;refine sub (vv yB 3 r3 (vv yB 7 r7 (z5 (dkS B) hwd9 (Y4 r (F1 hkl)) (xd (dkB B) g.hB hlot (bo (?_) ?_)))))
   ·intros q2;refine zo ?_
    have q3:¬(yq ((un ns fs).lot F.kind) (oct F.name)).isSome=true:=by simpa[oct]using q2
    refine za (wh (fun z z z=>rfl) (vv yB 9 r9 (sub (vv yB 3 r3 (vv yB 7 r7 (z5 (dkS B) hwd9 (Y4 r (F1 hkl)) (cF g 30 rfl (a1 (vv yB 8 r8 (y7 g (F1 hnm2) hnm1 ?_))))))))));intros s10 c10;have hW10:=hW9.ch c10 (wE) (fun z z=>wE);have hll:=hlz F.kind hkl;refine uc (dkB B) (c10.get hlot (wE)) (F2 hfl hll) ?_;intros ep11;refine zd (zd (zd ?_));have hset:=hW10.info.setLot hkl ep11 (yL ((un ns fs).lot F.kind) (oct F.name) F.told);obtain⟨ep10,hwd10⟩:_:=hW10.dict;refine done (((c9.trans c10).weak (rs':=[r (F.kind+1)]) (nn)).trans (Ch.set s10 _ (.head _))) (fun q hq=>.inl ⟨F.kind+1,F1 hkl,List.mem_singleton.mp hq⟩) ⟨⟨ep10,by rw[List.getElem?_set_ne (hW10.apart _ (F1 hkl))];exact hwd10⟩,?_,hW10.apart⟩;unfold zW;rw[if_neg hk4,if_neg q3];exact hset
   ·intros q2;refine zm (zd (zd (zd ?_)))
    have q3:(yq ((un ns fs).lot F.kind) (oct F.name)).isSome=true:=by simpa[oct]using q2
    refine done c9 (nn) ?_;unfold zW;rw[if_neg hk4,if_pos q3];exact hW9
end
section
variable {B:Base} {n:Nat} {sc:Scope} {ρ:Rho} {Q X:AV->St->Prop} {st:St} {k:Nat}
theorem RB {a:AV} (h:vD a):AEq B k st a a true:=by
 cases h with
 | none=>exact Sh
 | bool=>exact TI
 | @int v _ =>
  have:=t4 (B:=B) (k:=k) (st:=st) (i:=(v:Int)) (j:=(v:Int));simpa using this
 | @bytes b _=>simpa using vZ (B:=B) (k:=k) (st:=st) (i:=b) (j:=b)
theorem jy:∀{xs ys:List (List UInt8)},xs.length=ys.length->Uq B k st (xs.map AV.bytes) (ys.map AV.bytes) (decide (xs=ys))
 | [],[],_=>by exact rfl
 | x::xs,y::ys,h=>⟨_,_,vZ,jy (by simpa using h),by by_cases h1:x=y<;>by_cases h2:xs=ys<;>simp[h1,h2]⟩
 | [],_::_,h=>by exact nomatch h
 | _::_,[],h=>by exact nomatch h
theorem Xq {xs ys:List (List UInt8)}:u7 B k st (xs.map AV.bytes) (ys.map AV.bytes) (decide (xs=ys)):=by
 by_cases h:xs.length=ys.length
 ·exact .inr (jy h)
 ·refine .inl ⟨by simpa using h,?_⟩;simp;intro e;exact h (by rw[e])
theorem qu {m m':Nat} {xs ys:List (List UInt8)} (h1:st[m]?=some (.list (xs.map AV.bytes))) (h2:st[m']?=some (.list (ys.map AV.bytes))):AEq B (k+1) st (.ref m) (.ref m') (decide (xs=ys)):=by
 by_cases h:m=m'
 ·subst h
  have e:xs=ys:=by
   rw[h1]at h2
   injection h2 with h2
   injection h2 with h2
   exact(List.map_inj_right (fun a b e=>by injection e)).mp h2
  subst e;simpa using j4 (B:=B) (k:=k+1) (st:=st) (n:=m)
 ·exact XA h h1 h2 Xq
structure su (l l':List (List UInt8×AV)):Prop where
 len:l.length=l'.length
 get:∀x a,(x,a)∈l->yq l' x=some a/\vD a
theorem su.eq {l l':List (List UInt8×AV)} (h:su l l'):tn B k st l l':=by
 refine⟨h.len,fun i x a e=>?_⟩;refine xn (h.get x a (List.mem_of_getElem? e)) fun h1 h2=>?_;exact zw a h1 (RB h2)
structure vg (st:St) (m:Nat) (x:Nat->Nat) (I:InfoV):Prop where
 row:st[m]?=some (.list [.ref (x 0),.ref (x 1),.ref (x 2),.ref (x 3),.ref (x 4),.ref (x 5)])
 names:st[x 0]?=some (.list (I.names.map AV.bytes))
 lot:∀k,k<4->∃ep,st[x (k+1)]?=some (.dictB ep (I.lot k))
 uses:st[x 5]?=some (.list (I.uses.map AV.bytes))
theorem vg.ch {st':St} {m:Nat} {x:Nat->Nat} {I:InfoV} (h:vg st m x I) (c:Ch [] st st'):vg st' m x I where
 row:=c.get h.row (wE)
 names:=c.get h.names (wE)
 lot k hk:=by
  obtain⟨ep,e⟩:=h.lot k hk;exact⟨ep,c.get e (wE)⟩
 uses:=c.get h.uses (wE)
noncomputable def nSen:List String:=["info"]
theorem Vb:Nms nSen:=.of (by kernel_rfl)
theorem s_ (g:Gl B) {r:Nat->Nat} {I:InfoV} (hI:zQ st r I) (hz:I.names.length<=16777000/\I.uses.length<=16777000)
  (h:∀m x st',Ch [] st st'->st.length<=m->st.length<=x 0->st.length<=x 5->(∀k,k<4->x (k+1)=r (k+1))->vg st' m x I->Q (.ref m) st'):Spec B (n+1) (.ref 307) [zD r] st Q X:=by
 revert B n Q X st g r I hI hz h
 intros B n Q X st g r I hI hz h;refine zP g 33 rfl Vb [0] ?_;refine za (zq (zr (aN (cB g 7 rfl (a1 (att g 0 rfl (vv Vb 0 rfl (zV _ _ rfl rfl (ui hI.names (by simp;exact F1 hz.1) ?_)))))))));have c1:Ch [] st (st++[.list (I.names.map AV.bytes)]):=Ch.push ..;refine aN (att g 1 rfl (vv Vb 0 rfl ⟨_,_,rfl,rfl,aN (att g 2 rfl (vv Vb 0 rfl ⟨_,_,rfl,rfl,aN (att g 3 rfl (vv Vb 0 rfl ⟨_,_,rfl,rfl,aN (att g 4 rfl (vv Vb 0 rfl (zV _ _ rfl rfl ?_)))⟩))⟩))⟩));refine a1 (cB g 7 rfl (a1 (att g 5 rfl (vv Vb 0 rfl (zV _ _ rfl rfl (ui (zc hI.uses) (by simp;exact F1 hz.2) ⟨wA,?_⟩))))));have c2:Ch [] st (st++[.list (I.names.map AV.bytes)]++[.list (I.uses.map AV.bytes)]++[.list [.ref st.length,.ref (r 1),.ref (r 2),.ref (r 3),.ref (r 4),.ref (st++[AO.list (I.names.map AV.bytes)]).length]]):=(c1.push' _).push' _;refine h _ (fun i=>if i=0 then st.length else if i=5 then (st++[AO.list (I.names.map AV.bytes)]).length else r i) _ c2 (by simp) (wC) (by simp) (?_) ⟨zf,zc (zc zf),?_,zc zf⟩
 ·intros k hk;rw[if_neg (Qr (by exact wB)),if_neg (Ql (F1 hk))]
 ·intros k hk;obtain⟨ep,e⟩:_:=(hI.ch c2 (fun z z=>wE)).lot k hk;refine⟨ep,?_⟩;rw[if_neg (Qr (by exact wB)),if_neg (Ql (F1 hk))];exact e
noncomputable def nWfl:List String:=["w"]
theorem WD:Nms nWfl:=.of (by kernel_rfl)
theorem Yh (g:Gl B) {w:Nat} {r:Nat->Nat} {I:InfoV} (hW:WIn st w r I) (h:∀m st',Ch [] st st'->st.length<=m->vg st' m r I->Q (.ref m) st'):Spec B (n+1) (.ref 314) [.ref w] st Q X:=by
 revert B n Q X st g w r I hW h
 intros B n Q X st g w r I hW h;refine zP g 34 rfl WD [0] ?_;obtain⟨ep,hw⟩:_:=hW.dict;have hk:∀{k:Nat} {x:Nat} {Q:AV->St->Prop},yq (Zs r) (zu k)=some (.ref x)->Q (.ref x) st->ZX B (.ref w) (.str (zu k)) Q st:=fun h q=>z5 (dkS B) hw h q;refine za (zq (zr (aN (sub (vv WD 0 rfl (zh (y:=wX) (by kernel_rfl) (z5 (dkS B) (k:=wX) (a:=.ref (r 0)) hw rfl ?_)))))));refine aN (sub (vv WD 0 rfl (zh (y:=zu 0) (by kernel_rfl) (z5 (dkS B) (k:=zu 0) (a:=.ref (r 1)) hw rfl ?_))));refine aN (sub (vv WD 0 rfl (zh (y:=zu 1) (by kernel_rfl) (z5 (dkS B) (k:=zu 1) (a:=.ref (r 2)) hw rfl ?_))));refine aN (sub (vv WD 0 rfl (zh (y:=zu 2) (by kernel_rfl) (z5 (dkS B) (k:=zu 2) (a:=.ref (r 3)) hw rfl ?_))));refine aN (sub (vv WD 0 rfl (zh (y:=zu 3) (by kernel_rfl) (z5 (dkS B) (k:=zu 3) (a:=.ref (r 4)) hw rfl ?_))));refine a1 (sub (vv WD 0 rfl (zh (y:=zu 4) (by kernel_rfl) (z5 (dkS B) (k:=zu 4) (a:=.ref (r 5)) hw rfl ⟨wA,?_⟩))));have hI:=hW.info.ch (Ch.push [] st [.list [.ref (r 0),.ref (r 1),.ref (r 2),.ref (r 3),.ref (r 4),.ref (r 5)]]) (fun z z=>wE);exact h _ _ (Ch.push ..) (wC) ⟨zf,hI.names,hI.lot,hI.uses⟩
noncomputable def nTold:List String:=["octets","found","e"]
theorem jL:Nms nTold:=.of (by kernel_rfl)
theorem tz (g:Gl B) {b:List UInt8} (hz:b.length<=16770000) (hw:w6 b ≠ .wild) (hS:∀Is,w6 b = .done Is->∀P m st',Ch [] st st'->st.length<=m->xc st' st.length P->P.map (fun x=>x.2)=Is->st'[m]?=some (.list (avs P))->Q (.ref m) st')
  (hN:∀k,w6 b = .told k->∀st',Ch [] st st'->Q (.int (k:Nat)) st'):Spec B (n+6) (.ref 326) [.bytes b] st Q X:=by
 revert B n Q X st g b hz hw hS hN
 intros B n Q X st g b hz hw hS hN;refine zP g 36 rfl jL [0] ?_;refine asg jL 1 (yt ?_);refine za (XK (i:=1) (j:=2) g.hB g.bad g.hasDict jL.inj (by kernel_rfl) (by kernel_rfl) g.badG (by decide) (by decide) (by decide) (.inl (by kernel_rfl)) (by kernel_rfl) (by kernel_rfl) ?_);refine asg jL 1 (cF g 17 rfl (a1 (vv jL 0 rfl (Up g hz hw (fun Is hI P m st' c hm hP he hl=>zd (za (zq (vv jL 1 rfl (hS Is hI P m st' c hm hP he hl))))) fun k hk st' c=>⟨rfl,za (zq (vv jL 1 rfl (hN k hk st' c)))⟩))))
noncomputable def y5 (d:Nat->Nat):List (List Nat×AV):=[(zu 0,.ref (d 0)),(zu 1,.ref (d 1)),(zu 2,.ref (d 2)),(zu 3,.ref (d 3))]
structure wn (st:St) (m:Nat) (d:Nat->Nat) (l:xV):Prop where
 dict:∃ep,st[m]?=some (.dictS ep (y5 d))
 lot:∀k,k<4->∃ep,st[d k]?=some (.dictB ep (l k))
theorem wn.ch {st':St} {m:Nat} {d:Nat->Nat} {l:xV} {rs:List Nat} (h:wn st m d l) (c:Ch rs st st') (hm:m∉rs) (hd:∀k,k<4->d k∉rs):wn st' m d l where
 dict:=by
  refine zX (h.dict) fun ep e=>?_;exact⟨ep,c.get e hm⟩
 lot k hk:=by
  refine zX (h.lot k hk) fun ep e=>?_;exact⟨ep,c.get e (hd k hk)⟩
noncomputable def nPtg:List String:=["infos","name","found","info"]
theorem sW:Nms nPtg:=.of (by kernel_rfl)
theorem kO (g:Gl B) {lo m:Nat} {P:List ((Nat->Nat)×InfoV)} {name:List UInt8} (hz:∀p∈P,p.2.names.length<=1000/\(∀k,k<4->(p.2.lot k).length<=1000)/\p.2.uses.length<=1000) (hm:st[m]?=some (.list (avs P))) (hP:xc st lo P)
  (hw:xK (P.map (fun x=>x.2)) 5 name [] ≠ .wild) (hS:∀l,xK (P.map (fun x=>x.2)) 5 name [] = .ok l->∀q d st',Ch [] st st'->st.length<=q->(∀k,k<4->st.length<=d k)->wn st' q d l->Q (.ref q) st') (hN:xK (P.map (fun x=>x.2)) 5 name [] = .bad->∀st',Ch [] st st'->Q .none st') :
  Spec B (n+10) (.ref 333) [.ref m,.bytes name] st Q X:=by
 revert B n Q X st g lo m P name hz hm hP hw hS hN
 intros B n Q X st g lo m P name hz hm hP hw hS hN;refine zP g 37 rfl sW [0,1] ?_;refine asg sW 2 (yt ?_);refine za (Y3 (i:=2) g.hB g.bad sW.inj (by kernel_rfl) (by kernel_rfl) g.badG (by decide) (.inl (by kernel_rfl)) ?_);refine asg sW 3 (cF g 26 rfl (a2 (vv sW 0 rfl (vv sW 1 rfl (kJ g hz hm hP hw (?_) fun hb nm s1 c1=>za (zq (vv sW 2 rfl (hN hb s1 c1))))))));intros l hl r s1 ns c1 hr hI;refine asg sW 2 (th (dkS B) (rfl) (nofun) (by decide) ?_);intros ep;refine zh (y:=zu 0) (by kernel_rfl) (att g 1 rfl (vv sW 3 rfl (zV _ _ rfl rfl ?_)));refine zh (y:=zu 1) (by kernel_rfl) (att g 2 rfl (vv sW 3 rfl (zV _ _ rfl rfl ?_)));refine zh (y:=zu 2) (by kernel_rfl) (att g 3 rfl (vv sW 3 rfl (zV _ _ rfl rfl ?_)));refine zh (y:=zu 3) (by kernel_rfl) (att g 4 rfl (vv sW 3 rfl ⟨_,_,rfl,rfl,(uG (y5 fun k=>r (k+1)) rfl ⟨ep,zf⟩ ?_)⟩));intros ep3;refine zd (za (zq (vv sW 2 rfl ?_)));have cc:Ch [] s1 ((s1++[(dkS B).ao ep []]).set s1.length ((dkS B).ao ep3 (yy [] (y5 fun k=>r (k+1))))):=(Ch.push ..).set' _ (.inr (wC));refine hS l hl s1.length (fun k=>r (k+1)) _ (c1.trans cc) c1.1 (fun k hk=>hr _ (F1 hk)) ⟨⟨ep3,get_set (by simp)⟩,?_⟩;intros k hk;obtain⟨ep4,e⟩:_:=(hI.ch cc (fun z z=>wE)).lot k hk;exact⟨ep4,e⟩
end
noncomputable def Zi (l:List (List UInt8×AV)):List (List UInt8×AV):=yy [] (l.filter fun p=>!yT p.2)
noncomputable def xg (Is:List InfoV):Nat->List UInt8->List (List (List UInt8))->Res xV
 | 0,_,_=>.wild
 | f+1,name,ahead=>match Is.find? (fun I=>decide (name∈zL I.names))with
  | none=>.bad
  | some I=>if I.names∈ahead then .bad else
    (xM (fun u=>(xg Is f u (ahead++[I.names])).bind fun l=>yp l) I.uses I.lot).bind fun l=>.ok fun k=>Zi (l k)
theorem Yv:∀(Is:List InfoV) (x:List UInt8) (y:List (List (List UInt8))) (f:Nat),xg Is (f+1) x y=match Is.find? (fun I=>decide (x∈zL I.names))with | none=>.bad | some I=>if I.names∈y then .bad else (xM (fun u=>(xg Is f u (y++[I.names])).bind fun l=>yp l) I.uses I.lot).bind fun l=>.ok fun k=>Zi (l k):=fun a a a a=>rfl
noncomputable abbrev WT3:=Nat×(Nat->Nat)×InfoV
noncomputable def nWho:List String:=["lots","name","ahead","w","some","sorts","found","use","more","sort","key","it"]
theorem yo:Nms nWho:=.of (by kernel_rfl)
section
variable {B:Base} {nm:Nat->Str} {nN n:Nat} {sc:Scope} {ρ:Rho} {Q X:AV->St->Prop} {st:St}
theorem QD {m:Nat} {ns:List (List UInt8)} (hm:st[m]?=some (.list (ns.map AV.bytes))):∀{L:List (Nat×List (List UInt8))},(∀p∈L,st[p.1]?=some (.list (p.2.map AV.bytes)))->jZ B 40 st (.ref m) (L.map fun p=>.ref p.1) (decide (ns∈L.map (fun x=>x.2))):=by
 intro l_
 induction l_ with
 | nil =>
  intro _;exact rfl
 | cons p r ih_ =>
  intro h;exact zV _ _ (qu (k:=39) (h p (.head _)) hm) (ih_ fun q hq=>h q (.tail _ hq)) (by by_cases h1:p.2=ns<;>by_cases h2:ns∈r.map (fun x=>x.2)<;>simp[h1,h2,eq_comm]<;>(try (intro e;exact absurd e.symm h1)))
noncomputable def vG:List AV:=[.str (zu 0),.str (zu 1),.str (zu 2),.str (zu 3)]
theorem WX:vG=(List.range' 0 4).map fun k=>.str (zu k):=rfl
theorem je {t:Tg} {elt:Expr} {r0:Rho} {U:AV->St->Prop} {items:List AV} {guard:St->Prop} {st₁:St} (L:xV) (hitems:items=vG) (hg:∀s,Ch [] st₁ s->guard s)
  (helt:∀k,k<4->∀s,Ch [] st₁ s->∃r'',t.bind (.str (zu k)) r0=some r''/\WE B nm nN n sc elt r'' (fun a s'=>Ch [] s s' /\ ∃d,a = .tup [.str (zu k),.ref d]/\s.length<=d /\ ∃ep,s'[d]?=some (.dictB ep (L k))) noX s)
  (hU:∀d s,Ch [] st₁ s->(∀k,k<4->st₁.length<d k)->s[st₁.length]?=some (.list ((y5 d).map fun p=>.tup [.str p.1,p.2]))->(∀k,k<4->∃ep,s[d k]?=some (.dictB ep (L k)))->(∀i j,i<4->j<4->d i=d j->i=j)->U (.ref st₁.length) s) :
  Zc B nm nN n sc t elt [] r0 U items guard st₁:=by
 revert B nm nN n sc t elt r0 U items guard st₁ L hitems hg helt hU
 intros B nm nN n sc t elt r0 U items guard st₁ L hitems hg helt hU;subst hitems;refine⟨fun items s=>Ch [] st₁ s/\st₁.length<s.length /\ ∃(d:Nat->Nat) (j:Nat),j<=4/\items=(List.range' j (4-j)).map (fun k=>.str (zu k))/\s[st₁.length]?=some (.list ((List.range' 0 j).map fun k=>.tup [.str (zu k),.ref (d k)]))/\(∀k,k<j->st₁.length<d k/\d k<s.length /\ ∃ep,s[d k]?=some (.dictB ep (L k))) /\ ∀i k,i<k->k<j->d i<d k,?_,?_,?_⟩
 ·exact⟨Ch.push ..,by simp,fun z=>0,0,wD,rfl,zf,fun _ h=>(Nat.not_lt_zero _ h).elim,fun _ _ _ h=>(Nat.not_lt_zero _ h).elim⟩
 ·intros s p4_;obtain⟨ch,hsl,d,j,hj,hr,hl,hd,hi⟩:_:=p4_
  have:j=4:=by
   cases hq:4-j with
   | zero=>exact s4 hj hq
   | succ q=>rw[hq]at hr;exact nomatch hr
  subst this;refine⟨hg s ch,hU d s ch (fun k hk=>(hd k hk).1) hl (fun k hk=>(hd k hk).2.2) ?_⟩;intros i j h1 h2 e
  rcases Nat.lt_trichotomy i j with h | h | h
  ·have:=hi i j h h2;exact Z (F2 this (Re e))
  ·exact h
  ·have:=hi j i h h1;exact Z (F2 this (Le e))
 ·intros a rest s p5_;obtain⟨ch,hsl,d,j,hj,hr,hl,hd,hi⟩:_:=p5_
  have hj4:j<4:=by
   cases hq:4-j with
   | zero=>rw[hq]at hr;exact nomatch hr
   | succ q=>exact s5 hq
  obtain⟨e1,e2⟩:a = .str (zu j)/\rest=(List.range' (j+1) (4-(j+1))).map (fun k=>.str (zu k)):=by
   rw[show 4-j=(4-(j+1))+1 from by exact s1 hj4,List.range'_succ,List.map_cons]at hr
   injection hr with h1 h2
   exact⟨h1,h2⟩
  subst e1 e2;obtain⟨r'',hb,he⟩:_:=helt j hj4 s ch;refine⟨hg s ch,r'',hb,?_⟩;refine WE.mono (Q:=fun a s'=>Ch [] s s' /\ ∃d,a = .tup [.str (zu j),.ref d]/\s.length<=d /\ ∃ep,s'[d]?=some (.dictB ep (L j))) he ?_ fun z z q=>q;intros v s' p6_;obtain⟨c',d',rfl,hd',ep',e'⟩:_:=p6_;have hl':=c'.get hl (wE);have hdl:=zv e';refine⟨_,hl',by simp;exact F1 hj4,(ch.trans c').set' _ (.inr (wC)),?_,fun k=>if k=j then d' else d k,j+1,F1 hj4,rfl,?_,?_,?_⟩
  ·have:=c'.1;simp;exact F2 hsl this
  ·rw[get_set (zv hl'),List.range'_1_concat,List.map_append]
   have e:(List.range' 0 j).map (fun k=>AV.tup [.str (zu k),.ref (d k)])=(List.range' 0 j).map (fun k=>AV.tup [.str (zu k),.ref (if k=j then d' else d k)]):=by
    refine List.map_congr_left ?_;intros i hi;rw[List.mem_range'_1]at hi;rw[if_neg (Ql (F1 hi.2))]
   rw[e];simp
  ·intros k hk;dsimp only
   by_cases hkj:k=j
   ·subst hkj;rw[if_pos rfl];refine⟨F2 hsl hd',by simpa using hdl,ep',?_⟩;rw[List.getElem?_set_ne (Ql (F2 hsl hd'))];exact e'
   ·rw[if_neg hkj];obtain⟨h1,h2,ep2,h3⟩:_:=hd k (F1 (nl (F1 hk) hkj));have:=c'.1;refine⟨h1,by simp;exact F3 hd' hdl h2,ep2,?_⟩;rw[List.getElem?_set_ne (Ql (F1 h1))];exact c'.get h3 (wE)
  ·intros i k hik hk;dsimp only
   by_cases hkj:k=j
   ·subst hkj;rw[if_pos rfl,if_neg (Ql (F1 hik))];have:=(hd i hik).2.1;exact F2 hd' this
   ·rw[if_neg hkj,if_neg (Ql (F2 hik hk))];exact hi i k hik (F1 (nl (F1 hk) hkj))
theorem Xh (d:Nat->Nat):yy [] (y5 d)=y5 d:=rfl
theorem xI (d:Nat->Nat) {k:Nat} (h:k<4):yq (y5 d) (zu k)=some (.ref (d k)):=by
 have:k=0\/k=1\/k=2\/k=3:=by exact l4 (F1 h)
 rcases this with rfl | rfl | rfl | rfl<;>rfl
end
section
variable {B:Base} {n:Nat} {sc:Scope} {ρ:Rho} {Q X:AV->St->Prop} {st:St}
theorem Uu {Ps:List WT3} {q:InfoV->Bool}:(Ps.map (fun x=>x.2.2)).find? q=(Ps.find? fun p=>q p.2.2).map (fun x=>x.2.2):=by
 rw[List.find?_map];rfl
noncomputable abbrev Yl (B:Base) (Ps:List WT3) (f:Nat):Prop :=
 ∀{n:Nat} {Q X:AV->St->Prop} {st:St} {m ma:Nat} {name:List UInt8} {A:List (Nat×List (List UInt8))},st[m]?=some (.list (Ps.map fun p=>.ref p.1))->(∀p∈Ps,WIn st p.1 p.2.1 p.2.2)->st[ma]?=some (.list (A.map fun p=>.ref p.1))->(∀p∈A,st[p.1]?=some (.list (p.2.map AV.bytes)))->A.length<=1000-f->f<=100->xg (Ps.map (fun x=>x.2.2)) f name (A.map (fun x=>x.2)) ≠ .wild ->
  (∀l,xg (Ps.map (fun x=>x.2.2)) f name (A.map (fun x=>x.2)) = .ok l->∀q d st',Ch [] st st'->st.length<=q->(∀k,k<4->st.length<=d k)->wn st' q d l->Q (.ref q) st') ->
  (xg (Ps.map (fun x=>x.2.2)) f name (A.map (fun x=>x.2)) = .bad->∀st',Ch [] st st'->Q .none st')->Spec B (n+f+1) (.ref 319) [.ref m,.bytes name,.ref ma] st Q X
set_option maxHeartbeats 4000000 in
theorem Wj (g:Gl B) {Ps:List WT3} (hz:∀p∈Ps,p.2.2.names.length<=1000/\(∀k,k<4->(p.2.2.lot k).length<=1000)/\p.2.2.uses.length<=1000) (hPz:Ps.length<=1000) (f:Nat) (ih:Yl B Ps f):Yl B Ps (f+1):=by
 revert B g Ps hz hPz f ih
 intros B g Ps hz hPz f ih;intros n Q X st m ma name A hm hP hma hA hAl hf hw hS hN;rw[Yv,Uu]at hw hS hN;rw[show n+(f+1)+1=(n+f+1)+1 from by exact rfl];refine q_ g 35 rfl yo [0,1,2] ?_ (u6 _);refine za (Wb (caps:=[1]) (t:=.one 3) (i:=4) yo.inj (.of (by kernel_rfl)) (.one (i:=3)) (fun i hi=>by rw[List.mem_singleton.mp hi];exact⟨_,rfl⟩) (fun z z=>rfl) (by decide) (.inl (by kernel_rfl)) (by intro env hs;cases env;cases hs;rfl) (yj (vv yo 0 rfl (yg hm ?_))));refine ym Ps (fun p=>.ref p.1) (fun p=>.ref p.1) (fun p=>decide (name∈zL p.2.2.names)) rfl (F1 hPz) (fun extra=>zc hm) (?_) ?_
 ·intros p hp extra;refine⟨_,rfl,?_⟩;have hWp:=(hP p hp).ch (Ch.push [] st extra) (wE) (fun z z=>wE);obtain⟨ep,hwd⟩:_:=hWp.dict;have hzp:=(hz p hp).1;have hnm:=hWp.info.names
  have lk:∀{Q X:AV->St->Prop} {nn:Nat} {sc:Scope} {ρ:Rho} {p1 p2 p3:Pos} {k1:Nat} {s:Str},s=mkS wX->ρ.get 3=some (.ref p.1)->Q (.ref (p.2.1 0)) (st++extra)->WE B (zx nWho) nWho.length nn sc (.Subscript (.Name (zx nWho 3) p1) (.Constant (.str s) k1 p2) p3) ρ Q X (st++extra):=fun hs h3 hq =>
   sub (vv yo 3 h3 (zh (y:=wX) hs (z5 (dkS B) (k:=wX) hwd rfl hq)))
  refine zk rfl (vv yo 1 rfl (yE (zk rfl (cB g 2 rfl (a1 (lk (by kernel_rfl) rfl (vH hnm (by simp;exact F1 hzp) (zb (z6 rfl (bod (?_) ?_))))))))))
  ·intros q;refine zo ?_;have e:zL p.2.2.names=p.2.2.names.dropLast:=if_neg (by simp only[List.length_map]at q;exact Qr (F1 (iT q)));refine zR (lk (by kernel_rfl) rfl (uZ (zb (vn ⟨_,rfl,xz hnm (by simp;exact F1 hzp) ?_⟩))))
   have ec:cut none (some (-1)) (p.2.2.names.map AV.bytes)=p.2.2.names.dropLast.map AV.bytes:=by rw[YU,List.map_dropLast]
   rw[ec];refine x9 zf Yt ?_;rw[<-e];refine bod (?_) ?_
   ·intros q2;simp only[if_true];exact⟨decide_eq_true q2,vv yo 3 rfl ⟨rfl,[_],rfl⟩⟩
   ·intros q2;simp only[Bool.false_eq_true,if_false];exact⟨decide_eq_false q2,[_],rfl⟩
  ·intros q;refine zm ?_
   have e:zL p.2.2.names=p.2.2.names:=by
    simp only[List.length_map]at q;unfold zL
    split
    ·rfl
    ·have:p.2.2.names=[]:=List.length_eq_zero_iff.mp (AS (F1 (nl (F1 (iNT q)) ‹¬p.snd.snd.names.length=1›)) (by exact wD));rw[this];rfl
   refine lk (by kernel_rfl) rfl (x9 hnm Yt ?_);refine bod (?_) ?_
   ·intros q2;simp only[if_true];exact⟨decide_eq_true (by rw[e];exact q2),vv yo 3 rfl ⟨rfl,[],(List.append_nil _).symm⟩⟩
   ·intros q2;simp only[Bool.false_eq_true,if_false];exact⟨decide_eq_false (by rw[e];exact q2),[],(List.append_nil _).symm⟩
 intros junk;generalize hs1:(st++[AO.list ((Ps.filter fun p=>decide (name∈zL p.2.2.names)).map fun p=>.ref p.1)]++junk)=s1
 have c1:Ch [] st s1:=by subst hs1;exact(Ch.push ..).push' _
 have hl1:s1[st.length]?=some (.list ((Ps.filter fun p=>decide (name∈zL p.2.2.names)).map fun p=>.ref p.1)):=by subst hs1;exact zc zf
 have hhd:=List.head?_filter (p:=fun p:WT3=>decide (name∈zL p.2.2.names)) (l:=Ps)
 rcases tF (Ps.find? fun p=>decide (name∈zL p.2.2.names))with hfd | w1_
 ·try rw[hfd]
  rw[hfd]at hhd hN;have h0:(Ps.filter fun p=>decide (name∈zL p.2.2.names))=[]:=List.head?_eq_none_iff.mp hhd;rw[h0]at hl1;refine za (z7 (xE (zk rfl (vv yo 4 rfl (zr (zA ⟨wD,vA (zc hl1) zf wU (bod (?_) fun q=>absurd rfl q)⟩))))));intros q;refine zo (zo ?_);exact za (zq (yt (hN rfl _ (c1.push' _))))
 ·obtain⟨p,hfd⟩:_:=w1_
  try rw[hfd]
  rw[hfd]at hhd hN hS hw;simp only[Option.map_some]at hN hS hw
  have z2_:∃t,(Ps.filter fun p=>decide (name∈zL p.2.2.names))=p::t:=by
   rcases Wo ((Ps.filter fun p=>decide (name∈zL p.2.2.names)))with hq | w3_
   ·try rw[hq]
    rw[hq]at hhd;cases hhd
   ·obtain⟨a,t,hq⟩:_:=w3_
    try rw[hq]
    rw[hq]at hhd;cases hhd;exact⟨t,rfl⟩
  obtain⟨rest0,hr0⟩:_:=z2_;rw[hr0]at hl1;have hp:p∈Ps:=List.mem_of_find?_eq_some hfd;obtain⟨z1,z2,z3⟩:_:=hz p hp;have hW1:=(hP p hp).ch c1 (wE) (by exact fun z z=>wE);have c2:Ch [] s1 (s1++[.list []]):=Ch.push ..;have c02:=c1.trans c2;have hW2:=hW1.ch c2 (by exact wE) (by exact fun z z=>wE);obtain⟨ep,hwd⟩:_:=hW2.dict;refine za (z7 (xE (zk rfl (vv yo 4 rfl (zr (zA ⟨by exact wD,vA (zc hl1) zf wU (bod (fun q=>by exact nomatch q) ?_)⟩))))));intros q;refine zm ?_;refine xE (zk rfl (sub (sub (vv yo 4 rfl (zb (zH (a:=.ref p.1) (c2.get hl1 (by exact wE)) (by exact I6 (by exact wD)) rfl (zh (y:=wX) (by kernel_rfl) (z5 (dkS B) (k:=wX) (a:=.ref (p.2.1 0)) hwd rfl (vv yo 2 rfl (x9 (c02.get hma (by exact wE)) (QD hW2.info.names fun x hx=>c02.get (hA x hx) (by exact wE)) (bod (?_) ?_)))))))))) )
  ·intros q2;refine zo (zo ?_);exact za (zq (yt (hN (if_pos q2) _ c02)))
  intros q2;refine zm (xi (zm (zd ?_)));rw[if_neg q2]at hw hS hN;have hl2:=c2.get hl1 (by exact wE);refine Zo yo 3 5 (zp (aN (sub (vv yo 4 rfl (zb (zH (a:=.ref p.1) hl2 (by exact I6 (by exact wD)) rfl (a1 (zp (aN (zh (y:=zu 0) (by kernel_rfl) (aN (zh (y:=zu 1) (by kernel_rfl) (aN (zh (y:=zu 2) (by kernel_rfl) (a1 (zh (y:=zu 3) (by kernel_rfl) ⟨by exact wA,by exact wA,_,rfl,rfl,?_⟩)))))))))))))) ));generalize (s1++[AO.list []])=s2 at c2 c02 hW2 hwd hl2;refine asg yo 6 (cB g 8 rfl (a1 ?_));refine yu (caps:=[3]) (t:=.one 9) yo.inj (.of (by kernel_rfl)) (.one (i:=9)) (fun i hi=>by rw[List.mem_singleton.mp hi];exact⟨_,rfl⟩) (fun z z=>rfl) (yj (vv yo 5 rfl (sb ?_)));refine je p.2.2.lot rfl (fun z z=>trivial) (?_) ?_
  ·intros k hk s c;refine⟨_,rfl,?_⟩;have hWs:=hW2.ch c (by exact wE) (by exact fun z z=>wE);obtain⟨eps,hws⟩:_:=hWs.dict;obtain⟨epl,hlo⟩:_:=hWs.info.lot k hk;have hzk:=z2 k hk;refine zp (aN (vv yo 9 rfl (a1 (cB g 8 rfl (a1 (sub (vv yo 3 rfl (vv yo 9 rfl (z5 (dkS B) hws (Y4 _ (by exact F1 hk)) (vR g.hB hlo (by exact F1 hzk) fun ep5=>⟨by exact wA,Ch.push ..,_,rfl,wC,ep5,zf⟩))))))))))
  intros d s c hd hl hdl hinj;refine wz (dkS B) (kvs:=y5 d) hl (by exact wA) ?_;intros epf;rw[Xh];have c3:Ch [] s2 (s++[(dkS B).ao epf (y5 d)]):=c.push' _
  have hLIl:∀k,k<4->∃ep,(s++[(dkS B).ao epf (y5 d)])[d k]?=some (.dictB ep (p.2.2.lot k)):=by
   intros k hk;obtain⟨ep6,e⟩:_:=hdl k hk;exact⟨ep6,zc e⟩
  have hLI:wn (s++[(dkS B).ao epf (y5 d)]) s.length d p.2.2.lot:=⟨⟨epf,zf⟩,hLIl⟩
  have hdF:∀k,k<4->d k≠s.length:=by
   intros k hk;obtain⟨ep6,e⟩:_:=hdl k hk;have:=zv e;exact Ql (F1 this)
  have hs2s:=c.1;generalize hF:s.length=F at hLI hdF hs2s;generalize (s++[(dkS B).ao epf (y5 d)])=s3 at c3 hLI;have c03:=c02.trans c3;have hW3:=hW2.ch c3 (by exact wE) (by exact fun z z=>wE);obtain⟨ep3,hwd3⟩:_:=hW3.dict
  have hstd:∀k,k<4->st.length<=d k:=fun k hk=>by have:=hd k hk;have:=c02.1;exact F2 this ‹List.length s2<d k›
  have hstF:st.length<=F:=Nat.le_trans c02.1 hs2s;refine vN yo 7 (yj (sub (vv yo 3 rfl (zh (y:=zu 4) (by kernel_rfl) (z5 (dkS B) (k:=zu 4) hwd3 (Y4 _ (by exact wC)) (yg hW3.info.uses ?_))))))
  refine⟨List UInt8,p.2.2.uses,AV.bytes,fun rest r' s=>Ch [] st s/\(∃acc:xV,(∀k,k<4->(acc k).length+1000*rest.length<=10000000)/\wn s F d acc /\
   xM (fun u=>(xg (Ps.map (fun x=>x.2.2)) f u (A.map (fun x=>x.2)++[p.2.2.names])).bind fun l=>yp l) p.2.2.uses p.2.2.lot=xM (fun u=>(xg (Ps.map (fun x=>x.2.2)) f u (A.map (fun x=>x.2)++[p.2.2.names])).bind fun l=>yp l) rest acc)/\r'.get 0=some (.ref m)/\r'.get 2=some (.ref ma)/\r'.get 3=some (.ref p.1)/\r'.get 5=some (.tup vG)/\r'.get 6=some (.ref F),rfl,?_,?_,?_⟩
  ·exact⟨c03,⟨p.2.2.lot,fun k hk=>by have:=z2 k hk;exact F2 this (U 1000 z3),hLI,rfl⟩,rfl,rfl,rfl,rfl,rfl⟩
  ·intros r' s p5_;obtain⟨ch,⟨acc,hal,hL,hu⟩,g0,g2,g3,g5,g6⟩:_:=p5_;refine⟨((hP p hp).ch ch (by exact wE) (by exact fun z z=>wE)).info.uses,?_⟩;rw[hu]at hS;obtain⟨epF,hFd⟩:_:=hL.dict;refine za (zq (cB g 8 rfl (a1 ?_)));refine yu (caps:=[6]) (t:=.one 9) yo.inj (.of (by kernel_rfl)) (.one (i:=9)) (fun i hi=>by rw[List.mem_singleton.mp hi];exact⟨_,g6⟩) (fun z z=>rfl) (yj (vv yo 5 g5 (sb ?_)))
   have g6':(Rho.only [6] r').get 6=some (.ref F):=by
    unfold Rho.only;simp only[List.filterMap_cons,List.filterMap_nil,g6]
    rfl
   generalize Rho.only [6] r'=r0 at g6';refine je (fun k=>Zi (acc k)) rfl (fun z z=>trivial) (?_) ?_
   ·intros k hk s' c';refine⟨_,rfl,?_⟩;have hL':=hL.ch c' (by exact wE) (by exact fun z z=>wE);obtain⟨epf',hFd'⟩:_:=hL'.dict;obtain⟨epl,hlo⟩:_:=hL'.lot k hk;have hzk:=hal k hk
    have g6'':(r0.set 9 (.str (zu k))).get 6=some (.ref F):=by exact rn g6' rfl
    refine zp (aN (vv yo 9 zg (a1 (cB g 8 rfl (a1 ?_)))));refine yu (caps:=[]) (t:=.tup [10,11]) yo.inj (.of (by kernel_rfl)) (.tup (is:=[10,11]) (ps:=[_,_]) rfl) (by exact nn) (fun z z=>rfl) (T1 g.hB ⟨fun z=>rfl,fun z=>rfl,rfl,fun z=>rfl⟩ (sub (vv yo 6 g6'' (vv yo 9 zg (z5 (dkS B) hFd' (xI d hk) ⟨_,_,_,rfl,hlo,?_⟩)))));refine ym (acc k) (fun p=>.tup [.bytes p.1,p.2]) (fun p=>.tup [.bytes p.1,p.2]) (fun p=>!yT p.2) rfl (by exact F1 hzk) (fun extra=>zc hlo) (?_) ?_
    ·intros x hx extra;refine⟨_,rfl,?_⟩;refine zk rfl (vv yo 11 rfl (yt (xO (bo (?_) ?_))))
     ·intros q;simp only[if_true];exact⟨q,zp (aN (vv yo 10 rfl (a1 (vv yo 11 rfl ⟨by exact wA,rfl,[],by exact(List.append_nil _).symm⟩))))⟩
     ·intros q;simp only[Bool.false_eq_true,if_false];exact⟨q,[],by exact(List.append_nil _).symm⟩
    ·intros junk;have hfl:=List.length_filter_le (fun p=>!yT p.2) (acc k);refine wz (dkB B) (kvs:=(acc k).filter fun p=>!yT p.2) (m:=s'.length) ?_ (by exact F2 hzk hfl) fun ep2=>⟨by exact wA,((Ch.push ..).push' _).push' _,_,rfl,by simp,ep2,zf⟩;rw[List.append_assoc];simp[dkB]
   ·intros d' s' c' hd' hl' hdl' hinj';refine wz (dkS B) (kvs:=y5 d') hl' (by exact wA) ?_;intros epq;rw[Xh];refine hS _ rfl s'.length d' _ ((ch.trans c').push' _) (Nat.le_trans ch.1 c'.1) (fun k hk=>by have:=hd' k hk;have:=ch.1;exact F2 this ‹List.length s<d' k›) ⟨⟨epq,zf⟩,?_⟩;intros k hk;obtain⟨ep6,e⟩:_:=hdl' k hk;exact⟨ep6,zc e⟩
  ·intros u rest r' s p6_;obtain⟨ch,⟨acc,hal,hL,hu⟩,g0,g2,g3,g5,g6⟩:_:=p6_;have hWs:=(hP p hp).ch ch (by exact wE) (by exact fun z z=>wE);refine⟨hWs.info.uses,?_⟩;rw[sk]at hu
   have k0:(r'.set 7 (.bytes u)).get 0=some (.ref m):=by exact rn g0 rfl
   have k2:(r'.set 7 (.bytes u)).get 2=some (.ref ma):=by exact rn g2 rfl
   have k3:(r'.set 7 (.bytes u)).get 3=some (.ref p.1):=by exact rn g3 rfl
   have k5:(r'.set 7 (.bytes u)).get 5=some (.tup vG):=by exact rn g5 rfl
   have k6:(r'.set 7 (.bytes u)).get 6=some (.ref F):=by exact rn g6 rfl
   have k7:(r'.set 7 (.bytes u)).get 7=some (.bytes u):=zg;show WSs _ _ _ _ _ _ (r'.set 7 (.bytes u)) _ _ _;generalize (r'.set 7 (.bytes u))=r1 at k0 k2 k3 k5 k6 k7;obtain⟨epw,hwds⟩:_:=hWs.dict;refine asg yo 8 (cF g 35 rfl (aN (vv yo 0 k0 (a2 (vv yo 7 k7 (ze (vv yo 2 k2 (zr (a1 (sub (vv yo 3 k3 (zh (y:=wX) (by kernel_rfl) (z5 (dkS B) (k:=wX) (a:=.ref (p.2.1 0)) hwds rfl ⟨by exact wB,?_⟩)))))))))))) );refine yA (zc (ch.get hma (by exact wE))) zf (by simp;exact F2 hAl (Le (S1 (1000) (f+1) (F1 hf)))) ?_;have c3:Ch [] s ((s++[AO.list [.ref (p.2.1 0)]])++[.list ((A.map fun p=>AV.ref p.1)++[.ref (p.2.1 0)])]):=(Ch.push ..).push' _
   have hma3:((s++[AO.list [.ref (p.2.1 0)]])++[.list ((A.map fun p=>AV.ref p.1)++[.ref (p.2.1 0)])])[(s++[AO.list [.ref (p.2.1 0)]]).length]?=some (.list ((A++[(p.2.1 0,p.2.2.names)]).map fun p=>.ref p.1)):=by
    rw[List.map_append];exact zf
   generalize ((s++[AO.list [.ref (p.2.1 0)]])++[.list ((A.map fun p=>AV.ref p.1)++[.ref (p.2.1 0)])])=s4 at c3 hma3;have c04:=ch.trans c3
   have eA:(A++[(p.2.1 0,p.2.2.names)]).map (fun x=>x.2)=A.map (fun x=>x.2)++[p.2.2.names]:=by rw[List.map_append];rfl
   have nw:xg (Ps.map (fun x=>x.2.2)) f u ((A++[(p.2.1 0,p.2.2.names)]).map (fun x=>x.2)) ≠ .wild:=by
    intros h;rw[eA]at h;rw[h]at hu;rw[hu]at hw;exact hw rfl
   refine ih (c04.get hm (by exact wE)) (fun x hx=>(hP x hx).ch c04 (by exact wE) (by exact fun z z=>wE)) hma3 (?_) (by simp;exact F3 hAl (Le (S1 (1000) (f+1) (F1 hf))) (Re (S1 (1000) (f) (F1 hf)))) (by exact F1 hf) nw (?_) fun hb s5 c5=>?_
   ·intros x hx
    rcases List.mem_append.mp hx with hx | hx
    ·exact c04.get (hA x hx) (by exact wE)
    ·rw[List.mem_singleton.mp hx];exact c3.get hWs.info.names (by exact wE)
   ·intros l hl q dq s5 c5 hq hdq hLq;rw[eA]at hl;rw[hl,show (Res.ok l).bind (fun l=>yp l)=yp l from rfl]at hu
    by_cases hsm:tR l=true
    ·rw[show yp l = .ok l from if_pos hsm]at hu;have hsl:=jm hsm;have c05:=c04.trans c5;have hL5:=hL.ch (c3.trans c5) (by exact wE) (by exact fun z z=>wE);have hs4l:=c3.1
     have hFs:F<s.length:=by
      obtain⟨e1,e2⟩:_:=hL.dict;exact zv e2
     have hds:∀k,k<4->d k<s.length:=by
      intros k hk;obtain⟨e1,e2⟩:_:=hL.lot k hk;exact zv e2
     have k3':(r1.set 8 (.ref q)).get 3=some (.ref p.1):=by exact rn k3 rfl
     have k0':(r1.set 8 (.ref q)).get 0=some (.ref m):=by exact rn k0 rfl
     have k2':(r1.set 8 (.ref q)).get 2=some (.ref ma):=by exact rn k2 rfl
     have k5':(r1.set 8 (.ref q)).get 5=some (.tup vG):=by exact rn k5 rfl
     have k6':(r1.set 8 (.ref q)).get 6=some (.ref F):=by exact rn k6 rfl
     have k8':(r1.set 8 (.ref q)).get 8=some (.ref q):=zg;generalize (r1.set 8 (.ref q))=r2 at k0' k2' k3' k5' k6' k8';refine za (z7 (zk rfl (vv yo 8 k8' (yt (w9 (bo (fun q=>by cases q) ?_))))));intros _;refine zm (zd ?_);refine vN yo 9 (yj (vv yo 5 k5' (sb ⟨Nat,List.range' 0 4,fun k=>.str (zu k),fun rest' r'' s'=>Ch [] st s'/\(∃j,j<=4/\rest'=List.range' j (4-j)/\wn s' F d (fun k=>if k<j then yF (acc k) (l k) else acc k)/\wn s' q dq l)/\r''.get 0=some (.ref m)/\r''.get 2=some (.ref ma)/\r''.get 3=some (.ref p.1)/\r''.get 5=some (.tup vG)/\r''.get 6=some (.ref F)/\r''.get 8=some (.ref q),WX,?_,?_,?_⟩)))
     ·exact⟨c05,⟨0,by exact wD,rfl,by exact hL5,hLq⟩,k0',k2',k3',k5',k6',k8'⟩
     ·intros r'' s6 p7_;obtain⟨c6,⟨j,hj,hr,hL6,hLq6⟩,i0,i2,i3,i5,i6,i8⟩:_:=p7_;refine⟨trivial,zd ⟨c6,⟨fun k=>yF (acc k) (l k),?_,⟨hL6.dict,?_⟩,hu⟩,i0,i2,i3,i5,i6⟩⟩
      ·intros k hk;have h1:=hal k hk;have h2:=hsl k hk;have h3:=qj (acc k) (l k);simp only[List.length_cons]at h1;show (yF (acc k) (l k)).length+1000*rest.length<=10000000;exact F3 h1 h2 h3
      ·intros k hk
       have hj4:j=4:=by
        rcases Qi (4-j)with hq | w4_
        ·try rw[hq]
         exact AS (F1 hj) (F2 (Re (S1 (4) (j) (F1 hj))) (Le hq))
        ·obtain⟨q,hq⟩:_:=w4_
         try rw[hq]
         rw[hq]at hr;exact nomatch hr
       obtain⟨e1,e2⟩:_:=hL6.lot k hk;exact⟨e1,by rw[e2,if_pos (by exact F2 hk (Re hj4))]⟩
     ·intro k rest' r'' s6 p1z;refine Q5 (p1z) fun c6 n4z i0 i2 i3 i5 i6 i8=>?_;try clear p1z;refine Y6 (n4z) fun j hj hr hL6 hLq6=>?_;try clear n4z;refine⟨trivial,?_⟩
      have hj4:j<4:=by
       cases hq:4-j with
       | zero=>rw[hq]at hr;exact nomatch hr
       | succ q=>exact F2 (Le (S1 (4) (j) (F1 hj))) (Re hq)
      obtain⟨e1,e2⟩:k=j/\rest'=List.range' (j+1) (4-(j+1)):=by
       rw[show 4-j=(4-(j+1))+1 from by exact AS (F2 (Le (S1 (4) (j) (F1 hj))) (Re (S1 (4) (j+1) (F1 hj4)))) (F2 (Le (S1 (4) (j+1) (F1 hj4))) (Re (S1 (4) (j) (F1 hj)))),List.range'_succ]at hr
       injection hr with h1 h2
       exact⟨h1,h2⟩
      subst e1 e2;refine zX (hLq6.dict) fun epq hqd=>?_;refine zX (hLq6.lot k hj4) fun epk hqk=>?_
      have i8':(r''.set 9 (.str (zu k))).get 8=some (.ref q):=by exact rn i8 rfl
      have hzl:=hsl k hj4;have hza:=hal k hj4;simp only[List.length_cons]at hza;refine vN yo 10 (yj (sub (vv yo 8 i8' (vv yo 9 zg (z5 (dkS B) hqd (xI dq hj4) (ZH g.hB hqk ?_))))))
      refine⟨List UInt8,(l k).map (fun x=>x.1),AV.bytes,fun rest2 r3 s7=>Ch [] st s7/\(∀x∈rest2,x∈(l k).map (fun x=>x.1))/\s7[dq k]?=some (.dictB epk (l k))/\wn s7 q dq l/\(∃a2,a2.length+rest2.length<=16777000/\wn s7 F d (fun i=>if i<k then yF (acc i) (l i) else if i=k then a2 else acc i)/\yF (acc k) (l k)=rest2.foldl (fun acc x=>if (yq acc x).isSome=true then acc else yL acc x ((yq (l k) x).getD .none)) a2) /\
       r3.get 0=some (.ref m)/\r3.get 2=some (.ref ma)/\r3.get 3=some (.ref p.1)/\r3.get 5=some (.tup vG)/\r3.get 6=some (.ref F)/\r3.get 8=some (.ref q)/\r3.get 9=some (.str (zu k)),by rw[List.map_map];rfl,?_,?_,?_⟩
      ·refine⟨c6,fun x h=>h,hqk,hLq6,⟨acc k,by simp;exact F2 hzl hza,⟨hL6.dict,fun i hi=>?_⟩,rfl⟩,by simp[Rho.get_set,i0],by simp[Rho.get_set,i2],by simp[Rho.get_set,i3],by simp[Rho.get_set,i5],by simp[Rho.get_set,i6],i8',zg⟩;refine zX (hL6.lot i hi) fun ep e=>?_;refine⟨ep,?_⟩;rw[e]
       by_cases h1:i<k
       ·simp[h1]
       ·by_cases h2:i=k
        ·subst h2;simp
        ·simp[h1,h2]
      ·intro r3 s7 p2z;refine T9 (p2z) fun c7 z hqk7 hLq7 n5z j0 j2 j3 j5 n6z=>?_;try clear p2z;refine yY (n5z) fun a2 z hL7 hacc=>?_;try clear n5z;refine t_ (n6z) fun j6 j8 j9=>?_;try clear n6z;refine⟨hqk7,zd ⟨c7,⟨k+1,by exact F1 hj4,rfl,⟨hL7.dict,fun i hi=>?_⟩,hLq7⟩,j0,j2,j3,j5,j6,j8⟩⟩;refine zX (hL7.lot i hi) fun ep e=>?_;refine⟨ep,?_⟩;rw[e]
       by_cases h1:i<k
       ·simp[h1,Nat.lt_succ_of_lt h1]
       ·by_cases h2:i=k
        ·subst h2;simp[hacc]
        ·simp[h1,h2];exact fun q5_=>(Z (F2 (nl (F1 q5_) h2) (Nt h1)))
      ·intro x rest2 r3 s7 p3z;refine T9 (p3z) fun c7 hxs hqk7 hLq7 n7z j0 j2 j3 j5 n8z=>?_;try clear p3z;refine yY (n7z) fun a2 hal2 hL7 hacc=>?_;try clear n7z;refine t_ (n8z) fun j6 j8 j9=>?_;try clear n8z;refine⟨hqk7,?_⟩;refine zn (wF (hxs x (.head _))) fun v hv z=>?_;refine zX (hL7.dict) fun epF hFd=>?_;refine zX (hL7.lot k hj4) fun ep5 hlot=>?_;simp only[Nat.lt_irrefl,if_false,if_true]at hlot;refine zX (hLq7.dict) fun epq7 hqd7=>?_
       have n0:(r3.set 10 (.bytes x)).get 0=some (.ref m):=by simp[Rho.get_set,j0]
       have n2:(r3.set 10 (.bytes x)).get 2=some (.ref ma):=by simp[Rho.get_set,j2]
       have n3:(r3.set 10 (.bytes x)).get 3=some (.ref p.1):=by simp[Rho.get_set,j3]
       have n5:(r3.set 10 (.bytes x)).get 5=some (.tup vG):=by simp[Rho.get_set,j5]
       have n6:(r3.set 10 (.bytes x)).get 6=some (.ref F):=by simp[Rho.get_set,j6]
       have n8:(r3.set 10 (.bytes x)).get 8=some (.ref q):=by simp[Rho.get_set,j8]
       have n9:(r3.set 10 (.bytes x)).get 9=some (.str (zu k)):=by simp[Rho.get_set,j9]
       rw[List.foldl_cons]at hacc;simp only[List.length_cons]at hal2;have hdl:=xC a2 x v;refine za (z7 (zk rfl (vv yo 10 zg (sub (vv yo 6 n6 (vv yo 9 n9 (z5 (dkS B) hFd (xI d hj4) (xd (dkB B) g.hB hlot (bo (fun q=>zo ?_) fun q=>zm (zd (zd ?_)))))))))))
       ·have q':¬(yq a2 x).isSome=true:=by simpa using q
        rw[if_neg q',hv]at hacc;refine za (wh (fun z z z=>rfl) (sub (sub (vv yo 8 n8 (vv yo 9 n9 (z5 (dkS B) hqd7 (xI dq hj4) (vv yo 10 zg (z5 (dkB B) hqk7 hv (sub (vv yo 6 n6 (vv yo 9 n9 (z5 (dkS B) hFd (xI d hj4) (vv yo 10 zg (uc (dkB B) hlot (by exact F1 hal2) fun ep6=>zd (zd ?_)))))))))))))));have cS:Ch [d k] s7 (s7.set (d k) (.dictB ep6 (yL a2 x v))):=Ch.set _ _ (by simp);have hdk:=hds k hj4;have hs45:=c5.1;refine⟨c7.new cS fun i hi=>.inr (by rw[List.mem_singleton.mp hi];exact hstd k hj4),fun y hy=>hxs y (.tail _ hy),cS.get hqk7 (by have:=hdq k hj4;simp;exact Qr (F3 hs4l hdk this)),hLq7.ch cS (by simp;exact Qr (F3 hq hs4l hdk)) (fun i hi=>by have:=hdq i hi;simp;exact Qr (F3 hs4l hdk this)),⟨yL a2 x v,by exact F2 hal2 hdl,⟨⟨epF,cS.get hFd (by have:=hdF k hj4;simp;exact fun q5_=>(this q5_.symm))⟩,fun i hi=>?_⟩,hacc⟩,n0,n2,n3,n5,n6,n8,n9⟩
        by_cases h2:i=k
        ·subst h2;refine⟨ep6,?_⟩;rw[get_set (zv hlot)];simp
         rfl
        ·refine zX (hL7.lot i hi) fun ep e=>?_;refine⟨ep,?_⟩;rw[List.getElem?_set_ne (fun e=>h2 (hinj i k hi hj4 e.symm)),e];simp[h2]
       ·have q':(yq a2 x).isSome=true:=by simpa using q
        rw[if_pos q']at hacc;exact⟨c7,fun y hy=>hxs y (.tail _ hy),hqk7,hLq7,⟨a2,by exact F1 hal2,hL7,hacc⟩,n0,n2,n3,n5,n6,n8,n9⟩
    ·rw[show yp l = .wild from if_neg hsm]at hu;rw[hu]at hw;exact absurd rfl hw
   ·rw[eA]at hb;rw[hb]at hu;refine za (z7 (zk rfl (vv yo 8 zg (yt (w9 (bo (fun z=>zo ?_) fun q=>by cases q))))));exact za (zq (yt (hN (by rw[hu];rfl) _ (c04.trans c5))))
theorem X1 (g:Gl B) {Ps:List WT3} (hz:∀p∈Ps,p.2.2.names.length<=1000/\(∀k,k<4->(p.2.2.lot k).length<=1000)/\p.2.2.uses.length<=1000) (hPz:Ps.length<=1000) (f:Nat):Yl B Ps f:=by
 induction f with
 | zero=>intro n Q X st m ma name A _ _ _ _ _ _ hw _ _;exact absurd rfl hw
 | succ f ih=>exact Wj g hz hPz f ih
end
noncomputable def Vk:List (List UInt8):=[oct (yC 0),oct (yC 1),oct (yC 2),oct (yU 0),oct (yU 1),oct (yU 2),oct (yM 0),oct (yM 1),oct (yM 2),[122,122]]
theorem TS:Vk.map (yW z4)=[0,0,3,1,1,3,2,2,3,3]:=by kernel_rfl
noncomputable def xP:List UInt8->Bool
 | []=>true
 | [c]=>!(decide (wJ c))&&!(decide (c.toNat=44))
 | c::d::r=>if wJ c then xP r else !(decide (c.toNat=44))&&xP (d::r)
theorem jC:∀(c:UInt8),xP [c]=(!decide (wJ c)&&!decide (c.toNat=44)):=fun a=>rfl
theorem sN:∀(c d:UInt8) (r:List UInt8),xP (c::d::r)=if wJ c then xP r else !decide (c.toNat=44)&&xP (d::r):=fun a a a=>rfl
noncomputable def good (t:List UInt8):Bool:=xP t&&!t.contains 10
noncomputable def SO (r:Res Nat) (k:Nat):Bool:=match r with
 | .ok v=>v==k
 | _=>false
theorem ja {r:Res Nat} {k:Nat} (h:SO r k=true):r = .ok k:=by
 cases r with
 | ok v=>simp only[SO,beq_iff_eq]at h;rw[h]
 | bad=>cases h
 | wild=>cases h
theorem Y8:∀k,k<200->∀p,p<3->(SO (uK (rstrip (oct (x8 k p)))) k&&good (oct (x8 k p)))=true:=by decide +kernel
theorem Vv:∀k,k<200->(SO (uK (rstrip (jh k))) k&&good (jh k))=true:=by decide +kernel
noncomputable def qW (ss:List Nat):List UInt8:=oct (zC [] (ss.map fun i=>(sgn i).1))
noncomputable def tm (ss:List Nat):List UInt8:=ss.map fun i=>(sgn i).2.toUInt8
noncomputable def yn (ss:List Nat):Bool:=kU (qW ss)==some (ss.map fun i=>(sgn i).2)&&(good (qW ss)&&(kU (vF (tm ss))==some (ss.map fun i=>(sgn i).2)&&good (vF (tm ss))))
theorem Qg:yn []=true:=by kernel_rfl
theorem RM:∀a,a<16->yn [a]=true:=by decide +kernel
theorem RK:∀a,a<16->∀b,b<16->yn [a,b]=true:=by decide +kernel
theorem Tr:∀b,b<16->∀c,c<16->yn [0,b,c]=true:=by decide +kernel
theorem T4:∀b,b<16->∀c,c<16->yn [1,b,c]=true:=by decide +kernel
theorem Sz:∀b,b<16->∀c,c<16->yn [2,b,c]=true:=by decide +kernel
theorem Tf:∀b,b<16->∀c,c<16->yn [3,b,c]=true:=by decide +kernel
theorem TL:∀b,b<16->∀c,c<16->yn [4,b,c]=true:=by decide +kernel
theorem Tn:∀b,b<16->∀c,c<16->yn [5,b,c]=true:=by decide +kernel
theorem TW:∀b,b<16->∀c,c<16->yn [6,b,c]=true:=by decide +kernel
theorem UP:∀b,b<16->∀c,c<16->yn [7,b,c]=true:=by decide +kernel
theorem Sa:∀b,b<16->∀c,c<16->yn [8,b,c]=true:=by decide +kernel
theorem Tv:∀b,b<16->∀c,c<16->yn [9,b,c]=true:=by decide +kernel
theorem Uv:∀b,b<16->∀c,c<16->yn [10,b,c]=true:=by decide +kernel
theorem UC:∀b,b<16->∀c,c<16->yn [11,b,c]=true:=by decide +kernel
theorem Ux:∀b,b<16->∀c,c<16->yn [12,b,c]=true:=by decide +kernel
theorem UD:∀b,b<16->∀c,c<16->yn [13,b,c]=true:=by decide +kernel
theorem VQ:∀b,b<16->∀c,c<16->yn [14,b,c]=true:=by decide +kernel
theorem U6:∀b,b<16->∀c,c<16->yn [15,b,c]=true:=by decide +kernel
theorem Qh {a b c:Nat} (ha:a<16) (hb:b<16) (hc:c<16):yn [a,b,c]=true:=by
 revert a b c ha hb hc
 intros a b c ha hb hc
 have:a=0\/a=1\/a=2\/a=3\/a=4\/a=5\/a=6\/a=7\/a=8\/a=9\/a=10\/a=11\/a=12\/a=13\/a=14\/a=15:=by exact l16 _ (F1 ha)
 rcases this with rfl | rfl | rfl | rfl | rfl | rfl | rfl | rfl | rfl | rfl | rfl | rfl | rfl | rfl | rfl | rfl
 ·exact Tr b hb c hc
 ·exact T4 b hb c hc
 ·exact Sz b hb c hc
 ·exact Tf b hb c hc
 ·exact TL b hb c hc
 ·exact Tn b hb c hc
 ·exact TW b hb c hc
 ·exact UP b hb c hc
 ·exact Sa b hb c hc
 ·exact Tv b hb c hc
 ·exact Uv b hb c hc
 ·exact UC b hb c hc
 ·exact Ux b hb c hc
 ·exact UD b hb c hc
 ·exact VQ b hb c hc
 ·exact U6 b hb c hc
theorem t8 {ss:List Nat} (hl:ss.length<=3) (h:∀s∈ss,s<16):yn ss=true:=by
 match ss,hl,h with
 | [],_,_=>exact Qg
 | [a],_,h=>exact RM a (h a (.head _))
 | [a,b],_,h=>exact RK a (h a (.head _)) b (h b (.tail _ (.head _)))
 | [a,b,c],_,h=>exact Qh (h a (.head _)) (h b (.tail _ (.head _))) (h c (.tail _ (.tail _ (.head _))))
 | _::_::_::_::_,hl,_=>simp at hl
theorem wo:∀(t:List UInt8),xP t=true->∀cur rest,yd cur (t++rest)=yd (cur++t) rest
 | [],_,cur,rest=>by simp
 | [c],h,cur,rest=>by
  simp only[jC,Bool.and_eq_true,Bool.not_eq_true',decide_eq_false_iff_not]at h;rw[List.singleton_append,vC _ _ _ h.2 h.1]
 | c::d::r,h,cur,rest=>by
  rw[sN]at h
  by_cases he:wJ c
  ·rw[if_pos he]at h;rw[List.cons_append,List.cons_append,qf _ _ _ _ he,wo r h];simp
  ·rw[if_neg he]at h;simp only[Bool.and_eq_true,Bool.not_eq_true',decide_eq_false_iff_not]at h;have:=wo (d::r) h.2 (cur++[c]) rest;rw[List.cons_append,vC _ _ _ h.1 he,this];simp
theorem um:∀{a b:List UInt8},xP a=true->xP b=true->xP (a++b)=true
 | [],b,_,hb=>by simpa using hb
 | [c],b,ha,hb=>by
  simp only[jC,Bool.and_eq_true,Bool.not_eq_true',decide_eq_false_iff_not]at ha
  cases b with
  | nil=>simp[jC,ha.1,ha.2]
  | cons d r =>
   rw[List.singleton_append,sN,if_neg ha.1];simp[ha.2,hb]
 | c::d::r,b,ha,hb=>by
  rw[sN]at ha;rw[List.cons_append,List.cons_append,sN]
  by_cases he:wJ c
  ·rw[if_pos he]at ha ⊢;exact um ha hb
  ·rw[if_neg he]at ha ⊢;simp only[Bool.and_eq_true]at ha ⊢;exact⟨ha.1,um (a:=d::r) ha.2 hb⟩
theorem xB {a b:List UInt8} (ha:good a=true) (hb:good b=true):good (a++b)=true:=by
 revert a b ha hb
 intros a b ha hb;unfold good at *;simp only[Bool.and_eq_true,Bool.not_eq_true']at *;refine⟨um ha.1 hb.1,?_⟩;rw[<-Bool.not_eq_true,List.contains_iff_mem,List.mem_append]at *
 rintro (h | h)
 ·exact ha.2 h
 ·exact hb.2 h
theorem WP {α:Type} {p:α->Bool}:∀{l:List α},l.dropWhile p=[]->∀x∈l,p x=true:=by
 intro l_
 induction l_ with
 | nil =>
  intro _;exact nn
 | cons a r ih_ =>
  intro h;rw[List.dropWhile_cons]at h
  split at h
  ·rename_i ha;intro x hx
   rcases List.mem_cons.mp hx with rfl | hx
   ·exact ha
   ·exact ih_ h x hx
  ·cases h
noncomputable def vI (c:UInt8):Bool:=([32,9,13]:List UInt8).contains c
theorem sX {c:UInt8} {t:List UInt8} (h:vI c=false):lstrip (c::t)=c::t:=by
 unfold lstrip yv;unfold vI at h;simp only[if_true,Bool.false_eq_true,if_false];rw[List.dropWhile_cons,h];rfl
theorem xk {c:UInt8} {t:List UInt8} (h:vI c=true):lstrip (c::t)=lstrip t:=by
 unfold lstrip yv;unfold vI at h;simp only[if_true,Bool.false_eq_true,if_false];rw[List.dropWhile_cons,h];rfl
theorem qg {c:UInt8} {t:List UInt8} (h:vI c=false):rstrip (c::t)≠[]:=by
 unfold rstrip yv;unfold vI at h;simp only[if_true,Bool.false_eq_true,if_false];rw[List.reverse_cons];intro e;rw[List.reverse_eq_nil_iff]at e
 have:∀x∈(t.reverse++[c]),([32,9,13]:List UInt8).contains x=true:=by
  intro x hx;exact WP e x hx
 have h2:=this c (mm);rw[h]at h2;cases h2
noncomputable def Fld.sort:Fld->Option Nat
 | .truth _=>some 0
 | .num _ _ _=>some 1
 | .str _ _=>some 2
 | .off _=>none
 | .use _=>none
theorem uu {i:Nat} (h:i<3):yW z4 (oct (yC i))=if i=2 then 3 else 0:=by
 have k:=TS;simp only[Vk,List.map_cons,List.map_nil,List.cons.injEq]at k
 have:i=0\/i=1\/i=2:=by exact l3 (F1 h)
 rcases this with rfl | rfl | rfl
 ·exact k.1
 ·exact k.2.1
 ·exact k.2.2.1
theorem qp {i:Nat} (h:i<3):yW z4 (oct (yU i))=if i=2 then 3 else 1:=by
 have k:=TS;simp only[Vk,List.map_cons,List.map_nil,List.cons.injEq]at k
 have:i=0\/i=1\/i=2:=by exact l3 (F1 h)
 rcases this with rfl | rfl | rfl
 ·exact k.2.2.2.1
 ·exact k.2.2.2.2.1
 ·exact k.2.2.2.2.2.1
theorem tD {i:Nat} (h:i<3):yW z4 (oct (yM i))=if i=2 then 3 else 2:=by
 have k:=TS;simp only[Vk,List.map_cons,List.map_nil,List.cons.injEq]at k
 have:i=0\/i=1\/i=2:=by exact l3 (F1 h)
 rcases this with rfl | rfl | rfl
 ·exact k.2.2.2.2.2.2.1
 ·exact k.2.2.2.2.2.2.2.1
 ·exact k.2.2.2.2.2.2.2.2.1
theorem SX {F:Fld} (h:F.ok) (h4:F.kind≠4):yW z4 (oct F.name)=F.kind:=by
 cases F with
 | truth i=>exact uu h
 | num i k p=>exact qp h.1
 | str i ss=>exact tD h.1
 | off i =>
  simp only[Fld.ok]at h
  have:i=0\/i=1\/i=2\/i=3:=by exact l4 (F1 h)
  rcases this with rfl | rfl | rfl | rfl
  ·exact uu (i:=0) (wB)
  ·exact qp (i:=0) (wB)
  ·exact tD (i:=0) (wB)
  ·exact uu (i:=2) (wC)
 | use i=>exact absurd rfl h4
theorem td {I:InfoV} {F:Fld} (h:F.ok) (h4:F.kind≠4):kI z4 I (oct F.name) F.sort F.told = .ok (zW I F):=by
 revert I F h h4
 intros I F h h4;unfold kI;rw[SX h h4]
 have hc:¬(F.kind<3/\F.sort≠none/\F.sort≠some F.kind):=by
  intros p2_;obtain⟨h1,h2,h3⟩:_:=p2_
  cases F with
  | truth i=>simp only[Fld.kind,Fld.sort]at *;split at h1<;>simp_all
  | num i k p=>simp only[Fld.kind,Fld.sort]at *;split at h1<;>simp_all
  | str i ss=>simp only[Fld.kind,Fld.sort]at *;split at h1<;>simp_all
  | off i=>exact h2 rfl
  | use i=>exact h2 rfl
 rw[if_neg hc];unfold zW;rw[if_neg h4]
 split<;>rfl
theorem jD {K:Kn} {I:InfoV} {f name sign rest:List UInt8} {sort:Option Nat} {v:AV} (h1:rstrip f≠[]) (h2:f.take 1≠[46]) (hs:xf f=some (name,sign,rest)) (hu:¬(name=[117,115,101]/\sign=[61])) (hv:xU sign rest = .ok (sort,v)):wN K I f=kI K I name sort v:=by
 unfold wN;rw[if_neg (by intro h;exact h.elim h1 h2),hs];simp only;rw[if_neg hu,hv];rfl
theorem Zk:∀{p:List UInt8} {c:UInt8} {r:List UInt8},(∀x∈p,vK x=false)->vK c=true->vb (p++c::r)=some (p,c,r):=by
 intro l_
 induction l_ with
 | nil =>
  intro c r _ hc;rw[List.nil_append,t5,if_pos hc]
 | cons x p ih_ =>
  intro c r hp hc;rw[List.cons_append,t5,if_neg (by rw[hp x (.head _)];exact nofun),ih_ (fun y hy=>hp y (.tail _ hy)) hc];rfl
theorem Uc:∀{p:List UInt8},(∀x∈p,vK x=false)->vb p=none:=by
 intro l_
 induction l_ with
 | nil =>
  intro _;exact rfl
 | cons x p ih_ =>
  intro hp;rw[t5,if_neg (by rw[hp x (.head _)];exact nofun),ih_ fun y hy=>hp y (.tail _ hy)];rfl
noncomputable def vE (b:List UInt8):Bool:=xL b&&(b.all (fun c=>!vK c&&!vI c)&&(decide (b≠[117,115,101])&&(good b&&decide (b.take 1≠[46]))))
theorem Ut:∀i,i<3->vE (oct (yC i))=true:=by decide +kernel
theorem TF:∀i,i<3->vE (oct (yU i))=true:=by decide +kernel
theorem TV:∀i,i<3->vE (oct (yM i))=true:=by decide +kernel
theorem S8:∀i,i<4->vE (oct (ko i))=true:=by decide +kernel
theorem Rx:∀i,i<4->vE (oct (uJ i))=true:=by decide +kernel
theorem ZA {F:Fld} (h:F.ok):vE (oct F.name)=true:=by
 cases F with
 | truth i=>exact Ut i h
 | num i k p=>exact TF i h.1
 | str i ss=>exact TV i h.1
 | off i=>exact S8 i h
 | use i=>exact Rx i h
structure Fit (b:List UInt8):Prop where
 name:xL b=true
 sign:∀x∈b,vK x=false
 first:∃c t,b=c::t/\vI c=false
 use:b≠[117,115,101]
 good:good b=true
 dot:∀t,(b++t).take 1≠[46]
 blanks:∀x∈b,vI x=false
theorem ZF {b:List UInt8} (h:vE b=true):Fit b:=by
 revert b h
 intros b h;unfold vE at h;simp only[Bool.and_eq_true,decide_eq_true_eq,List.all_eq_true,Bool.not_eq_true']at h;obtain⟨h1,h2,h3,h4,h5⟩:_:=h
 cases b with
 | nil=>exact nomatch h1
 | cons c t=>exact⟨h1,fun x hx=>(h2 x hx).1,(wm c t rfl ((h2 c (.head _)).2)),h3,h4,fun u=>by exact h5,fun x hx=>(h2 x hx).2⟩
theorem kt:∀{b:List UInt8},(∀x∈b,vI x=false)->rstrip b=b:=by
 intro b h;unfold rstrip yv;simp only[if_true,Bool.false_eq_true,if_false]
 have:b.reverse.dropWhile (fun c=>([32,9,13]:List UInt8).contains c)=b.reverse:=by
  cases hb:b.reverse with
  | nil=>rfl
  | cons c t =>
   rw[List.dropWhile_cons]
   have hc:c∈b:=by rw[<-List.mem_reverse,hb];exact .head _
   have:=h c hc;unfold vI at this;rw[this];rfl
 have e:b.reverse.dropWhile ([32,9,13]:List UInt8).contains=b.reverse:=this;rw[e,List.reverse_reverse]
theorem ue {I:InfoV} {b rest:List UInt8} {c:UInt8} {sort:Option Nat} {v:AV} (h:Fit b) (hc:vK c=true) (hv:xU [c] rest = .ok (sort,v)):wN z4 I (b++c::rest)=kI z4 I b sort v:=by
 refine wL (h.first) fun x t e hx=>?_;refine jD ?_ (h.dot _) ?_ (fun q=>h.use q.1) hv
 ·rw[e,List.cons_append];exact qg hx
 ·unfold xf;rw[Zk h.sign hc];simp only;rw[if_pos h.name]
theorem YY {I:InfoV} {b:List UInt8} (h:Fit b):wN z4 I b=kI z4 I b (some 0) (.bool true):=by
 revert I b h
 intros I b h;obtain⟨x,t,e,hx⟩:_:=h.first;refine jD (sign:=[]) (rest:=[]) ?_ (by have:=h.dot [];simpa using this) ?_ (fun q=>h.use q.1) ?_
 ·rw[e];exact qg hx
 ·unfold xf;rw[Uc h.sign];simp only;rw[kt h.blanks,if_pos h.name]
 ·unfold xU;rw[if_neg (by decide),if_neg (by decide),if_neg (by decide)]
theorem yw (a b:List Nat):oct (a++b)=oct a++oct b:=by exact List.map_append ..
theorem YF {I:InfoV} {F:Fld} (h:F.ok):wN z4 I (oct F.text) = .ok (zW I F):=by
 have hf:=ZF (ZA h)
 cases F with
 | truth i =>
  have:=YY (I:=I) hf;rw[show oct (Fld.text (.truth i))=oct (Fld.name (.truth i)) from rfl,this];exact td (F:=.truth i) h (by simp only[Fld.kind];split<;>decide)
 | num i k p =>
  have e:oct (Fld.text (.num i k p))=oct (Fld.name (.num i k p))++35::oct (x8 k p):=by simp only[Fld.text,Fld.name,yw,List.append_assoc];rfl
  have hp:=Y8 k h.2.1 p h.2.2;rw[Bool.and_eq_true]at hp;rw[e,ue (sort:=some 1) (v:=.int (k:Nat)) hf (by decide) (by unfold xU;rw[if_pos rfl,ja hp.1];rfl)];exact td (F:=.num i k p) h (by simp only[Fld.kind];split<;>decide)
 | str i ss =>
  have e:oct (Fld.text (.str i ss))=oct (Fld.name (.str i ss))++61::qW ss:=by simp only[Fld.text,Fld.name,yw,List.append_assoc];rfl
  have hp:=t8 h.2.1 h.2.2;unfold yn at hp;simp only[Bool.and_eq_true,beq_iff_eq]at hp
  rw[e,ue (sort:=some 2) (v:=.bytes (tm ss)) hf (by decide) (by
   unfold xU;rw[if_neg (by decide),if_pos rfl,hp.1]
   simp[tm,Function.comp_def])]
  exact td (F:=.str i ss) h (by simp only[Fld.kind];split<;>decide)
 | off i =>
  have e:oct (Fld.text (.off i))=oct (Fld.name (.off i))++64::[]:=by simp only[Fld.text,Fld.name,yw];rfl
  rw[e,ue (sort:=none) (v:=.none) hf (by decide) (by unfold xU;rw[if_neg (by decide),if_neg (by decide),if_pos rfl,if_neg (by decide)])];exact td (F:=.off i) h (by simp only[Fld.kind,Fld.ok]at *;exact Ql (F1 h))
 | use i =>
  have e:oct (Fld.text (.use i))=[117,115,101]++61::oct (uJ i):=by simp only[Fld.text,yw];rfl
  unfold wN
  have e1:xf ([117,115,101]++61::oct (uJ i))=some ([117,115,101],[61],oct (uJ i)):=by
   unfold xf;rw[Zk (by decide) (by decide)];simp only;rw[if_pos (by decide)]
  rw[e,if_neg,e1]
  ·simp only;have hb:rstrip (oct (uJ i))=oct (uJ i):=kt hf.blanks;have hn:xL (oct (uJ i))=true:=hf.name;rw[hb,if_pos (by simp),if_pos hn]
   rfl
  ·rintro (q | q)
   ·exact qg (c:=117) (by decide) q
   ·exact absurd q (nofun)
noncomputable def Fld.print (F:Fld):List UInt8:=xD (oct F.name) F.told
theorem UN {I:InfoV} {F:Fld} (h:F.ok) (h4:F.kind≠4):wN z4 I F.print = .ok (zW I F):=by
 have hf:=ZF (ZA h)
 cases F with
 | truth i =>
  have:=YY (I:=I) hf;rw[show Fld.print (.truth i)=oct (Fld.name (.truth i)) from rfl,this];exact td (F:=.truth i) h (by simp only[Fld.kind];split<;>decide)
 | num i k p =>
  have e:Fld.print (.num i k p)=oct (Fld.name (.num i k p))++35::jh k:=by
   unfold Fld.print;simp only[Fld.told,tc,List.append_assoc];rw[Int.toNat_natCast];rfl
  have hp:=Vv k h.2.1;rw[Bool.and_eq_true]at hp;rw[e,ue (sort:=some 1) (v:=.int (k:Nat)) hf (by decide) (by unfold xU;rw[if_pos rfl,ja hp.1];rfl)];exact td (F:=.num i k p) h (by simp only[Fld.kind];split<;>decide)
 | str i ss =>
  have e:Fld.print (.str i ss)=oct (Fld.name (.str i ss))++61::vF (tm ss):=by
   unfold Fld.print;simp only[Fld.told,uO,List.append_assoc];rfl
  have hp:=t8 h.2.1 h.2.2;unfold yn at hp;simp only[Bool.and_eq_true,beq_iff_eq]at hp
  rw[e,ue (sort:=some 2) (v:=.bytes (tm ss)) hf (by decide) (by
   unfold xU;rw[if_neg (by decide),if_pos rfl,hp.2.2.1]
   simp[tm,Function.comp_def])]
  exact td (F:=.str i ss) h (by simp only[Fld.kind];split<;>decide)
 | off i =>
  have e:Fld.print (.off i)=oct (Fld.name (.off i))++64::[]:=rfl;rw[e,ue (sort:=none) (v:=.none) hf (by decide) (by unfold xU;rw[if_neg (by decide),if_neg (by decide),if_pos rfl,if_neg (by decide)])];exact td (F:=.off i) h (by simp only[Fld.kind,Fld.ok]at *;exact h4)
 | use i=>exact absurd rfl h4
structure vM (t:List UInt8):Prop where
 good:good t=true
 first:∃c r,t=c::r/\vI c=false
theorem vy {b r:List UInt8} (h:Fit b) (hr:good r=true):vM (b++r):=by
 refine wL (h.first) fun c t e hc=>?_;exact⟨xB h.good hr,(wm c (t++r) (by rw[e];rfl) hc)⟩
theorem ki {F:Fld} (h:F.ok):vM (oct F.text):=by
 have hf:=ZF (ZA h)
 cases F with
 | truth i =>
  have:=vy hf (r:=[]) rfl;rw[show oct (Fld.text (.truth i))=oct (Fld.name (.truth i)) from rfl];simpa using this
 | num i k p =>
  have hp:=Y8 k h.2.1 p h.2.2;rw[Bool.and_eq_true]at hp;have:=vy hf (xB (a:=[35]) (by decide) hp.2);simpa[Fld.text,Fld.name,yw,oct]using this
 | str i ss =>
  have hp:=t8 h.2.1 h.2.2;unfold yn at hp;simp only[Bool.and_eq_true,beq_iff_eq]at hp;have:=vy hf (xB (a:=[61]) (by decide) hp.2.1)
  have e:oct (Fld.text (.str i ss))=oct (Fld.name (.str i ss))++([61]++qW ss):=by simp only[Fld.text,Fld.name,yw,List.append_assoc];rfl
  rw[e];exact this
 | off i =>
  have:=vy hf (r:=[64]) (by decide)
  have e:oct (Fld.text (.off i))=oct (Fld.name (.off i))++[64]:=by simp only[Fld.text,Fld.name,yw];rfl
  rw[e];exact this
 | use i =>
  have e:oct (Fld.text (.use i))=[117,115,101,61]++oct (Fld.name (.use i)):=by simp only[Fld.text,Fld.name,yw];rfl
  rw[e];exact⟨xB (by decide) hf.good,(wm 117 ([115,101,61]++oct (Fld.name (.use i))) rfl (by decide))⟩
theorem VZ {F:Fld} (h:F.ok) (h4:F.kind≠4):vM F.print:=by
 have hf:=ZF (ZA h)
 cases F with
 | truth i=>have:=vy hf (r:=[]) rfl;simpa[Fld.print,Fld.told,q9]using this
 | num i k p =>
  have hp:=Vv k h.2.1;rw[Bool.and_eq_true]at hp;have:=vy hf (xB (a:=[35]) (by decide) hp.2)
  have e:Fld.print (.num i k p)=oct (Fld.name (.num i k p))++([35]++jh k):=by
   unfold Fld.print;simp only[Fld.told,tc,List.append_assoc];rw[Int.toNat_natCast]
  rw[e];exact this
 | str i ss =>
  have hp:=t8 h.2.1 h.2.2;unfold yn at hp;simp only[Bool.and_eq_true,beq_iff_eq]at hp;have:=vy hf (xB (a:=[61]) (by decide) hp.2.2.2)
  have e:Fld.print (.str i ss)=oct (Fld.name (.str i ss))++([61]++vF (tm ss)):=by
   unfold Fld.print;simp only[Fld.told,uO,List.append_assoc];rfl
  rw[e];exact this
 | off i=>exact vy hf (r:=[64]) (by decide)
 | use i=>exact absurd rfl h4
theorem VH:∀(r:List (List UInt8)) (cur t:List UInt8),xP t=true->(∀x∈r,xP x=true)->yd cur (t++r.flatMap (fun x=>[44,32]++x)++[44])=((cur++t)::r.map (fun x=>32::x),[]):=by
 intro l_
 induction l_ with
 | nil =>
  intro cur t ht _;rw[List.flatMap_nil,List.append_nil,wo t ht,v8 _ _ _ (by decide)];exact rfl
 | cons x r ih_ =>
  intro cur t ht hr;have ih:=ih_ [32] x (hr x (.head _)) fun y hy=>hr y (.tail _ hy);rw[List.flatMap_cons,List.append_assoc,wo t ht]
  have e:([44,32]++x++r.flatMap (fun x=>[44,32]++x))++[44]=44::([32]++(x++r.flatMap (fun x=>[44,32]++x)++[44])):=by exact rfl
  rw[e,v8 _ _ _ (by decide),wo [32] (by decide),List.nil_append,ih];exact rfl
theorem S7 {α:Type} {p:α->Bool}:∀{l:List α} {x:α} {t:List α},l.dropWhile p=x::t->p x=false:=by
 intro l_
 induction l_ with
 | nil =>
  intro _ _ h;cases h
 | cons a r ih_ =>
  intro x t h;rw[List.dropWhile_cons]at h
  cases ha:p a with
  | true=>rw[ha]at h;exact ih_ h
  | false=>rw[ha]at h;simp at h;rw[<-h.1];exact ha
theorem Wy {b:List UInt8} {c:UInt8} (hm:c∈b) (hc:vI c=false):yS b≠[]:=by
 intro h;unfold yS yv at h;simp only[if_true]at h;rw[List.reverse_eq_nil_iff]at h;have h1:=WP h
 have h2:b.dropWhile ([32,9,13]:List UInt8).contains=[]:=by
  cases hk:b.dropWhile ([32,9,13]:List UInt8).contains with
  | nil=>rfl
  | cons x t =>
   have:=h1 x (by rw[hk];simp);have h3:=S7 hk;rw[this]at h3;cases h3
 have:=WP h2 c hm;unfold vI at hc;rw[this]at hc;cases hc
noncomputable def Ind (i:List UInt8):Prop:=i=[9]\/i=[32,32,32,32]
theorem XZ {i:List UInt8} (hi:Ind i) {t:List UInt8} {r:List (List UInt8)} (h:∀x∈t::r,vM x):yZ (i++zC [44,32] (t::r)++[44])=some (t::r):=by
 revert i hi t r h
 intros i hi t r h
 have clean:∀{x:List UInt8},vM x->xP x=true:=fun q=>by
  have:=q.good;unfold good at this;rw[Bool.and_eq_true]at this;exact this.1
 have hs:yd [] (i++zC [44,32] (t::r)++[44])=((i++t)::r.map (fun x=>32::x),[]):=by
  rw[yR,List.append_assoc,wo i (by rcases hi with rfl | rfl<;>decide),List.nil_append];exact VH r i t (clean (h t (.head _))) fun x hx=>clean (h x (.tail _ hx))
 have l1:lstrip (i++t)=t:=by
  obtain⟨c,s,e,hc⟩:_:=(h t (.head _)).first
  rcases hi with rfl | rfl
  ·rw[List.singleton_append,xk (by decide),e,sX hc]
  ·show lstrip (32::32::32::32::t)=t;rw[xk (by decide),xk (by decide),xk (by decide),xk (by decide),e,sX hc]
 have l2:(r.map (fun x=>(32:UInt8)::x)).map lstrip=r:=by
  rw[List.map_map]
  conv=>rhs;rw[<-List.map_id r]
  refine List.map_congr_left ?_;intros x hx;obtain⟨c,s,e,hc⟩:_:=(h x (.tail _ hx)).first;show lstrip (32::x)=x;rw[xk (by decide),e,sX hc]
 unfold yZ;rw[hs];simp only;rw[if_neg (by decide),List.map_cons,l1,l2]
theorem jE {i:List UInt8} (hi:Ind i) {t:List UInt8} {r:List (List UInt8)} (h:∀x∈t::r,vM x) (fs:List InfoV) (I:InfoV) :
  xQ z4 (fs++[I]) (i++zC [44,32] (t::r)++[44])=(uE z4 I (t::r)).bind fun I=>.ok (fs++[I]):=by
 revert i hi t r h fs I
 intros i hi t r h fs I;obtain⟨c,s,e,hc⟩:_:=(h t (.head _)).first;have hb:yS (i++zC [44,32] (t::r)++[44])≠[]:=Wy (c:=c) (by rw[yR,e];exact m2 mm) hc
 have h35:(i++zC [44,32] (t::r)++[44]).take 1≠[35]:=by rcases hi with rfl | rfl<;>simp
 have ht:¬tK (i++zC [44,32] (t::r)++[44]):=by
  unfold tK
  rcases hi with rfl | rfl<;>simp
 unfold xQ;rw[if_neg (by intro q;exact q.elim hb h35),XZ hi h];simp only;rw[if_neg ht];simp
theorem Vq {I:InfoV} {c:Nat} (h:∀k,k<4->(I.lot k).length<=c) (hu:I.uses.length<=c) (hc:c<=1000):sj I=true:=by
 have h0:=h 0 (wB);have h1:=h 1 (wA);have h2:=h 2 (wA);have h3:=h 3 (wC);unfold sj;simp only[Bool.and_eq_true,decide_eq_true_eq];exact⟨(F2 hc h0),⟨(F2 hc h1),⟨(F2 hc h2),⟨(F2 hc h3),(F2 hu hc)⟩⟩⟩⟩
theorem ql {I:InfoV} {F:Fld} {c:Nat} (h:I.uses.length<=c):(zW I F).uses.length<=c+1:=by
 unfold zW
 split
 ·simp;exact h
 ·split
  ·exact F1 h
  ·simp[InfoV.setLot];exact F1 h
theorem S5 (τ:Fld->List UInt8):∀(Fs:List Fld) (I:InfoV) (c:Nat),(∀k,k<4->(I.lot k).length<=c)->I.uses.length<=c->c+Fs.length<=1000->(∀F∈Fs,∀I,wN z4 I (τ F) = .ok (zW I F))->uE z4 I (Fs.map τ) = .ok (Fs.foldl zW I):=by
 intro l_
 induction l_ with
 | nil =>
  intro I c _ _ _ _;exact rfl
 | cons F Fs ih_ =>
  intro I c hl hu hc hp;simp only[List.length_cons]at hc;rw[List.map_cons,qZ,if_pos (Vq hl hu (F1 hc)),hp F (.head _)];exact ih_ (zW I F) (c+1) (so hl) (ql hu) (F1 hc) fun G hG=>hp G (.tail _ hG)
noncomputable def y0 (k j:Nat):List Nat:=zC [124] (zG k j)++[44]
noncomputable def ZN (k j:Nat):Bool:=decide (yS (oct (y0 k j))≠[])&&(decide ((oct (y0 k j)).take 1=[101])&&(decide (yZ (oct (y0 k j))=some [zC [124] ((zG k j).map oct)])&&(decide (qI (zC [124] ((zG k j).map oct))=some ((zG k j).map oct))&&!(oct (y0 k j)).contains 10)))
theorem YL:∀k,k<3->∀j,j<3->ZN k j=true:=by decide +kernel
theorem jf {k j:Nat} (hk:k<3) (hj:j<3) {found:List InfoV} (hf:found.length<=1000):xQ z4 found (oct (y0 k j)) = .ok (found++[x7 ((zG k j).map oct)]):=by
 revert k j hk hj found hf
 intros k j hk hj found hf;have h:=YL k hk j hj;unfold ZN at h;simp -iota only[Bool.and_eq_true,decide_eq_true_eq]at h;obtain⟨h1,h2,h3,h4,_⟩:_:=h;unfold xQ;rw[if_neg (by intro q;rw[h2]at q;exact q.elim h1 (by decide)),h3];simp only;rw[if_pos (by unfold tK;rw[h2];decide),h4];simp only;rw[if_neg (Qt (F1 hf))]
 rfl
theorem ZT {k j:Nat} (hk:k<3) (hj:j<3):¬(10:UInt8)∈oct (y0 k j) /\ ∃t,y0 k j=101::t:=by
 revert k j hk hj
 intros k j hk hj;have h:=YL k hk j hj;unfold ZN at h;simp -iota only[Bool.and_eq_true,decide_eq_true_eq,Bool.not_eq_true']at h;refine⟨?_,?_⟩
 ·intros q;have:=h.2.2.2.2;rw[List.contains_iff_mem.mpr q]at this;cases this
 ·have:j=0\/j=1\/j=2:=by exact l3 (F1 hj)
  rcases this with rfl | rfl | rfl<;>exact⟨_,rfl⟩
noncomputable def uU (ts:List (List Nat)) (m:Nat):List (List Nat):=if ts=[] then [] else [xm m++zC [44,32] ts++[44]]
theorem Zg (rows ts:List (List Nat)):tA rows ts=rows++uU ts rows.length:=by
 unfold tA uU
 split<;>simp
theorem vU (e:Ent):e.rows=[y0 e.k e.j]++uU ((e.fs.take e.c).map Fld.text) 1++uU ((e.fs.drop e.c).map Fld.text) (1+(uU ((e.fs.take e.c).map Fld.text) 1).length):=by
 revert e
 intros e;unfold Ent.rows V6;rw[Zg,Zg,List.map_take,List.map_drop];simp -iota [y0,Nat.add_comm]
theorem kz (sep:List Nat):∀l:List (List Nat),oct (zC sep l)=zC (oct sep) (l.map oct)
 | []=>rfl
 | p::r=>by
  rw[yR,List.map_cons,yR,yw]
  congr 1
  induction r with
  | nil=>rfl
  | cons q r ih=>rw[List.flatMap_cons,yw,yw,List.map_cons,List.flatMap_cons,ih]
theorem UT (m:Nat):Ind (oct (xm m)):=by
 unfold xm Ind
 split
 ·exact .inl rfl
 ·exact .inr rfl
theorem wY {K:Kn} {k:Nat} {row:List UInt8} {rows:List (List UInt8)} {found found':List InfoV} (h:xQ K found row = .ok found'):xZ K k (row::rows) found=xZ K (k+1) rows found':=by rw[tv,h]
theorem kZ {Fs:List Fld} (hF:∀F∈Fs,F.ok) (m:Nat) (fs:List InfoV) (I:InfoV) {c:Nat} (hl:∀k,k<4->(I.lot k).length<=c) (hu:I.uses.length<=c) (hc:c+Fs.length<=1000) (n:Nat) (more:List (List UInt8)) :
  xZ z4 n ((uU (Fs.map Fld.text) m).map oct++more) (fs++[I])=xZ z4 (n+(uU (Fs.map Fld.text) m).length) more (fs++[Fs.foldl zW I]):=by
 unfold uU
 cases Fs with
 | nil=>rfl
 | cons F Fs =>
  rw[if_neg (nofun)]
  have e:oct (xm m++zC [44,32] ((F::Fs).map Fld.text)++[44])=oct (xm m)++zC [44,32] ((F::Fs).map fun F=>oct F.text)++[44]:=by
   rw[yw,yw,kz,List.map_map];rfl
  rw[List.map_cons,List.map_nil,e];refine wY ?_;have hp:=S5 (fun F=>oct F.text) (F::Fs) I c hl hu hc fun G hG I=>YF (hF G hG);rw[List.map_cons]at hp;rw[List.map_cons,jE (UT m) (fun x hx=>?_),hp]
  ·rfl
  ·change x∈(F::Fs).map (fun F=>oct F.text)at hx
   obtain⟨G,hG,rfl⟩:=List.mem_map.mp hx;exact ki (hF G hG)
theorem ug:∀(Fs:List Fld) (I:InfoV) (c:Nat),(∀k,k<4->(I.lot k).length<=c)->I.uses.length<=c->(∀k,k<4->((Fs.foldl zW I).lot k).length<=c+Fs.length)/\(Fs.foldl zW I).uses.length<=c+Fs.length:=by
 intro l_
 induction l_ with
 | nil =>
  intro I c h hu;exact⟨by simpa using h,by simpa using hu⟩
 | cons F Fs ih_ =>
  intro I c h hu;have:=ih_ (zW I F) (c+1) (so h) (ql hu);rw[List.foldl_cons,List.length_cons];refine⟨fun k hk=>?_,?_⟩
  ·have:=this.1 k hk;exact F1 this
  ·have:=this.2;exact F1 ‹(∀(k:Nat),k<4->((List.foldl zW (zW I F) Fs).lot k).length<=c+1+Fs.length) /\   (List.foldl zW (zW I F) Fs).uses.length<=c+1+Fs.length›.2
theorem UX {e:Ent} (h:e.ok) {found:List InfoV} (hf:found.length<=1000) (n:Nat) (more:List (List UInt8)):xZ z4 n (e.rows.map oct++more) found=xZ z4 (n+e.rows.length) more (found++[e.info]):=by
 revert e h found hf n more
 intros e h found hf n more;have hlen:=h.len;rw[vU,List.map_append,List.map_append,List.append_assoc,List.append_assoc,List.map_cons,List.map_nil,List.singleton_append,wY (jf h.k h.j hf)];have z1:∀k,k<4->((x7 ((zG e.k e.j).map oct)).lot k).length<=0:=fun k z=>wC
 have ht:(e.fs.take e.c).length<=5:=by simp;exact F2 (Nat.min_le_right (e.c) (e.fs.length)) hlen
 have hd:(e.fs.drop e.c).length<=5:=by simp;exact F1 hlen
 rw[kZ (fun F hF=>h.fs F (List.mem_of_mem_take hF)) 1 found _ z1 (wC) (F1 ht)];have z2:=ug (e.fs.take e.c) (x7 ((zG e.k e.j).map oct)) 0 z1 (wC);rw[kZ (fun F hF=>h.fs F (List.mem_of_mem_drop hF)) _ found _ z2.1 z2.2 (F2 ht hd),<-List.foldl_append,List.take_append_drop];simp -iota only[List.length_append,List.length_singleton]
 congr 1
 exact AS (by simp +arith only) (by simp +arith only)
noncomputable def yO:Nat->List (List Nat)
 | 0=>[]
 | 1=>[[35,32,97,32,114,101,109,97,114,107,44,32,111,102,32,110,111,32,109,97,116,116,101,114]]
 | _=>[[]]
theorem YA (m:Nat) {found:List InfoV} (n:Nat) (more:List (List UInt8)):xZ z4 n ((yO m).map oct++more) found=xZ z4 (n+(yO m).length) more found:=by
 match m with
 | 0=>rfl
 | 1 =>
  refine wY ?_;unfold xQ;rw[if_pos (.inr (by decide))]
 | m+2 =>
  refine wY ?_;unfold xQ;rw[if_pos (.inl (by decide))]
noncomputable def zi (es:List (Ent×Nat)):List (List Nat):=es.flatMap fun p=>p.1.rows++yO p.2
theorem Xw:∀(es:List (Ent×Nat)) (found:List InfoV) (n:Nat) (more:List (List UInt8)),(∀p∈es,p.1.ok)->found.length+es.length<=1000->xZ z4 n ((zi es).map oct++more) found=xZ z4 (n+(zi es).length) more (found++es.map fun p=>p.1.info):=by
 intro l_
 induction l_ with
 | nil =>
  intro found n more _ _;simp -iota [zi]
 | cons p es ih_ =>
  intro found n more h hl;simp -iota only[List.length_cons]at hl;have ih:=ih_ (found++[p.1.info]) (n+p.1.rows.length+(yO p.2).length) more (fun q hq=>h q (.tail _ hq)) (by simp;exact F1 hl);unfold zi at ih ⊢;rw[List.flatMap_cons,List.map_append,List.map_append,List.append_assoc,List.append_assoc,UX (h p (.head _)) (F1 hl),YA,ih];simp -iota only[List.length_append,List.map_cons,List.append_assoc,List.singleton_append]
  congr 1
  exact AS (by simp +arith only) (by simp +arith only)
theorem Vg:∀(a b:List UInt8),¬(10:UInt8)∈a->zK 10 (a++10::b)=a::zK 10 b:=by
 intro l_
 induction l_ with
 | nil =>
  intro b _;rw[List.nil_append,ud,if_pos rfl]
 | cons x a ih_ =>
  intro b h;have hx:x≠10:=fun e=>h (by rw[e];exact .head _);rw[List.cons_append,ud,if_neg hx,ih_ b fun q=>h (.tail _ q)]
theorem q8:∀(rows:List (List UInt8)),(∀r∈rows,¬(10:UInt8)∈r)->zK 10 (rows.flatMap (fun x=>x++[10]))=rows++[[]]:=by
 intro l_
 induction l_ with
 | nil =>
  intro _;exact rfl
 | cons r rows ih_ =>
  intro h;rw[List.flatMap_cons,List.append_assoc,List.singleton_append,Vg _ _ (h r (.head _)),ih_ fun q hq=>h q (.tail _ hq)]
  rfl
theorem SH {α:Type} (c:α):∀(r:List α) (rs:List (List α)),zC [c] (r::rs)++[c]=(r::rs).flatMap (fun x=>x++[c])
 | r,rs=>by
  have key:∀rs:List (List α),rs.flatMap (fun x=>[c]++x)++[c]=c::rs.flatMap (fun x=>x++[c]):=by
   intro rs
   induction rs with
   | nil=>rfl
   | cons q rs ih =>
    rw[List.flatMap_cons,List.append_assoc,ih,List.flatMap_cons];exact mc
  rw[yR,List.append_assoc,key,List.flatMap_cons];exact mc
noncomputable def xr (rows:List (List Nat)):List Nat:=zC [10] rows++[10]
theorem ky {rows:List (List Nat)} (h0:rows≠[]) (h:∀r∈rows,¬(10:UInt8)∈oct r):zK 10 (oct (xr rows))=rows.map oct++[[]]:=by
 cases rows with
 | nil=>exact absurd rfl h0
 | cons r rs =>
  have e:oct (xr (r::rs))=((r::rs).map oct).flatMap (fun x=>x++[10]):=by
   unfold xr;rw[SH]
   have:∀l:List (List Nat),oct (l.flatMap (fun x=>x++[10]))=(l.map oct).flatMap (fun x=>x++[10]):=by
    intro l
    induction l with
    | nil=>rfl
    | cons q l ih=>rw[List.flatMap_cons,yw,ih,List.map_cons,List.flatMap_cons,yw];rfl
   exact this _
  rw[e]
  exact q8 _ fun q hq=>by
   refine zn (List.mem_map.mp hq) fun x hx q2z=>?_;subst q2z;exact h x hx
theorem Vl {t:List UInt8} (h:good t=true):¬(10:UInt8)∈t:=by
 unfold good at h;simp -iota only[Bool.and_eq_true,Bool.not_eq_true']at h;intro q;rw[List.contains_iff_mem.mpr q]at h;cases h.2
theorem S2 {sep:List UInt8} (hs:¬(10:UInt8)∈sep):∀{l:List (List UInt8)},(∀x∈l,¬(10:UInt8)∈x)->¬(10:UInt8)∈zC sep l
 | [],_=>by exact wE
 | p::r,h=>by
  rw[yR,List.mem_append]
  rintro (q | q)
  ·exact h p (.head _) q
  ·refine zn (List.mem_flatMap.mp q) fun x hx hq=>?_
   rcases List.mem_append.mp hq with hq | hq
   ·exact hs hq
   ·exact h x (.tail _ hx) hq
theorem qY {Fs:List Fld} (hF:∀F∈Fs,F.ok) (m:Nat):∀r∈uU (Fs.map Fld.text) m,(¬(10:UInt8)∈oct r)/\r.take 1≠[101]:=by
 revert Fs hF m
 intros Fs hF m;intros r hr;unfold uU at hr
 split at hr
 ·cases hr
 ·rw[List.mem_singleton]at hr;subst hr;refine⟨?_,?_⟩
  ·rw[yw,yw,kz];intros q
   rcases List.mem_append.mp q with q | q
   ·rcases List.mem_append.mp q with q | q
    ·rcases UT m with e | e<;>(rw[e]at q;revert q;decide)
    ·refine S2 (by decide) (?_) q;intros x hx;obtain⟨y,hy,rfl⟩:_:=List.mem_map.mp hx;obtain⟨G,hG,rfl⟩:_:=List.mem_map.mp hy;exact Vl (ki (hF G hG)).good
   ·revert q;decide
  ·unfold xm
   split<;>simp
theorem Q0 {e:Ent} (h:e.ok):∀r∈e.rows,¬(10:UInt8)∈oct r:=by
 intro r hr;rw[vU]at hr
 rcases List.mem_append.mp hr with hr | hr
 ·rcases List.mem_append.mp hr with hr | hr
  ·rw[List.mem_singleton.mp hr];exact(ZT h.k h.j).1
  ·exact(qY (fun F hF=>h.fs F (List.mem_of_mem_take hF)) _ r hr).1
 ·exact(qY (fun F hF=>h.fs F (List.mem_of_mem_drop hF)) _ r hr).1
theorem Zz (m:Nat):∀r∈yO m,(¬(10:UInt8)∈oct r)/\r.take 1≠[101]:=by
 match m with
 | 0=>intro r hr;cases hr
 | 1=>intro r hr;rw[List.mem_singleton.mp hr];decide
 | m+2=>intro r hr;rw[List.mem_singleton.mp hr];decide
theorem Sk {es:List (Ent×Nat)} (h:∀p∈es,p.1.ok):∀r∈zi es,¬(10:UInt8)∈oct r:=by
 intro r hr;refine zn (List.mem_flatMap.mp hr) fun p hp hr=>?_
 rcases List.mem_append.mp hr with hr | hr
 ·exact Q0 (h p hp) r hr
 ·exact(Zz _ r hr).1
theorem Rg {e:Ent}:e.rows≠[]:=by rw[vU];exact nofun
theorem P1 {es:List (Ent×Nat)} (h0:es≠[]) (h:∀p∈es,p.1.ok) (hl:es.length<=1000):w6 (oct (xr (zi es))) = .done (es.map fun p=>p.1.info):=by
 unfold w6
 have hne:zi es≠[]:=by
  cases es with
  | nil=>exact absurd rfl h0
  | cons p es=>unfold zi;rw[List.flatMap_cons];simp -iota [Rg]
 rw[ky hne (Sk h),Xw es [] 0 [[]] h (by simpa using hl)]
 have:xQ z4 ([]++es.map fun p=>p.1.info) [] = .ok (es.map fun p=>p.1.info):=by
  unfold xQ;rw[if_pos (.inl (by decide))];rfl
 rw[tv,this];rfl
theorem jR {K:Kn} {I:InfoV} {f name sign rest:List UInt8} (h1:rstrip f≠[]) (h2:f.take 1≠[46]) (hs:xf f=some (name,sign,rest)) (hu:¬(name=[117,115,101]/\sign=[61])) (hv:xU sign rest = .bad):wN K I f = .bad:=by
 unfold wN;rw[if_neg (by intro h;exact h.elim h1 h2),hs];simp only;rw[if_neg hu,hv];rfl
theorem sK {K:Kn} {I:InfoV} {f name sign rest:List UInt8} {s:Nat} {v:AV} (h1:rstrip f≠[]) (h2:f.take 1≠[46]) (hs:xf f=some (name,sign,rest)) (hu:¬(name=[117,115,101]/\sign=[61])) (hv:xU sign rest = .ok (some s,v)) (hk:yW K name<3/\s≠yW K name):wN K I f = .bad:=by
 rw[jD h1 h2 hs hu hv,kI,if_pos ⟨hk.1,nofun,by simpa using hk.2⟩]
theorem uv {f row:List UInt8} (h1:yS row≠[]) (h2:row.take 1=[9]) (hf:yZ row=some [f]) (hp:∀I,wN z4 I f = .bad) (fs:List InfoV) (ns:List (List UInt8)):xQ z4 (fs++[x7 ns]) row = .bad:=by
 revert f row h1 h2 hf hp fs ns
 intros f row h1 h2 hf hp fs ns;unfold xQ;rw[if_neg (by intro q;rw[h2]at q;exact q.elim h1 (by decide)),hf];simp only;rw[if_neg (by unfold tK;rw[h2];decide)];simp only[List.getLast?_append,List.getLast?_singleton,Option.some_or];rw[qZ,if_pos (by rfl),hp]
 rfl
theorem Rw {bad:List Nat} (hb:bad∈xN) (fs:List InfoV) (ns:List (List UInt8)):xQ z4 (fs++[x7 ns]) (oct bad) = .bad:=by
 revert bad hb fs ns
 intros bad hb fs ns;have k0:=qp (i:=0) (wB);have k1:=uu (i:=0) (wB);have k2:=tD (i:=0) (wB);have k3:=tD (i:=1) (wA);simp -iota only[xN,List.mem_cons,wE,or_false]at hb
 rcases hb with rfl | rfl | rfl | rfl | rfl | rfl | rfl | rfl
 ·refine uv (f:=[99,111,108,115,61,56,48]) (by decide +kernel) (by kernel_rfl) (by kernel_rfl) (?_) fs ns;intros I;refine sK (name:=oct (yU 0)) (sign:=[61]) (rest:=[56,48]) (s:=2) (v:=.bytes [56,48]) (by decide +kernel) (by decide +kernel) (by kernel_rfl) (by decide +kernel) ?_ (by rw[k0];decide);unfold xU;rw[if_neg (by decide),if_pos rfl,show kU [56,48]=some [56,48] from by kernel_rfl]
  rfl
 ·refine uv (f:=[97,109,35,49]) (by decide +kernel) (by kernel_rfl) (by kernel_rfl) (?_) fs ns;intros I;refine sK (name:=oct (yC 0)) (sign:=[35]) (rest:=[49]) (s:=1) (v:=.int (1:Nat)) (by decide +kernel) (by decide +kernel) (by kernel_rfl) (by decide +kernel) ?_ (by rw[k1];decide);unfold xU;rw[if_pos rfl,ja (r:=uK (rstrip [49])) (k:=1) (by kernel_rfl)]
  rfl
 ·refine uv (f:=[122,122,64,120]) (by decide +kernel) (by kernel_rfl) (by kernel_rfl) (?_) fs ns;intros I;refine jR (name:=[122,122]) (sign:=[64]) (rest:=[120]) (by decide +kernel) (by decide +kernel) (by kernel_rfl) (by decide +kernel) ?_;unfold xU;rw[if_neg (by decide),if_neg (by decide),if_pos rfl,if_pos (by decide +kernel)]
 ·refine uv (f:=[99,114,61,92,113]) (by decide +kernel) (by kernel_rfl) (by kernel_rfl) (?_) fs ns;intros I;refine jR (name:=[99,114]) (sign:=[61]) (rest:=[92,113]) (by decide +kernel) (by decide +kernel) (by kernel_rfl) (by decide +kernel) ?_;unfold xU;rw[if_neg (by decide),if_pos rfl,show kU [92,113]=none from by decide +kernel]
 ·refine uv (f:=[99,111,108,115,35,56,120]) (by decide +kernel) (by decide +kernel) (by decide +kernel) (?_) fs ns;intros I;refine jR (name:=[99,111,108,115]) (sign:=[35]) (rest:=[56,120]) (by decide +kernel) (by decide +kernel) (by decide +kernel) (by decide +kernel) ?_;unfold xU;rw[if_pos rfl]
  have:uK (rstrip [56,120]) = .bad:=by
   have h:(match uK (rstrip [56,120])with | .bad=>true | _=>false)=true:=by decide +kernel
   revert h
   cases uK (rstrip [56,120])<;>simp
  rw[this];rfl
 ·unfold xQ;rw[if_neg (by decide +kernel),show yZ (oct [9,97,109])=none from by decide +kernel]
 ·refine uv (f:=[99,114,35,51]) (by decide +kernel) (by decide +kernel) (by decide +kernel) (?_) fs ns;intros I;refine sK (name:=oct (yM 0)) (sign:=[35]) (rest:=[51]) (s:=1) (v:=.int (3:Nat)) (by decide +kernel) (by decide +kernel) (by decide +kernel) (by decide +kernel) ?_ (by rw[k2];decide);unfold xU;rw[if_pos rfl,ja (r:=uK (rstrip [51])) (k:=3) (by decide +kernel)]
  rfl
 ·refine uv (f:=[98,101,108]) (by decide +kernel) (by decide +kernel) (by decide +kernel) (?_) fs ns;intros I;refine sK (name:=oct (yM 1)) (sign:=[]) (rest:=[]) (s:=0) (v:=.bool true) (by decide +kernel) (by decide +kernel) (by decide +kernel) (by decide +kernel) ?_ (by rw[k3];decide);unfold xU;rw[if_neg (by decide),if_neg (by decide),if_neg (by decide)]
theorem Qc:∀bad∈xN,¬(10:UInt8)∈oct bad:=by decide +kernel
theorem SW:∀bad∈xN,bad.length<=20 /\ ∀c∈bad,c<256:=by decide +kernel
theorem QY {es:List (Ent×Nat)} {e:Ent} {m:Nat} (h:∀p∈es++[(e,m)],p.1.ok) (hl:es.length<=900) {bad:List Nat} (hb:bad∈xN) :
  w6 (oct (xr ((zi (es++[(e,m)])).take ((zi es).length+1)++[bad]++(zi (es++[(e,m)])).drop ((zi es).length+1)))) = .told ((zi es).length+2):=by
 revert es e m h hl bad hb
 intros es e m h hl bad hb;have he:e.ok:=h (e,m) (mm);have hes:∀p∈es,p.1.ok:=fun p hp=>h p (List.mem_append_left _ hp)
 obtain⟨rest,hrest⟩:∃rest,zi (es++[(e,m)])=zi es++y0 e.k e.j::rest:=by
  unfold zi;rw[List.flatMap_append,List.flatMap_cons,List.flatMap_nil,vU];exact⟨_,by simp -iota [List.append_assoc];rfl⟩
 have hnl:=Sk h;rw[hrest]at hnl ⊢
 have t1:(zi es++y0 e.k e.j::rest).take ((zi es).length+1)=zi es++[y0 e.k e.j]:=by
  rw[List.take_append];simp;exact List.take_of_length_le (Nat.le_add_right _ _)
 have t2:(zi es++y0 e.k e.j::rest).drop ((zi es).length+1)=rest:=by simp
 rw[t1,t2];unfold w6;rw[ky (by simp) (fun r hr=>?_)]
 ·have e1:(zi es++[y0 e.k e.j]++[bad]++rest).map oct++[[]]=(zi es).map oct++(oct (y0 e.k e.j)::oct bad::(rest.map oct++[[]])):=by simp
  rw[e1,Xw es [] 0 _ hes (by simp;exact F1 hl),wY (jf he.k he.j (by simp;exact F1 hl)),tv,Rw hb];simp
 ·simp -iota only[List.mem_append,List.mem_singleton]at hr
  rcases hr with ((hr | hr) | hr) | hr
  ·exact hnl r (m2 hr)
  ·exact hnl r (by simp -iota [hr])
  ·rw[hr];exact Qc bad hb
  ·exact hnl r (by simp -iota [hr])
theorem RQ:w6 [9,97,109,44,10] = .told 1:=by
 unfold w6;rw[show zK 10 [9,97,109,44,10]=[[9,97,109,44],[]] from by kernel_rfl,tv]
 have:xQ z4 [] [9,97,109,44] = .bad:=by
  unfold xQ;rw[if_neg (by decide +kernel),show yZ [9,97,109,44]=some [[97,109]] from by kernel_rfl];simp only;rw[if_neg (by unfold tK;decide)]
  rfl
 rw[this]
noncomputable def RF (rows:List (List Nat)):List (List Nat×Nat):=(rows.zipIdx 0).filter fun p=>decide (p.1.take 1=[101])
theorem TR {pre post:List (List Nat)} {hd:List Nat} (h1:hd.take 1=[101]) (h2:∀r∈post,r.take 1≠[101]):∃l,RF (pre++hd::post)=l++[(hd,pre.length)]:=by
 unfold RF;rw[List.zipIdx_append,List.filter_append,List.zipIdx_cons,List.filter_cons,if_pos (by exact decide_eq_true h1)]
 have:(post.zipIdx (0+pre.length+1)).filter (fun p=>decide (p.1.take 1=[101]))=[]:=by
  rw[List.filter_eq_nil_iff]
  rintro ⟨r,i⟩ hr
  have:r∈post:=by
   have:=List.mem_map_of_mem (f:=Prod.fst) hr;simpa using this
  simpa using h2 r this
 rw[this,Nat.zero_add];exact⟨_,rfl⟩
theorem Qu {es:List (Ent×Nat)} {e:Ent} {m:Nat} (he:e.ok):∃l,RF (zi (es++[(e,m)]))=l++[(y0 e.k e.j,(zi es).length)]:=by
 revert es e m he
 intros es e m he
 have hrest:zi (es++[(e,m)])=zi es++y0 e.k e.j::(uU ((e.fs.take e.c).map Fld.text) 1++uU ((e.fs.drop e.c).map Fld.text) (1+(uU ((e.fs.take e.c).map Fld.text) 1).length)++yO m):=by
  unfold zi;rw[List.flatMap_append,List.flatMap_cons,List.flatMap_nil,vU];simp -iota [List.append_assoc]
 rw[hrest];obtain⟨_,t,ht⟩:_:=ZT he.k he.j;refine TR (by rw[ht];rfl) ?_;intros r hr;simp -iota only[List.mem_append]at hr
 rcases hr with (hr | hr) | hr
 ·exact(qY (fun F hF=>he.fs F (List.mem_of_mem_take hF)) _ r hr).2
 ·exact(qY (fun F hF=>he.fs F (List.mem_of_mem_drop hF)) _ r hr).2
 ·exact(Zz m r hr).2
noncomputable abbrev vf:=List UInt8×AV
noncomputable def ND (l:List vf):Prop:=(l.map (fun x=>x.1)).Nodup
theorem Us {l:List vf} {x:List UInt8} (h:¬(yq l x).isSome=true):x∉l.map (fun x=>x.1):=by
 intro hm;refine zn (wF hm) fun v hv z=>?_;rw[hv]at h;exact h rfl
theorem jW {l:List vf} {x:List UInt8} {v:AV} (h:x∉l.map (fun x=>x.1)):yL l x v=l++[(x,v)]:=by
 unfold yL;rw[if_neg];intro hq;rw[List.any_eq_true]at hq;refine zn (hq) fun p hp he=>?_;try clear hq;exact h (List.mem_map.mpr ⟨p,hp,of_decide_eq_true he⟩)
theorem Sn {l:List vf} {x:List UInt8} {v:AV} (hl:ND l) (h:x∉l.map (fun x=>x.1)):ND (yL l x v):=by
 rw[jW h];unfold ND;rw[List.map_append,List.nodup_append];refine⟨hl,by simp,fun a ha b hb e=>?_⟩;simp only[List.map_cons,List.map_nil,List.mem_singleton]at hb;subst hb;subst e;exact h ha
theorem Vt {l:List vf} (hl:ND l) {x:List UInt8} {v:AV} (hm:(x,v)∈l):yq l x=some v:=by
 induction l with
 | nil=>cases hm
 | cons p r ih =>
  unfold ND at hl;rw[List.map_cons,List.nodup_cons]at hl;unfold yq;rw[List.find?_cons]
  rcases List.mem_cons.mp hm with rfl | hm
  ·simp
  ·have:p.1≠x:=fun e=>hl.1 (List.mem_map.mpr ⟨_,hm,e.symm⟩);simp only[this,decide_false];exact ih hl.2 hm
structure Yr (I:InfoV):Prop where
 lot:∀k,k<4->∀x v,(x,v)∈I.lot k->∃F:Fld,F.ok/\F.kind=k/\oct F.name=x/\F.told=v
 nd:∀k,ND (I.lot k)
 uses:∀u∈I.uses,∃i,i<4/\u=oct (uJ i)
theorem WO (ns:List (List UInt8)):Yr (x7 ns):=⟨fun k z x v h=>(nomatch h),fun k=>List.nodup_nil,fun u h=>(nomatch h)⟩
theorem Tk {I:InfoV} (h:Yr I) {F:Fld} (hF:F.ok):Yr (zW I F):=by
 revert I h F hF
 intros I h F hF;unfold zW
 split
 ·rename_i h4;refine⟨h.lot,h.nd,?_⟩;intros u hu
  rcases List.mem_append.mp hu with hu | hu
  ·exact h.uses u hu
  ·rw[List.mem_singleton.mp hu]
   cases F with
   | use i=>exact⟨i,hF,rfl⟩
   | truth i=>simp only[Fld.kind]at h4;split at h4<;>cases h4
   | num i k p=>simp only[Fld.kind]at h4;split at h4<;>cases h4
   | str i ss=>simp only[Fld.kind]at h4;split at h4<;>cases h4
   | off i=>simp only[Fld.kind,Fld.ok]at *;exact Z (F2 (Re h4) hF)
 ·split
  ·exact h
  ·rename_i hn;have hx:=Us hn;refine⟨?_,?_,h.uses⟩
   ·intros k hk x v hm;simp only[InfoV.setLot]at hm
    split at hm
    ·rename_i e;rw[jW hx]at hm
     rcases List.mem_append.mp hm with hm | hm
     ·rw[<-e]at hm;exact h.lot k hk x v hm
     ·rw[List.mem_singleton]at hm;cases hm;exact⟨F,hF,e.symm,rfl,rfl⟩
    ·exact h.lot k hk x v hm
   ·intros k;simp only[InfoV.setLot]
    split
    ·exact Sn (h.nd _) hx
    ·exact h.nd k
theorem UF:∀(Fs:List Fld) (I:InfoV),(∀F∈Fs,F.ok)->Yr I->Yr (Fs.foldl zW I):=by
 intro l_
 induction l_ with
 | nil =>
  intro _ _ h;exact h
 | cons F Fs ih_ =>
  intro I hF h;exact ih_ (zW I F) (fun G hG=>hF G (.tail _ hG)) (Tk h (hF F (.head _)))
theorem WY (I:InfoV) (F:Fld):(zW I F).names=I.names:=by
 unfold zW
 split
 ·rfl
 ·split<;>rfl
theorem jt:∀(Fs:List Fld) (I:InfoV),(Fs.foldl zW I).names=I.names:=by
 intro l_
 induction l_ with
 | nil =>
  intro _;exact rfl
 | cons F Fs ih_ =>
  intro I;exact(ih_ (zW I F)).trans (WY I F)
theorem uV {e:Ent} (h:e.ok):Yr e.info:=UF e.fs _ h.fs (WO _)
theorem tq (e:Ent):e.info.names=(zG e.k e.j).map oct:=jt e.fs _
theorem qV {e:Ent} (h:e.ok):(∀k,k<4->(e.info.lot k).length<=5)/\e.info.uses.length<=5:=by
 have:=ug e.fs ⟨(zG e.k e.j).map oct,fun z=>[],[]⟩ 0 (fun z z=>wC) (wC);have hl:=h.len;unfold Ent.info un;exact⟨fun k hk=>by have:=this.1 k hk;exact F2 hl this,by have:=this.2;exact F2 ‹(∀(k:Nat),    k<4->      ((List.foldl zW { names:=List.map oct (zG e.k e.j),lot:=fun x=>[],uses:=[] } e.fs).lot             k).length <=         0+e.fs.length) /\   (List.foldl zW { names:=List.map oct (zG e.k e.j),lot:=fun x=>[],uses:=[] } e.fs).uses.length <=     0+e.fs.length›.2 hl⟩
theorem Yb {F:Fld} (h:F.ok):vD F.told:=by
 cases F with
 | truth i=>exact .bool
 | num i k p=>exact .int (Nat.lt_trans h.2.1 (by decide))
 | str i ss=>exact .bytes (by have:=h.2.1;simp;exact F1 this)
 | off i=>exact .none
 | use i=>exact .none
theorem kY {e:Ent} (h:e.ok):Z5 e.info:=by
 have hn:=X6 h.k h.j;have hl:=qV h;have hh:=uV h;refine⟨?_,fun k hk=>⟨by have:=hl.1 k hk;exact F1 this,?_⟩,by have:=hl.2;exact F1 hl.2,?_⟩
 ·rw[tq];refine⟨by simp;exact F1 hn.2,fun x hx=>?_⟩;refine zn (List.mem_map.mp hx) fun y hy q2z=>?_;subst q2z;have:=(hn.1 y hy).2;simp[oct];exact F1 this
 ·intro p1z hm;obtain⟨x,v⟩:=p1z;refine Y6 (hh.lot k hk x v hm) fun F hF z q3z q4z=>?_;subst q3z;subst q4z;have:=(Fld.name_ok hF).2;exact⟨by simp[oct];exact F1 this,Yb hF⟩
 ·intro x hx;refine zn (hh.uses x hx) fun i hi q5z=>?_;subst q5z;have:=(Fld.name_ok (F:=.use i) hi).2;simp only[Fld.name]at this;simp[oct];exact F1 this
theorem XU (l:List (List UInt8)):zC [] l=l.flatten:=by
 cases l with
 | nil=>rfl
 | cons p r =>
  rw[yR,List.flatten_cons]
  congr 1
  induction r with
  | nil=>rfl
  | cons q r ih=>rw[List.flatMap_cons,List.flatten_cons,ih];rfl
theorem ZK {α β:Type} {f:α->β} {P:α->Prop}:∀{l:List β},(∀x∈l,∃a,P a/\f a=x)->∃G:List α,G.map f=l /\ ∀a∈G,P a
 | [],_=>⟨[],rfl,nn⟩
 | x::r,h=>by
  obtain⟨a,ha,e⟩:=h x (.head _);obtain⟨G,hG,hP⟩:=ZK (l:=r) fun y hy=>h y (.tail _ hy);refine⟨a::G,by rw[List.map_cons,hG,e],fun b hb=>?_⟩
  rcases List.mem_cons.mp hb with rfl | hb
  ·exact ha
  ·exact hP b hb
theorem sT {k:Nat} (hk:k<4):∀(G:List Fld) (I:InfoV),(∀F∈G,F.kind=k)->((I.lot k).map (fun x=>x.1)++G.map fun F=>oct F.name).Nodup->(G.foldl zW I).lot k=I.lot k++(G.map fun F=>(oct F.name,F.told))/\(∀j,j≠k->(G.foldl zW I).lot j=I.lot j)/\(G.foldl zW I).uses=I.uses:=by
 intro l_
 induction l_ with
 | nil =>
  intro I _ _;simp
 | cons F G ih_ =>
  intro I hG hn;have hF:=hG F (.head _)
  have hx:oct F.name∉(I.lot k).map (fun x=>x.1):=fun hm=>by
   rw[List.nodup_append]at hn;exact hn.2.2 _ hm _ (by exact .head _) rfl
  have hq:¬(yq (I.lot k) (oct F.name)).isSome=true:=by
   intro q;refine zX (Option.isSome_iff_exists.mp q) fun v hv=>?_;unfold yq at hv;rw[Option.map_eq_some_iff]at hv;refine zn (hv) fun p hp z=>?_;try clear hv;have h1:=List.mem_of_find?_eq_some hp;have h2:=List.find?_some hp;exact hx (List.mem_map.mpr ⟨p,h1,by exact of_decide_eq_true h2⟩)
  have ha:zW I F=I.setLot k (I.lot k++[(oct F.name,F.told)]):=by
   unfold zW;rw[if_neg (by exact Ql (F2 hk (Le hF))),hF,if_neg hq,jW hx]
  have hn':(((zW I F).lot k).map (fun x=>x.1)++G.map fun F=>oct F.name).Nodup:=by
   rw[ha];simp only[InfoV.setLot,if_pos,List.map_append,List.map_cons,List.map_nil,List.append_assoc];exact hn
  refine t_ (ih_ (zW I F) (fun H hH=>hG H (.tail _ hH)) hn') fun i1 i2 i3=>?_;rw[List.foldl_cons];refine⟨?_,fun j hj=>?_,?_⟩
  ·rw[i1,ha];simp[InfoV.setLot]
  ·rw[i2 j hj,ha];exact if_neg hj
  ·rw[i3,ha];rfl
theorem UJ:∀(G:List Fld) (I:InfoV),(∀F∈G,F.kind=4)->(G.foldl zW I).uses=I.uses++(G.map fun F=>oct F.name)/\(G.foldl zW I).lot=I.lot:=by
 intro l_
 induction l_ with
 | nil =>
  intro I _;simp
 | cons F G ih_ =>
  intro I hG;have hF:=hG F (.head _)
  have ha:zW I F={ I with uses:=I.uses++[oct F.name] }:=by unfold zW;rw[if_pos hF]
  obtain⟨i1,i2⟩:=ih_ (zW I F) fun H hH=>hG H (.tail _ hH);rw[List.foldl_cons];refine⟨?_,?_⟩
  ·rw[i1,ha];exact List.append_assoc ..
  ·rw[i2,ha]
theorem vX (β:Fld->List UInt8):∀(G:List Fld) (I:InfoV) (c:Nat),(∀k,k<4->(I.lot k).length<=c)->I.uses.length<=c->c+G.length<=1000->(∀F∈G,vM (β F) /\ ∀I,wN z4 I (β F) = .ok (zW I F))->∀(n:Nat) (more:List (List UInt8)),
  xZ z4 n ((G.map fun F=>[9]++β F++[44])++more) [I]=xZ z4 (n+G.length) more [G.foldl zW I]:=by
 intro l_
 induction l_ with
 | nil =>
  intro I c _ _ _ _ n more;exact rfl
 | cons F G ih_ =>
  intro I c hl hu hc hb n more;simp only[List.length_cons]at hc
  have h1:xQ z4 [I] ([9]++β F++[44]) = .ok [zW I F]:=by
   have:=jE (i:=[9]) (.inl rfl) (t:=β F) (r:=[]) (fun x hx=>by rw[List.mem_singleton.mp hx];exact(hb F (.head _)).1) [] I;simp only[yR,List.flatMap_nil,List.append_nil,List.nil_append]at this;rw[this,qZ,if_pos (Vq hl hu (F1 hc)),(hb F (.head _)).2]
   rfl
  have ih:=ih_ (zW I F) (c+1) (so hl) (ql hu) (F1 hc) (fun H hH=>hb H (.tail _ hH)) (n+1) more;rw[List.map_cons,List.cons_append,wY h1,ih,List.foldl_cons,List.length_cons]
  congr 1
  exact AS (by simp +arith only) (by simp +arith only)
noncomputable def vr (b:List UInt8):List UInt8:=[9]++b++[44]
theorem VX:∀(bs:List (List UInt8)),(∀b∈bs,¬(10:UInt8)∈b)->zK 10 (zC [] (bs.map (fun x=>x++[10])))=bs++[[]]:=by
 intro bs h;rw[XU];have:=q8 bs h;rw[<-List.flatMap_def];exact this
structure Ug (I:InfoV) (ks:Nat->List (List UInt8)) (k:Nat) (G:List Fld):Prop where
 map:(G.map fun F=>oct F.name)=ks k
 ok:∀F∈G,F.ok/\F.kind=k/\F.told=yI (I.lot k) (oct F.name)
theorem S_ {I:InfoV} (hh:Yr I) {ks:Nat->List (List UInt8)} {k:Nat} (hk:k<4) (hp:(ks k).Perm ((I.lot k).map (fun x=>x.1))):∃G,Ug I ks k G:=by
 obtain⟨G,h1,h2⟩:=ZK (f:=fun F:Fld=>oct F.name) (P:=fun F=>F.ok/\F.kind=k/\F.told=yI (I.lot k) (oct F.name)) (l:=ks k) fun x hx=>by
  refine zn (wF (hp.mem_iff.mp hx)) fun v hv hm=>?_;refine Y6 (hh.lot k hk x v hm) fun F hF hFk hn ht=>?_;refine⟨F,⟨hF,hFk,?_⟩,hn⟩;rw[hn];unfold yI;rw[hv,ht];rfl
 exact⟨G,h1,h2⟩
theorem tE {I:InfoV} {ks:Nat->List (List UInt8)} {k:Nat} {G:List Fld} (h:Ug I ks k G):(ks k).map (vm (I.lot k))=(G.map fun F=>vr F.print).map (fun x=>x++[10]):=by
 rw[<-h.map,List.map_map,List.map_map];refine List.map_congr_left fun F hF=>?_;refine t_ (h.ok F hF) fun z z ht=>?_;show vm (I.lot k) (oct F.name)=vr F.print++[10];unfold vm vr Fld.print;rw[ht];exact mc
theorem Xa {F:Fld} {b:List UInt8} (h:vM b):¬(10:UInt8)∈vr b:=by
 unfold vr;have:=Vl h.good;simp only[List.mem_append,List.mem_singleton]
 rintro ((q | q) | q)
 ·revert q;decide
 ·exact this q
 ·revert q;decide
theorem Py {e:Ent} (h:e.ok) {ks:Nat->List (List UInt8)} (hks:∀k,k<4->(ks k).Perm ((e.info.lot k).map (fun x=>x.1))) :
  ∃J:InfoV,w6 (zC [] (y8 e.info ks)) = .done [J]/\J.names=e.info.names/\J.uses=e.info.uses /\ ∀k,k<4->su (J.lot k) (e.info.lot k):=by
 revert e h ks hks
 intros e h ks hks;have hh:=uV h;have hlen:=qV h;obtain⟨G0,p0⟩:_:=S_ hh (k:=0) (wB) (hks 0 (wB));obtain⟨G1,p1⟩:_:=S_ hh (k:=1) (wA) (hks 1 (wA));obtain⟨G2,p2⟩:_:=S_ hh (k:=2) (wA) (hks 2 (wA));obtain⟨G3,p3⟩:_:=S_ hh (k:=3) (wC) (hks 3 (wC))
 obtain⟨GU,u1,u2⟩:_:=ZK (f:=fun F:Fld=>oct F.name) (P:=fun F=>∃i,i<4/\F = .use i) (l:=e.info.uses) fun u hu=>by
  obtain⟨i,hi,e⟩:_:=hh.uses u hu;exact⟨.use i,⟨i,hi,rfl⟩,e.symm⟩
 have hU:e.info.uses.map ut=(GU.map fun F=>vr (oct F.text)).map (fun x=>x++[10]):=by
  rw[<-u1,List.map_map,List.map_map];refine List.map_congr_left ?_;intros F hF;obtain⟨i,hi,rfl⟩:_:=u2 F hF;show ut (oct (Fld.name (.use i)))=vr (oct (Fld.text (.use i)))++[10];unfold ut vr;simp only[Fld.text,Fld.name,yw,List.append_assoc]
  rfl
 have hhead:wO e.info=oct (y0 e.k e.j)++[10]:=by
  unfold wO y0;rw[tq,yw,kz,List.append_assoc];rfl
 have hrows:y8 e.info ks=(oct (y0 e.k e.j)::((G0.map fun F=>vr F.print)++((G1.map fun F=>vr F.print)++((G2.map fun F=>vr F.print)++((G3.map fun F=>vr F.print)++(GU.map fun F=>vr (oct F.text))))))).map (fun x=>x++[10]):=by
  unfold y8;simp only[VB,sy,tE p0,tE p1,tE p2,tE p3,hU,hhead,List.map_cons,List.map_append];simp[List.append_assoc]
 have f4:∀{k:Nat} {G:List Fld},k<4->Ug e.info ks k G->∀F∈G,vM F.print /\ ∀I,wN z4 I F.print = .ok (zW I F):=fun {k G} hk p F hF=>by
  obtain⟨h1,h2,_⟩:_:=p.ok F hF;exact⟨VZ h1 (Ql (F2 hk (Le h2))),fun I=>UN h1 (Ql (F2 (Le h2) hk))⟩
 have fU:∀F∈GU,vM (oct F.text) /\ ∀I,wN z4 I (oct F.text) = .ok (zW I F):=by
  intros F hF;obtain⟨i,hi,rfl⟩:_:=u2 F hF;exact⟨ki (F:=.use i) hi,fun I=>YF (F:=.use i) hi⟩
 have gl:∀{k:Nat} {G:List Fld},k<4->Ug e.info ks k G->G.length<=5:=fun {k G} hk p=>by
  have h1:=congrArg List.length p.map;have h2:=(hks k hk).length_eq;have h3:=hlen.1 k hk;simp only[List.length_map]at h1 h2;exact F3 h3 (Le h1) (Le h2)
 have gU:GU.length<=5:=by
  have h1:=congrArg List.length u1;simp only[List.length_map]at h1;have:=hlen.2;exact F2 hlen.2 (Le h1)
 have l0:=gl (wB) p0;have l1:=gl (wA) p1;have l2:=gl (wA) p2;have l3:=gl (wC) p3
 have hread:w6 (zC [] (y8 e.info ks)) = .done [(G0++(G1++(G2++(G3++GU)))).foldl zW (x7 ((zG e.k e.j).map oct))]:=by
  unfold w6;rw[hrows,VX _ fun b hb=>?_]
  ·rw[List.cons_append,wY (jf h.k h.j (found:=[]) (by simp)),List.nil_append];have z0:∀k,k<4->((x7 ((zG e.k e.j).map oct)).lot k).length<=0:=fun k z=>wC;have a0:=ug G0 _ 0 z0 (wC);have a1:=ug G1 _ _ a0.1 a0.2;have a2:=ug G2 _ _ a1.1 a1.2;have a3:=ug G3 _ _ a2.1 a2.2;simp only[List.append_assoc];unfold vr;rw[vX Fld.print G0 _ 0 z0 (wC) (F1 l0) (f4 (wB) p0)];rw[vX Fld.print G1 _ _ a0.1 a0.2 (F2 l0 l1) (f4 (wA) p1)];rw[vX Fld.print G2 _ _ a1.1 a1.2 (F3 l0 l1 l2) (f4 (wA) p2)];rw[vX Fld.print G3 _ _ a2.1 a2.2 (F4 l0 l1 l2 l3) (f4 (wC) p3)];rw[vX (fun F=>oct F.text) GU _ _ a3.1 a3.2 (F5 gU l0 l1 l2 l3) fU];rw[tv]
   have:∀f:List InfoV,xQ z4 f [] = .ok f:=by
    intros f;unfold xQ;rw[if_pos (.inl (by decide))]
   rw[this];simp only[List.foldl_append]
   rfl
  ·have np:∀{k:Nat} {G:List Fld},k<4->Ug e.info ks k G->∀b∈G.map (fun F=>vr F.print),¬(10:UInt8)∈b:=fun {k G} hk p b hb=>by
    obtain⟨F,hF,rfl⟩:_:=List.mem_map.mp hb;exact Xa (F:=F) (f4 hk p F hF).1
   simp only[List.mem_cons,List.mem_append]at hb
   rcases hb with rfl | hb | hb | hb | hb | hb
   ·exact(ZT h.k h.j).1
   ·exact np (wB) p0 b hb
   ·exact np (wA) p1 b hb
   ·exact np (wA) p2 b hb
   ·exact np (wC) p3 b hb
   ·obtain⟨F,hF,rfl⟩:_:=List.mem_map.mp hb;exact Xa (F:=F) (fU F hF).1
 refine⟨_,hread,(jt _ _).trans (tq e).symm,?_,?_⟩
 all_goals simp only[List.foldl_append]
 all_goals
  have n0:(((x7 ((zG e.k e.j).map oct)).lot 0).map (fun x=>x.1)++G0.map fun F=>oct F.name).Nodup:=by
   rw[p0.map];exact(hks 0 (by decide)).nodup_iff.mpr (hh.nd 0)
  obtain⟨a1,a2,a3⟩:_:=sT (k:=0) (by decide) G0 (x7 ((zG e.k e.j).map oct)) (fun F hF=>(p0.ok F hF).2.1) n0;generalize G0.foldl zW (x7 ((zG e.k e.j).map oct))=I0 at *
  have n1:((I0.lot 1).map (fun x=>x.1)++G1.map fun F=>oct F.name).Nodup:=by
   rw[p1.map,a2 1 (by decide)];exact(hks 1 (by decide)).nodup_iff.mpr (hh.nd 1)
  obtain⟨b1,b2,b3⟩:_:=sT (k:=1) (by decide) G1 I0 (fun F hF=>(p1.ok F hF).2.1) n1;generalize G1.foldl zW I0=I1 at *
  have n2:((I1.lot 2).map (fun x=>x.1)++G2.map fun F=>oct F.name).Nodup:=by
   rw[p2.map,b2 2 (by decide),a2 2 (by decide)];exact(hks 2 (by decide)).nodup_iff.mpr (hh.nd 2)
  obtain⟨c1,c2,c3⟩:_:=sT (k:=2) (by decide) G2 I1 (fun F hF=>(p2.ok F hF).2.1) n2;generalize G2.foldl zW I1=I2 at *
  have n3:((I2.lot 3).map (fun x=>x.1)++G3.map fun F=>oct F.name).Nodup:=by
   rw[p3.map,c2 3 (by decide),b2 3 (by decide),a2 3 (by decide)];exact(hks 3 (by decide)).nodup_iff.mpr (hh.nd 3)
  obtain⟨d1,d2,d3⟩:_:=sT (k:=3) (by decide) G3 I2 (fun F hF=>(p3.ok F hF).2.1) n3;generalize G3.foldl zW I2=I3 at *
  obtain⟨w1,w2⟩:_:=UJ GU I3 fun F hF=>by
   obtain⟨i,hi,rfl⟩:_:=u2 F hF
   rfl
 ·rw[w1,d3,c3,b3,a3,u1];rfl
 ·have same:∀{k:Nat} {G:List Fld},k<4->Ug e.info ks k G->su (G.map fun F=>(oct F.name,F.told)) (e.info.lot k):=fun {k G} hk p=>by
   refine⟨?_,?_⟩
   ·have h1:=congrArg List.length p.map;have h2:=(hks k hk).length_eq;simp only[List.length_map]at h1 h2 ⊢;exact AS (F2 (Le h1) (Le h2)) (F2 (Re h2) (Re h1))
   ·intros x a hm;obtain⟨F,hF,hFe⟩:_:=List.mem_map.mp hm;cases hFe;obtain⟨ho,_,ht⟩:_:=p.ok F hF;have hx:oct F.name∈(e.info.lot k).map (fun x=>x.1):=(hks k hk).mem_iff.mp (by rw[<-p.map];exact List.mem_map.mpr ⟨F,hF,rfl⟩);obtain⟨v,hv,_⟩:_:=wF hx;refine⟨?_,Yb ho⟩;rw[ht];unfold yI;rw[hv];rfl
  intros k hk;rw[w2]
  have:k=0\/k=1\/k=2\/k=3:=by exact l4 (F1 hk)
  rcases this with rfl | rfl | rfl | rfl
  ·rw[d2 0 (Ql (by exact wB)),c2 0 (Ql (by exact wB)),b2 0 (Ql (by exact wC)),a1];exact same (hk) p0
  ·rw[d2 1 (Ql (by exact wA)),c2 1 (Ql (by exact wC)),b1,a2 1 (Qr (by exact wC))];exact same (hk) p1
  ·rw[d2 2 (Ql (by exact wC)),c1,b2 2 (Qr (by exact wC)),a2 2 (Qr (by exact wB))];exact same (hk) p2
  ·rw[d1,c2 3 (Qr (by exact wC)),b2 3 (Qr (by exact wA)),a2 3 (Qr (by exact wB))];exact same (hk) p3
theorem VD {l:List vf} {x:List UInt8} {v:AV} (hl:ND l):ND (yL l x v):=by
 by_cases hx:x∈l.map (fun x=>x.1)
 ·unfold yL
  have:l.any (fun p=>decide (p.1=x))=true:=by
   refine zn (List.mem_map.mp hx) fun p hp e=>?_;rw[List.any_eq_true];exact⟨p,hp,decide_eq_true e⟩
  rw[if_pos this];unfold ND;rw[List.map_map]
  have e:(l.map ((fun q:vf=>q.1) ∘ fun p:vf=>if p.1=x then (p.1,v) else p))=l.map (fun x=>x.1):=by
   refine List.map_congr_left fun p z=>?_;show (if p.1=x then (p.1,v) else p).1=p.1
   split<;>rfl
  rw[e];exact hl
 ·exact Sn hl hx
theorem T3:∀(more l:List vf),ND l->ND (yy l more):=by
 intro l_
 induction l_ with
 | nil =>
  intro l h;exact h
 | cons p r ih_ =>
  intro l h;exact ih_ (yL l p.1 p.2) (VD h)
theorem U_ {l more:List vf} (h:ND l):ND (yF l more):=by
 unfold yF;generalize more.map (fun x=>x.1)=ks
 induction ks generalizing l with
 | nil=>exact h
 | cons k ks ih =>
  rw[List.foldl_cons]
  split
  ·exact ih h
  ·exact ih (VD h)
theorem YQ {l:List vf} (h:ND l) {p:vf} (hp:p∈l):yI l p.1=p.2:=by
 unfold yI;rw[Vt h (v:=p.2) (x:=p.1) hp];rfl
theorem Vf {l:List vf} (h:ND l):w_ l=Zi l:=by
 unfold w_ Zi ur
 congr 1
 rw[List.filter_map,List.map_map]
 have e1:l.filter ((fun x=>!yT (yI l x)) ∘ fun p:vf=>p.1)=l.filter fun p=>!yT p.2:=by
  refine List.filter_congr fun p hp=>?_;show (!yT (yI l p.1))=_;rw[YQ h hp]
 rw[e1]
 have e2:(l.filter fun p=>!yT p.2).map ((fun x=>(x,yI l x)) ∘ fun p:vf=>p.1)=(l.filter fun p=>!yT p.2).map id:=by
  refine List.map_congr_left fun p hp=>?_;show (p.1,yI l p.1)=p;rw[YQ h (List.mem_filter.mp hp).1]
 rw[e2,List.map_id]
structure ZG (Is:List InfoV):Prop where
 names:∀I∈Is,∃h t,I.names=h::t
 nd:∀I∈Is,∀k,ND (I.lot k)
 heads:∀I∈Is,∀J∈Is,I.names.head?=J.names.head?->I.names=J.names
 size:∀I∈Is,(∀k,k<4->(I.lot k).length<=5)/\I.uses.length<=5
 few:Is.length<=3
noncomputable def Rel (Is:List InfoV) (path:List (List UInt8)) (ahead:List (List (List UInt8))):Prop:=∀I∈Is,∀h t,I.names=h::t->(h∈path↔I.names∈ahead)
theorem Rc {rs:List UInt8->Res xV} (hr:∀u l,rs u = .ok l->∀k,ND (l k)):∀(us:List (List UInt8)) (acc l:xV),(∀k,ND (acc k))->xM rs us acc = .ok l->∀k,ND (l k):=by
 intro l_
 induction l_ with
 | nil =>
  intro acc l h e;cases e;exact h
 | cons u us ih_ =>
  intro acc l h e;rw[sk]at e
  cases hq:rs u with
  | ok J =>
   rw[hq]at e;exact ih_ _ l (fun k=>U_ (h k)) e
  | bad=>rw[hq]at e;cases e
  | wild=>rw[hq]at e;cases e
theorem YV {r:Res xV} {l:xV} (h:r.bind (fun l=>yp l) = .ok l):r = .ok l:=by
 refine zn (Res.bind_ok h) fun a ha hc=>?_;unfold yp at hc
 split at hc
 ·cases hc;exact ha
 ·cases hc
theorem jr {Is:List InfoV} (W:ZG Is):∀(f:Nat) (name:List UInt8) (path:List (List UInt8)) (ahead:List (List (List UInt8))),Rel Is path ahead->xK Is f name path=xg Is f name ahead /\ ∀l,xK Is f name path = .ok l->∀k,ND (l k)
 | 0,name,path,ahead,_=>⟨rfl,fun l h=>(nomatch h)⟩
 | f+1,name,path,ahead,hR=>by
  rw[ZO,Yv]
  cases hfd:Is.find? fun I=>decide (name∈zL I.names)with
  | none=>exact⟨rfl,fun l h=>(nomatch h)⟩
  | some I =>
   have hI:=List.mem_of_find?_eq_some hfd;obtain⟨h,t,hn⟩:=W.names I hI;have hr:=hR I hI h t hn;simp only[hn];rw[hn]at hr
   by_cases hp:h∈path
   ·rw[if_pos hp,if_pos (hr.mp hp)];exact⟨rfl,fun l e=>(nomatch e)⟩
   ·rw[if_neg hp,if_neg (fun q=>hp (hr.mpr q))]
    have hR':Rel Is (path++[h]) (ahead++[h::t]):=fun J hJ h' t' hn'=>by
     rw[List.mem_append,List.mem_append,List.mem_singleton,List.mem_singleton,hR J hJ h' t' hn'];refine or_congr Iff.rfl ⟨fun e=>?_,fun e=>?_⟩
     ·rw[<-hn];exact W.heads J hJ I hI (by rw[hn',hn,e];rfl)
     ·rw[hn']at e;injection e
    have ih:=fun u=>jr W f u (path++[h]) (ahead++[h::t]) hR'
    have ef:(fun u=>(xK Is f u (path++[h])).bind fun l=>yp l)=fun u=>(xg Is f u (ahead++[h::t])).bind fun l=>yp l:=funext fun u=>by rw[(ih u).1]
    have hnd:∀l,xM (fun u=>(xK Is f u (path++[h])).bind fun l=>yp l) I.uses I.lot = .ok l->∀k,ND (l k):=fun l e=>Rc (fun u l hl=>(ih u).2 l (YV hl)) I.uses I.lot l (W.nd I hI) e;rw[<-ef]
    cases hu:xM (fun u=>(xK Is f u (path++[h])).bind fun l=>yp l) I.uses I.lot with
    | ok l =>
     have hl:=hnd l hu;refine⟨?_,fun l' e k=>?_⟩
     ·show Res.ok (fun k=>w_ (l k))=Res.ok fun k=>Zi (l k)
      congr 1
      funext k
      exact Vf (hl k)
     ·cases e;exact T3 _ _ List.nodup_nil
    | bad=>exact⟨rfl,fun l e=>(nomatch e)⟩
    | wild=>exact⟨rfl,fun l e=>(nomatch e)⟩
theorem Zd {rs:List UInt8->Res xV} {b:Nat} (hr:∀u,rs u ≠ .wild /\ ∀l,rs u = .ok l->∀k,k<4->(l k).length<=b):∀(us:List (List UInt8)) (acc:xV) (a:Nat),(∀k,k<4->(acc k).length<=a)->xM rs us acc ≠ .wild /\ ∀l,xM rs us acc = .ok l->∀k,k<4->(l k).length<=a+us.length*b
 | [],acc,a,h=>by
  refine⟨(by rw[Ry];exact nofun),fun l e k hk=>?_⟩;cases e;have:=h k hk;simp;exact this
 | u::us,acc,a,h=>by
  rw[sk];obtain⟨h1,h2⟩:=hr u
  cases hq:rs u with
  | ok J =>
   have hJ:=h2 J hq
   have:=Zd hr us (fun k=>yF (acc k) (J k)) (a+b) fun k hk=>by
    have h3:=qj (acc k) (J k);have h4:=h k hk;have h5:=hJ k hk;exact F3 h3 h4 h5
   refine⟨this.1,fun l e k hk=>?_⟩;have:=this.2 l e k hk;rw[List.length_cons,Nat.succ_mul];exact F1 this
  | bad=>exact⟨nofun,fun l e=>(nomatch e)⟩
  | wild=>exact absurd hq h1
noncomputable def cap:Nat->Nat
 | 0=>0
 | r+1=>5+5*cap r
theorem R8:∀r:Nat,cap (r+1)=5+5*cap r:=fun a=>rfl
theorem kl:∀{a b:Nat},a<=b->cap a<=cap b
 | 0,_,_=>wD
 | a+1,b+1,h=>by have:=kl (a:=a) (b:=b) (F1 h);simp only[R8];exact F5 this this this this this
 | _+1,0,h=>by exact Z (F1 h)
noncomputable def fresh (path:List (List UInt8)) (I:InfoV):Bool:=match I.names with
 | h::_=>decide (h∉path)
 | []=>false
theorem kx {path:List (List UInt8)} {I:InfoV} {h:List UInt8} {t:List (List UInt8)} (hn:I.names=h::t):fresh path I=decide (h∉path):=by unfold fresh;rw[hn]
noncomputable def uf (Is:List InfoV) (path:List (List UInt8)):Nat:=(Is.filter (fresh path)).length
theorem V4 {α:Type} {p q:α->Bool} (hpq:∀a,q a=true->p a=true):∀l:List α,(l.filter q).length<=(l.filter p).length
 | []=>wC
 | a::r=>by
  have ih:=V4 hpq r;rw[List.filter_cons,List.filter_cons]
  cases hq:q a with
  | true=>rw[hpq a hq];exact Nat.lt_succ_of_le ih
  | false =>
   cases hp:p a with
   | true=>simp;exact F1 ih
   | false=>exact ih
theorem VF {α:Type} {p q:α->Bool} (hpq:∀a,q a=true->p a=true) {x:α} (hp:p x=true) (hq:q x=false):∀{l:List α},x∈l->(l.filter q).length<(l.filter p).length
 | a::r,hm=>by
  rw[List.filter_cons,List.filter_cons]
  rcases List.mem_cons.mp hm with rfl | hm
  ·rw[hp,hq];have:=V4 hpq r;simp;exact F1 this
  ·have ih:=VF hpq hp hq hm
   cases hq':q a with
   | true=>rw[hpq a hq'];exact Nat.lt_succ_of_le ih
   | false =>
    cases hp':p a with
    | true=>simp;exact F1 ih
    | false=>exact ih
theorem VP {Is:List InfoV} {path:List (List UInt8)} {I:InfoV} {h:List UInt8} {t:List (List UInt8)} (hI:I∈Is) (hn:I.names=h::t) (hp:h∉path):uf Is (path++[h])<uf Is path:=by
 revert Is path I h t hI hn hp
 intros Is path I h t hI hn hp;unfold uf;refine VF (?_) (x:=I) ?_ ?_ hI
 ·intros J hJ
  cases hJn:J.names with
  | nil=>unfold fresh at hJ;rw[hJn]at hJ;cases hJ
  | cons g s =>
   rw[kx hJn]at hJ ⊢;simp only[decide_eq_true_eq]at hJ ⊢;exact fun hm=>hJ (List.mem_append_left _ hm)
 ·rw[kx hn];exact decide_eq_true hp
 ·rw[kx hn];simp
theorem Sx {Is:List InfoV} (W:ZG Is):∀(f:Nat) (name:List UInt8) (path:List (List UInt8)),uf Is path<f->uf Is path<=3->xK Is f name path ≠ .wild /\ ∀l,xK Is f name path = .ok l->∀k,k<4->(l k).length<=cap (uf Is path):=by
 intro l_
 induction l_ with
 | zero =>
  intro _ _ h _;exact⟨(fun q5_=>(Z (F1 h))),(Z (F1 h))⟩
 | succ f ih_ =>
  intro name path h h3;rw[ZO]
  cases hfd:Is.find? fun I=>decide (name∈zL I.names)with
  | none=>exact⟨by exact nofun,fun l e=>(nomatch e)⟩
  | some I =>
   have hI:=List.mem_of_find?_eq_some hfd;refine qP (W.names I hI) fun hd t hn=>?_;refine xn (W.size I hI) fun s1 s2=>?_;simp only[hn]
   by_cases hp:hd∈path
   ·rw[if_pos hp];exact⟨by exact nofun,fun l e=>(nomatch e)⟩
   ·rw[if_neg hp];have hlt:=VP hI hn hp;have ih:=fun u=>ih_ u (path++[hd]) (by exact F2 h hlt) (by exact F2 h3 hlt);have hcap:cap (uf Is (path++[hd]))<=30:=Nat.le_trans (kl (show _<=2 from by exact F2 h3 hlt)) (by decide)
    have htame:=Zd (rs:=fun u=>(xK Is f u (path++[hd])).bind fun l=>yp l) (b:=cap (uf Is (path++[hd]))) (fun u=>by
     refine xn (ih u) fun i1 i2=>?_
     cases hq:xK Is f u (path++[hd])with
     | ok l =>
      have hl:=i2 l hq
      have hs:tR l=true:=by
       have a0:=hl 0 (by exact wB);have a1:=hl 1 (by exact wA);have a2:=hl 2 (by exact wA);have a3:=hl 3 (by exact wC);unfold tR;simp only[Bool.and_eq_true,decide_eq_true_eq];exact⟨(F2 hcap a0),⟨(F2 hcap a1),⟨(F2 hcap a2),(F2 hcap a3)⟩⟩⟩
      have e:(Res.ok l).bind (fun l=>yp l) = .ok l:=if_pos hs;rw[e];exact⟨by exact nofun,fun l' e'=>by cases e';exact hl⟩
     | bad=>exact⟨by exact nofun,fun l e=>(nomatch e)⟩
     | wild=>exact absurd hq i1) I.uses I.lot 5 s1
    cases hu:xM (fun u=>(xK Is f u (path++[hd])).bind fun l=>yp l) I.uses I.lot with
    | ok l =>
     refine⟨by exact nofun,fun l' e k hk=>?_⟩;cases e;have h1:=htame.2 l hu k hk;have h2:=Za (l k);have h3:cap (uf Is (path++[hd])+1)<=cap (uf Is path):=kl hlt;have h4:I.uses.length*cap (uf Is (path++[hd]))<=5*cap (uf Is (path++[hd])):=Nat.mul_le_mul_right _ s2;simp only[R8]at h3;show (w_ (l k)).length<=_;exact F4 h1 h2 h3 h4
    | bad=>exact⟨by exact nofun,fun l e=>(nomatch e)⟩
    | wild=>exact absurd hu htame.1
noncomputable def sI (es:List (Ent×Nat)):Prop:=∀(i:Nat) p,es[i]?=some p->p.1.k=i
theorem RJ:∀k,k<3->∀k',k'<3->oct ([101]++wg (k:Nat))=oct ([101]++wg (k':Nat))->k=k':=by decide +kernel
theorem jN (e:Ent):e.info.names.head?=some (oct ([101]++wg (e.k:Nat))):=by
 rw[tq]
 match e.j with
 | 0=>rfl
 | 1=>rfl
 | _+2=>rfl
theorem Uy {es:List (Ent×Nat)} (h:∀p∈es,p.1.ok) (hn:sI es) (hl:es.length<=3):ZG (es.map fun p=>p.1.info) where
 names I hI:=by
  refine zn (List.mem_map.mp hI) fun p hp q1z=>?_;subst q1z;have:=jN p.1
  cases hq:p.1.info.names with
  | nil=>rw[hq]at this;cases this
  | cons a t=>exact⟨a,t,rfl⟩
 nd I hI k:=by
  refine zn (List.mem_map.mp hI) fun p hp q2z=>?_;subst q2z;exact(uV (h p hp)).nd k
 heads I hI J hJ e:=by
  refine zn (List.mem_map.mp hI) fun p hp q3z=>?_;subst q3z;refine zn (List.mem_map.mp hJ) fun q hq q4z=>?_;subst q4z;rw[jN,jN]at e
  injection e with e
  have hk:=RJ _ (h p hp).k _ (h q hq).k e;refine zX (List.getElem?_of_mem hp) fun i hi=>?_;refine zX (List.getElem?_of_mem hq) fun j hj=>?_;have h1:=hn i p hi;have h2:=hn j q hj
  have:i=j:=by exact AS (F3 (Re h1) (Le hk) (Le h2)) (F3 (Re h2) (Re hk) (Le h1))
  subst this;rw[hi]at hj;cases hj;rfl
 size I hI:=by
  refine zn (List.mem_map.mp hI) fun p hp q5z=>?_;subst q5z;exact qV (h p hp)
 few:=by exact lm hl
theorem QZ {Is:List InfoV} (W:ZG Is) (name:List UInt8):xK Is 5 name [] ≠ .wild/\xK Is 5 name []=xg Is 5 name []/\(∀l,xK Is 5 name [] = .ok l->∀k,ND (l k)):=by
 have hl:uf Is []<=3:=Nat.le_trans (List.length_filter_le _ _) W.few;have h1:=Sx W 5 name [] (F1 hl) hl;have h2:=jr W 5 name [] [] (fun I hI h t hn=>by simp);exact⟨h1.1,h2.1,h2.2⟩
noncomputable def VO (l:List vf):Prop:=∀p∈l,vD p.2
theorem V8 {l:List vf} {x:List UInt8} {v:AV} (hl:VO l) (hv:vD v):VO (yL l x v):=by
 revert l x v hl hv
 intros l x v hl hv;unfold yL
 split
 ·intros p hp;obtain⟨q,hq,rfl⟩:_:=List.mem_map.mp hp
  split
  ·exact hv
  ·exact hl q hq
 ·intros p hp
  rcases List.mem_append.mp hp with hp | hp
  ·exact hl p hp
  ·rw[List.mem_singleton.mp hp];exact hv
theorem TA:∀(more l:List vf),VO more->VO l->VO (yy l more):=by
 intro l_
 induction l_ with
 | nil =>
  intro l _ h;exact h
 | cons p r ih_ =>
  intro l hm h;exact ih_ (yL l p.1 p.2) (fun q hq=>hm q (.tail _ hq)) (V8 h (hm p (.head _)))
theorem Sj {l:List vf} (h:VO l) (x:List UInt8):vD ((yq l x).getD .none):=by
 unfold yq
 cases hq:l.find? fun p=>decide (p.1=x)with
 | none=>exact .none
 | some p=>exact h p (List.mem_of_find?_eq_some hq)
theorem TD {l more:List vf} (h:VO l) (hm:VO more):VO (yF l more):=by
 unfold yF;generalize more.map (fun x=>x.1)=ks
 induction ks generalizing l with
 | nil=>exact h
 | cons k ks ih =>
  rw[List.foldl_cons]
  split
  ·exact ih h
  ·exact ih (V8 h (Sj hm k))
theorem Tw {l:List vf} (h:VO l):VO (w_ l):=by
 refine TA _ _ (fun p hp=>?_) (fun p hp=>(nomatch hp));refine zn (List.mem_map.mp hp) fun x z q2z=>?_;subst q2z;exact Sj h x
theorem SI {rs:List UInt8->Res xV} (hr:∀u l,rs u = .ok l->∀k,VO (l k)):∀(us:List (List UInt8)) (acc l:xV),(∀k,VO (acc k))->xM rs us acc = .ok l->∀k,VO (l k):=by
 intro l_
 induction l_ with
 | nil =>
  intro acc l h e;cases e;exact h
 | cons u us ih_ =>
  intro acc l h e;rw[sk]at e
  cases hq:rs u with
  | ok J =>
   rw[hq]at e;exact ih_ _ l (fun k=>TD (h k) (hr u J hq k)) e
  | bad=>rw[hq]at e;cases e
  | wild=>rw[hq]at e;cases e
theorem RG {Is:List InfoV} (hv:∀I∈Is,∀k,VO (I.lot k)):∀(f:Nat) (name:List UInt8) (path:List (List UInt8)) (l:xV),xK Is f name path = .ok l->∀k,VO (l k):=by
 intro l_
 induction l_ with
 | zero =>
  intro _ _ l h;exact(nomatch h)
 | succ f ih_ =>
  intro name path l h;rw[ZO]at h
  cases hfd:Is.find? fun I=>decide (name∈zL I.names)with
  | none=>rw[hfd]at h;cases h
  | some I =>
   rw[hfd]at h;simp only at h
   cases hn:I.names with
   | nil=>rw[hn]at h;cases h
   | cons a t =>
    rw[hn]at h;simp only at h
    split at h
    ·cases h
    ·refine zn (Res.bind_ok h) fun l' h1 h2=>?_;cases h2;intro k;exact Tw (SI (fun u l hl=>ih_ u _ l (YV hl)) I.uses I.lot l' (hv I (List.mem_of_find?_eq_some hfd)) h1 k)
theorem SL {I:InfoV} (h:Yr I) (k:Nat) (hk:k<4):VO (I.lot k):=by
 intro p1z hp;obtain⟨x,v⟩:=p1z;refine Y6 (h.lot k hk x v hp) fun F hF z z q3z=>?_;subst q3z;exact Yb hF
theorem U1:∀(Fs:List Fld) (I:InfoV),(∀F∈Fs,F.ok)->(∀k,4<=k->I.lot k=[])->∀k,4<=k->(Fs.foldl zW I).lot k=[]:=by
 intro l_
 induction l_ with
 | nil =>
  intro I _ h;exact h
 | cons F Fs ih_ =>
  intro I hF h;refine ih_ (zW I F) (fun G hG=>hF G (.tail _ hG)) fun k hk=>?_;have hlt:=Fld.kind_lt (hF F (.head _));unfold zW
  split
  ·exact h k hk
  ·split
   ·exact h k hk
   ·simp only[InfoV.setLot];rw[if_neg (fun q5_=>(‹¬F.kind=4› (AS (F1 hlt) (F2 hk (Le q5_)))))];exact h k hk
theorem Sf {e:Ent} (h:e.ok) (k:Nat):VO (e.info.lot k):=by
 by_cases hk:k<4
 ·exact SL (uV h) k hk
 ·have:e.info.lot k=[]:=U1 e.fs ⟨(zG e.k e.j).map oct,fun z=>[],[]⟩ h.fs (fun z z=>rfl) k (F1 (Nt hk));rw[this];exact fun p hp=>(nomatch hp)
theorem k_ {l:List vf} (h:ND l) (hv:VO l):su l l:=⟨rfl,fun x a hm=>⟨Vt h hm,hv _ hm⟩⟩
theorem Ve:∀k,k<200->∀p,p<3->(x8 k p).all (fun c=>decide (c<256))=true:=by decide +kernel
theorem UH:∀i,i<16->(sgn i).1.all (fun c=>decide (c<256))=true:=by decide +kernel
noncomputable def Sm (x:List Nat):Prop:=∀c∈x,c<256
noncomputable instance (x:List Nat):Decidable (Sm x):=inferInstanceAs (Decidable (∀c∈x,c<256))
theorem Sm.app {a b:List Nat} (ha:Sm a) (hb:Sm b):Sm (a++b):=fun c hc=>(List.mem_append.mp hc).elim (ha c) (hb c)
theorem TY {x:List Nat} (h:x.all (fun c=>decide (c<256))=true):Sm x:=fun c hc=>by
 rw[List.all_eq_true]at h;simpa using h c hc
theorem Ym {sep:List Nat} (hs:Sm sep):∀{l:List (List Nat)},(∀x∈l,Sm x)->Sm (zC sep l):=by
 intro l_
 induction l_ with
 | nil =>
  intro _
  exact fun c hc=>by exact nomatch hc
 | cons p r ih_ =>
  intro h;refine Sm.app (h p (.head _)) fun c hc=>?_;refine zn (List.mem_flatMap.mp hc) fun x hx hc=>?_;exact(Sm.app hs (h x (.tail _ hx))) c hc
theorem Rm {F:Fld} (h:F.ok):Sm F.text:=by
 have hn:Sm F.name:=(Fld.name_ok h).1
 cases F with
 | truth i=>exact hn
 | num i k p=>exact Sm.app (Sm.app hn (by decide)) (TY (Ve k h.2.1 p h.2.2))
 | str i ss =>
  refine Sm.app (Sm.app hn (by decide)) (Ym (by decide) fun x hx=>?_);refine zn (List.mem_map.mp hx) fun s hs q4z=>?_;subst q4z;exact TY (UH s (h.2.2 s hs))
 | off i=>exact Sm.app hn (by decide)
 | use i=>exact Sm.app (by decide) hn
theorem VG {Fs:List Fld} (hF:∀F∈Fs,F.ok) (hl:Fs.length<=5) (m:Nat):(∀r∈uU (Fs.map Fld.text) m,Sm r/\r.length<=300)/\(uU (Fs.map Fld.text) m).length<=1:=by
 unfold uU
 split
 ·exact by decide
 ·refine⟨fun r hr=>?_,wC⟩;rw[List.mem_singleton]at hr;subst hr
  have hi:Sm (xm m)/\(xm m).length<=4:=by unfold xm;split<;>exact⟨by decide,by simp⟩
  have hj:=sP (sep:=[44,32]) (c:=30) (l:=Fs.map Fld.text) fun p hp=>by
   refine zn (List.mem_map.mp hp) fun F hF' q5z=>?_;subst q5z;exact Fld.text_len (hF F hF')
  simp only[List.length_map,List.length_cons,List.length_nil]at hj;have hj2:Fs.length*(30+(0+1+1))<=5*(30+(0+1+1)):=Nat.mul_le_mul_right _ hl;refine⟨Sm.app (Sm.app hi.1 (Ym (by decide) fun x hx=>?_)) (by decide),?_⟩
  ·refine zn (List.mem_map.mp hx) fun F hF' q6z=>?_;subst q6z;exact Rm (hF F hF')
  ·simp only[List.length_append,List.length_singleton];exact F3 hi.2 hj (U 32 hl)
theorem Rz:∀k,k<3->∀j,j<3->(y0 k j).all (fun c=>decide (c<256))=true/\(y0 k j).length<=300:=by decide +kernel
theorem ZM {es:List (Ent×Nat)} (h:∀p∈es,p.1.ok) (hl:es.length<=3):(∀r∈zi es,Sm r/\r.length<=300)/\(zi es).length<=12:=by
 revert es h hl
 intros es h hl
 have ent:∀e:Ent,e.ok->(∀r∈e.rows,Sm r/\r.length<=300)/\e.rows.length<=3:=by
  intros e he;have hlen:=he.len;have p1:=VG (Fs:=e.fs.take e.c) (fun F hF=>he.fs F (List.mem_of_mem_take hF)) (by simp;exact F2 (Nat.min_le_right (e.c) (e.fs.length)) hlen) 1;have p2:=VG (Fs:=e.fs.drop e.c) (fun F hF=>he.fs F (List.mem_of_mem_drop hF)) (by simp;exact F1 hlen) (1+(uU ((e.fs.take e.c).map Fld.text) 1).length);rw[vU];refine⟨?_,?_⟩
  ·intros r hr;simp only[List.mem_append,List.mem_singleton]at hr
   rcases hr with (rfl | hr) | hr
   ·have:=Rz e.k he.k e.j he.j;exact⟨TY this.1,this.2⟩
   ·exact p1.1 r hr
   ·exact p2.1 r hr
  ·have a:=p1.2;have b:=p2.2;simp only[List.length_append,List.length_singleton];exact F2 p1.2 p2.2
 have rem:∀m,(∀r∈yO m,Sm r/\r.length<=300)/\(yO m).length<=1:=by
  intros m
  match m with
  | 0=>exact⟨fun r hr=>(nomatch hr),wD⟩
  | 1=>exact⟨fun r hr=>by rw[List.mem_singleton.mp hr];exact⟨by decide,wA⟩,wC⟩
  | m+2=>exact⟨fun r hr=>by rw[List.mem_singleton.mp hr];exact⟨by decide,wD⟩,wC⟩
 refine⟨?_,?_⟩
 ·intros r hr;obtain⟨p,hp,hr⟩:_:=List.mem_flatMap.mp hr
  rcases List.mem_append.mp hr with hr | hr
  ·exact(ent p.1 (h p hp)).1 r hr
  ·exact(rem p.2).1 r hr
 ·have key:∀es:List (Ent×Nat),(∀p∈es,p.1.ok)->(zi es).length<=4*es.length:=by
   intros es
   induction es with
   | nil=>intro _;exact wC
   | cons p es ih =>
    intros h;have i1:=ih fun q hq=>h q (.tail _ hq);have i2:=(ent p.1 (h p (.head _))).2;have i3:=(rem p.2).2;unfold zi at i1 ⊢;rw[List.flatMap_cons,List.length_append,List.length_append,List.length_cons];exact F3 i1 i2 i3
  have:=key es h;exact F5 this hl hl hl hl
section
variable {B:Base} {nm:Nat->Str} {nN n:Nat} {sc:Scope} {ρ:Rho} {Q X:AV->St->Prop} {st:St} {k:Nat}
theorem XI (g:Gl B) {m m':Nat} {l l':List vf} (h1:∃ep,st[m]?=some (.dictB ep l)) (h2:∃ep,st[m']?=some (.dictB ep l')) (h:su l l'):AEq B (k+1) st (.ref m) (.ref m') true:=by
 by_cases e:m=m'
 ·subst e;exact j4
 ·refine zX (h1) fun ep h1=>?_;refine zX (h2) fun ep' h2=>?_;exact Tm (dkB B) g.hB e h1 h2 h.eq
theorem V0 (g:Gl B) {m m':Nat} {x x':Nat->Nat} {I J:InfoV} (h1:vg st m x I) (h2:vg st m' x' J) (hn:I.names=J.names) (hu:I.uses=J.uses) (hl:∀k,k<4->su (I.lot k) (J.lot k)):AEq B 40 st (.ref m) (.ref m') true:=by
 by_cases e:m=m'
 ·subst e;exact j4
 ·have n1:=qu (B:=B) (k:=38) h1.names h2.names;have n2:=qu (B:=B) (k:=38) h1.uses h2.uses;rw[hn]at n1;rw[hu]at n2;simp only[decide_true]at n1 n2;refine XA e h1.row h2.row (.inr ?_);exact⟨_,_,n1,⟨_,_,XI g (h1.lot 0 (wB)) (h2.lot 0 (wB)) (hl 0 (wB)),⟨_,_,XI g (h1.lot 1 (wA)) (h2.lot 1 (wA)) (hl 1 (wA)),⟨_,_,XI g (h1.lot 2 (wA)) (h2.lot 2 (wA)) (hl 2 (wA)),(zV _ _ (XI g (h1.lot 3 (wC)) (h2.lot 3 (wC)) (hl 3 (wC))) (zV _ _ n2 rfl rfl) rfl),rfl⟩,rfl⟩,rfl⟩,rfl⟩
inductive uH {α β:Type} (r:α->β->Prop):List α->List β->Prop
 | nil:uH r [] []
 | cons {a b l m}:r a b->uH r l m->uH r (a::l) (b::m)
theorem uH.mono {α β:Type} {r r':α->β->Prop} (h:∀a b,r a b->r' a b) {l:List α} {m:List β} (x:uH r l m):uH r' l m:=by
 induction x with
 | nil=>exact .nil
 | cons a _ ih=>exact .cons (h _ _ a) ih
theorem uH.snoc {α β:Type} {r:α->β->Prop} {a:α} {b:β} (h:r a b) {l:List α} {m:List β} (x:uH r l m):uH r (l++[a]) (m++[b]):=by
 induction x with
 | nil=>exact .cons h .nil
 | cons a _ ih=>exact .cons a ih
theorem uH.len {α β:Type} {r:α->β->Prop} {l:List α} {m:List β} (x:uH r l m):l.length=m.length:=by
 induction x with
 | nil=>rfl
 | cons _ _ ih=>exact congrArg Nat.succ ih
theorem tY {α:Type} {t:Tg} {elt:Expr} {r0:Rho} {U:AV->St->Prop} {items:List AV} {guard:St->Prop} {st₁:St} (xs:List α) (item:α->AV) (Pr:α->Nat->St->Prop) (hitems:items=xs.map item) (hz:xs.length<=1000) (hg:∀s,Ch [] st₁ s->guard s)
  (hst:∀x m s s',Pr x m s->Ch [st₁.length] s s'->Pr x m s')
  (helt:∀x∈xs,∀s,Ch [] st₁ s->st₁.length<s.length->∃r'',t.bind (item x) r0=some r''/\WE B nm nN n sc elt r'' (fun a s'=>Ch [] s s' /\ ∃m,a = .ref m/\Pr x m s') noX s)
  (hU:∀ms s,Ch [] st₁ s->s[st₁.length]?=some (.list (ms.map AV.ref))->uH (fun x m=>Pr x m s) xs ms->U (.ref st₁.length) s):Zc B nm nN n sc t elt [] r0 U items guard st₁:=by
 revert B nm nN n sc α t elt r0 U items guard st₁ xs item Pr hitems hz hg hst helt hU
 intros B nm nN n sc α t elt r0 U items guard st₁ xs item Pr hitems hz hg hst helt hU;subst hitems;refine⟨fun items s=>Ch [] st₁ s/\st₁.length<s.length /\ ∃ys zs ms,xs=ys++zs/\items=zs.map item/\s[st₁.length]?=some (.list (ms.map AV.ref))/\uH (fun x m=>Pr x m s) ys ms,?_,?_,?_⟩
 ·exact⟨Ch.push ..,by simp,[],xs,[],rfl,rfl,zf,.nil⟩
 ·intros s p4_;obtain⟨ch,hsl,ys,zs,ms,h1,h2,hl,ha⟩:_:=p4_
  have:zs=[]:=by simpa using h2.symm
  subst this;rw[List.append_nil]at h1;subst h1;exact⟨hg s ch,hU ms s ch hl ha⟩
 ·intros a rest s p5_;obtain⟨ch,hsl,ys,zs,ms,h1,h2,hl,ha⟩:_:=p5_
  cases zs with
  | nil=>exact nomatch h2
  | cons x zs =>
   rw[List.map_cons]at h2
   injection h2 with h3 h4
   subst h3 h4;obtain⟨r'',hb,he⟩:_:=helt x (by rw[h1];simp) s ch hsl;refine⟨hg s ch,r'',hb,?_⟩;refine WE.mono (Q:=fun a s'=>Ch [] s s' /\ ∃m,a = .ref m/\Pr x m s') he ?_ fun z z q=>q;intros v s' p6_;obtain⟨c',m,rfl,hp⟩:_:=p6_;have hl':=c'.get hl (wE);have hml:=ha.len;have cS:Ch [st₁.length] s' (s'.set st₁.length (.list (ms.map AV.ref++[.ref m]))):=Ch.set _ _ (.head _);refine⟨_,hl',?_,(ch.trans c').set' _ (.inr (wC)),?_,ys++[x],zs,ms++[m],by rw[h1];exact mc,rfl,?_,?_⟩
   ·rw[h1]at hz;simp at hz ⊢;exact F2 (Re hml) hz
   ·have:=c'.1;simp;exact F2 hsl this
   ·rw[get_set (zv hl')];simp
   ·have h5:=ha.mono (r':=fun x m'=>Pr x m' (s'.set st₁.length (.list (ms.map AV.ref++[.ref m])))) fun a b q=>hst a b _ _ q ((c'.weak (nn)).trans cS);have h6:=hst _ _ _ _ hp cS;exact uH.snoc (r:=fun x m'=>Pr x m' (s'.set st₁.length (.list (ms.map AV.ref++[.ref m])))) (a:=x) (b:=m) h6 h5
theorem Zt {ms ms':List Nat} (x:uH (fun m m'=>AEq B k st (.ref m) (.ref m') true) ms ms'):Uq B k st (ms.map AV.ref) (ms'.map AV.ref) true:=by
 induction x with
 | nil=>rfl
 | cons a _ ih=>exact zV _ _ a ih rfl
end
noncomputable def nLaw:List String:=["script","deck","rows","lots","k","some","w","octets","told","info","again","name","bad","at","page","row","mate"]
theorem yc:Nms nLaw:=.of (by kernel_rfl)
noncomputable def LawAt (B:Base):Prop:=∃fd,XR B 338 fd (xq 52)/\fd.scope=zT 52 /\ ∀vs:List Value,vs.length=1->bindArgs fd ⟨vs,[]⟩=pure (([0].map (zx nLaw)).zip vs)
theorem sD (es:List (Ent×Nat)) (e:Ent) (m:Nat):zi (es++[(e,m)])=zi es++e.rows++yO m:=by
 unfold zi;rw[List.flatMap_append,List.flatMap_cons,List.flatMap_nil];simp
theorem kQ {es:List (Ent×Nat)} (h:sI es) {e:Ent} {m:Nat} (he:e.k=es.length):sI (es++[(e,m)]):=by
 revert es h e m he
 intros es h e m he;intros i p hp
 by_cases hi:i<es.length
 ·rw[List.getElem?_append_left hi]at hp;exact h i p hp
 ·rw[List.getElem?_append_right (F1 (Nt hi))]at hp
  cases hq:i-es.length with
  | zero =>
   rw[hq]at hp;simp at hp;subst hp;show e.k=i;exact AS (F2 (Le he) (Nt hi)) (F3 (Re (S1 (i) (es.length) (F1 (Nt hi)))) (Re he) (Le hq))
  | succ q=>rw[hq]at hp;exact nomatch hp
theorem Vm {rows:List (List Nat)} (h:∀r∈rows,Sm r):Sm (xr rows):=Sm.app (Ym (by decide) h) (by decide)
theorem YT {rows:List (List Nat)} {c:Nat} (h:∀r∈rows,r.length<=c):(xr rows).length<=rows.length*(c+1)+1:=by
 have:=sP (sep:=[10]) (c:=c) h;simp only[List.length_singleton]at this;unfold xr;rw[List.length_append,List.length_singleton];exact F1 this
section
variable {B:Base} {n:Nat} {sc:Scope} {ρ:Rho} {Q X:AV->St->Prop} {st:St} {k:Nat}
structure Drawn (st:St) (s:St) (d l:Nat) (es:List (Ent×Nat)) (Ps:List WT3) (R Lr:Nat):Prop where
 ch:Ch [] st s
 deck:yJ s d l
 oks:∀p∈es,p.1.ok
 num:sI es
 rows:s[R]?=some (.list ((zi es).map AV.str))
 lots:s[Lr]?=some (.list (Ps.map fun p=>.ref p.1))
 same:Ps.map (fun x=>x.2.2)=es.map fun p=>p.1.info
 ws:∀p∈Ps,WIn s p.1 p.2.1 p.2.2/\p.1∉[d,l] /\ ∀i,i<6->p.2.1 i∉[d,l]
 offR:R∉[d,l]
 offL:Lr∉[d,l]
theorem Drawn.go {s s':St} {d l:Nat} {es:List (Ent×Nat)} {Ps:List WT3} {R Lr:Nat} (h:Drawn st s d l es Ps R Lr) (c:Ch [] s s'):Drawn st s' d l es Ps R Lr where
 ch:=h.ch.trans c
 deck:=h.deck.ch c (wE) (wE)
 oks:=h.oks
 num:=h.num
 rows:=c.get h.rows (wE)
 lots:=c.get h.lots (wE)
 same:=h.same
 ws p hp:=⟨(h.ws p hp).1.ch c (wE) (fun z z=>wE),(h.ws p hp).2⟩
 offR:=h.offR
 offL:=h.offL
theorem RW {a d l i:Nat} (hd:a<=d) (hl:a<=l) (hi:i∈[d,l]):a<=i:=by
 simp only[List.mem_cons,wE,or_false]at hi;exact hi.elim (fun q5_=>(F2 hd (Re q5_))) fun q5_=>(F2 hl (Re q5_))
theorem Drawn.goD {s s':St} {d l:Nat} {es:List (Ent×Nat)} {Ps:List WT3} {R Lr:Nat} (h:Drawn st s d l es Ps R Lr) (hd:st.length<=d) (hl:st.length<=l) (c:Ch [d,l] s s') (D:yJ s' d l):Drawn st s' d l es Ps R Lr where
 ch:=h.ch.new c fun i hi=>.inr (RW hd hl hi)
 deck:=D
 oks:=h.oks
 num:=h.num
 rows:=c.get h.rows h.offR
 lots:=c.get h.lots h.offL
 same:=h.same
 ws p hp:=⟨(h.ws p hp).1.ch c (h.ws p hp).2.1 (h.ws p hp).2.2,(h.ws p hp).2⟩
 offR:=h.offR
 offL:=h.offL
end
section
variable {B:Base} {n:Nat} {sc:Scope} {ρ:Rho} {Q X:AV->St->Prop} {st:St} {k:Nat}
theorem vg.chs {st':St} {m:Nat} {x:Nat->Nat} {I:InfoV} {rs:List Nat} (h:vg st m x I) (c:Ch rs st st') (hm:m∉rs) (hx:∀i,i<6->x i∉rs):vg st' m x I where
 row:=c.get h.row hm
 names:=c.get h.names (hx 0 (wB))
 lot k hk:=by
  obtain⟨ep,e⟩:=h.lot k hk;exact⟨ep,c.get e (hx _ (F1 hk))⟩
 uses:=c.get h.uses (hx 5 (wC))
noncomputable def wy (z:Nat) (I:InfoV) (m:Nat) (s:St):Prop:=∃x,vg s m x I/\m≠z /\ ∀i,i<6->x i≠z
theorem wy.ch {z:Nat} {I:InfoV} {m:Nat} {s s':St} (h:wy z I m s) (c:Ch [z] s s'):wy z I m s':=by
 refine yY (h) fun x h1 h2 h3=>?_;try clear h;exact uG x (h1.chs c (by simpa using h2) (fun i hi=>by simpa using h3 i hi)) h2 h3
theorem wy.ch0 {z:Nat} {I:InfoV} {m:Nat} {s s':St} (h:wy z I m s) (c:Ch [] s s'):wy z I m s':=h.ch (c.weak (nn))
theorem TO {α β:Type} {f:α->InfoV} {f':β->InfoV} {r:α->Nat->Prop} {r':β->Nat->Prop} {t:Nat->Nat->Prop} {P:List α} {Ps:List β} {ms ms':List Nat} (e:P.map f=Ps.map f') (h:∀p∈P,∀q,f p=f' q->∀m m',r p m->r' q m'->t m m') (x:uH r P ms) (y:uH r' Ps ms'):uH t ms ms':=by
 induction x generalizing Ps ms' with
 | nil =>
  cases y with
  | nil=>exact .nil
  | cons a b=>cases e
 | cons a b ih =>
  cases y with
  | nil=>cases e
  | cons c d =>
   have ⟨e1,e2⟩:=List.cons.inj e;exact .cons (h _ (.head _) _ e1 _ _ a c) (ih e2 (fun p hp=>h p (.tail _ hp)) d)
theorem uy {e:Ent} (h:e.ok):e.info.names.length<=1000/\(∀k,k<4->(e.info.lot k).length<=1000)/\e.info.uses.length<=1000:=by
 have h1:=qV h;have h2:=(kY h).names.1;exact⟨F1 h2,fun k hk=>by have:=h1.1 k hk;exact F1 this,F1 h1.2⟩
theorem Tl {e:Ent} (h:e.ok) (k:Nat):su (e.info.lot k) (e.info.lot k):=k_ ((uV h).nd k) (Sf h k)
theorem SU (g:Gl B) {q q':Nat} {d d':Nat->Nat} {l l':xV} {ep ep':Nat} (h1:wn st q d l) (h2:wn st q' d' l') (hs:∀k,k<4->su (l k) (l' k)):tn B 40 st (y5 d) (y5 d'):=by
 revert B st g q q' d d' l l' ep ep' h1 h2 hs
 intros B st g q q' d d' l l' ep ep' h1 h2 hs;refine⟨rfl,?_⟩;intros i key a e;have key':∀j,j<4->AEq B 40 st (.ref (d j)) (.ref (d' j)) true:=fun j hj=>XI g (h1.lot j hj) (h2.lot j hj) (hs j hj)
 match i,e with
 | 0,e=>cases e;exact zw _ (xI d' (wB)) (key' 0 (wB))
 | 1,e=>cases e;exact zw _ (xI d' (wA)) (key' 1 (wA))
 | 2,e=>cases e;exact zw _ (xI d' (wA)) (key' 2 (wA))
 | 3,e=>cases e;exact zw _ (xI d' (wC)) (key' 3 (wC))
 | j+4,e=>exact nomatch e
theorem kR (g:Gl B) (h:∀m st',Ch [] st st'->st.length<=m->st'[m]?=some (.list (xN.map AV.str))->Q (.ref m) st'):Spec B (n+1) (.ref 273) [] st Q X :=
 zP g 27 rfl (l:=[]) (.of (by decide +kernel)) [] (Yc fun u=>h _ _ (Ch.push ..) (wC) zf)
theorem T6 {I:InfoV} (hs:Z5 I) {ks:Nat->List (List UInt8)} (hk:∀k,k<4->(ks k).Perm ((I.lot k).map (fun x=>x.1))):∀j,j<=4->(xY I ks j).length<=j*63 /\ ∀x∈xY I ks j,x.length<=50052:=by
 intro l_
 induction l_ with
 | zero =>
  intro _;simp[VB]
 | succ j ih_ =>
  intro hj;have ih:=ih_ (F1 hj);have hp:=hk j (F1 hj);refine xn (hs.lot j (F1 hj)) fun h1 h2=>?_;have hl:=hp.length_eq;rw[List.length_map]at hl;rw[sy];refine⟨by rw[List.length_append,List.length_map];exact F3 ih.1 h1 (Le hl),fun x hx=>?_⟩
  rcases List.mem_append.mp hx with hx | hx
  ·exact ih.2 x hx
  ·refine zn (List.mem_map.mp hx) fun y hy q1z=>?_;subst q1z;refine zn (wF (hp.mem_iff.mp hy)) fun v hv hm=>?_;have h3:=te (name:=y) (h2 _ hm).2;have h4:=(h2 _ hm).1;unfold vm;rw[hv];simp at h3 h4 ⊢;exact F2 h3 h4
theorem Y1 {I:InfoV} (hs:Z5 I) {ks:Nat->List (List UInt8)} (hk:∀k,k<4->(ks k).Perm ((I.lot k).map (fun x=>x.1))):(zC [] (y8 I ks)).length<=16770000:=by
 revert I hs ks hk
 intros I hs ks hk;have h4:=T6 hs hk 4 (wC);have hjn:=Y_ hs.names.2;have hjn2:I.names.length*(1000+1)<=50*1001:=Nat.mul_le_mul_right _ hs.names.1
 have hr:∀x∈y8 I ks,x.length<=50052:=by
  intros x hx
  rcases List.mem_append.mp hx with hx | hx
  ·rcases List.mem_append.mp hx with hx | hx
   ·rw[List.mem_singleton.mp hx];simp[wO];exact F2 hjn hjn2
   ·exact h4.2 x hx
  ·obtain⟨y,hy,rfl⟩:_:=List.mem_map.mp hx;have:=hs.uses.2 y hy;simp[ut];exact F1 this
 have hn:(y8 I ks).length<=303:=by
  have:=hs.uses.1;have:=h4.1;unfold y8;simp only[List.length_append,List.length_singleton,List.length_map];exact F2 h4.1 ‹I.uses.length<=50›
 exact Nat.le_trans (sr hr) (Nat.le_trans (Nat.mul_le_mul_right _ hn) (by decide))
set_option maxHeartbeats 8000000 in
theorem Tu (g:Gl B) {s:St} {d l R Lr:Nat} (hd:st.length<=d) (hl:st.length<=l) {es:List (Ent×Nat)} {Ps:List WT3} {r':Rho} {RR:Fl->Rho->St->Prop} {XX:AV->Rho->St->Prop} (W:Drawn st s d l es Ps R Lr) (h0:es≠[]) (h3:es.length<=3) (g1:r'.get 1=some (.ref d)) (g2:r'.get 2=some (.ref R)) (g3:r'.get 3=some (.ref Lr)) (hQ:∀ρ s,RR (.ret (.bool true)) ρ s) :
  WSs B (zx nLaw) nLaw.length (n+10) (zT 52) ((xq 52).drop 2) r' RR XX s:=by
 revert B n st g s d l R Lr hd hl es Ps r' RR XX W h0 h3 g1 g2 g3 hQ
 intros B n st g s d l R Lr hd hl es Ps r' RR XX W h0 h3 g1 g2 g3 hQ;have hsm:=ZM W.oks h3;have hpsm:Sm (xr (zi es)):=Vm fun r hr=>(hsm.1 r hr).1;have hplen:=YT (c:=300) fun r hr=>(hsm.1 r hr).2;have hp12:(zi es).length*(300+1)<=12*(300+1):=Nat.mul_le_mul_right _ hsm.2;have hsum:=sum_le (c:=300) fun r hr=>(hsm.1 r hr).2;have hp13:(zi es).length*300<=12*300:=Nat.mul_le_mul_right _ hsm.2;have hR1:=P1 h0 W.oks (F1 h3);have hW3:=Uy W.oks W.num h3
 have hpl:(xr (zi es)).length=(zC [10] (zi es)).length+1:=by exact List.length_append
 refine asg yc 7 (cF g 30 rfl (a1 (ze (yf ⟨fun u=>rfl,fun u=>rfl,rfl,fun u=>rfl⟩ (zh (y:=[10]) (by kernel_rfl) ⟨_,_,jA F.slot_str_join F.type_str_join,.str,a1 (vv yc 2 g2 (w5 W.rows (by simp only[List.length_singleton];exact F2 hsum (U 301 hsm.2)) (zh (y:=[10]) (by kernel_rfl) (z9 (by simp only[List.length_singleton];exact F3 (U 301 hsm.2) hplen (Re hpl)) (y7 g (by rw[List.length_append,List.length_singleton];exact F3 (U 301 hsm.2) hplen (Re hpl)) hpsm ?_)))))⟩)))));intros s1 c1;have hb:(zC [10] (zi es)++[10]).map Nat.toUInt8=oct (xr (zi es)):=rfl;rw[hb]
 have hbl:(oct (xr (zi es))).length<=16770000:=by unfold oct;rw[List.length_map];exact F2 (U 301 hsm.2) hplen
 refine asg yc 8 (cF g 36 rfl (a1 (vv yc 7 zg (tz g hbl (by rw[hR1];exact nofun) (?_) fun k hk=>by rw[hR1]at hk;cases hk))));intros Is hIs P m s2 c2 hm hP hPe hml;rw[hR1]at hIs;cases hIs;have W2:=(W.go c1).go c2
 have i1:((r'.set 7 (.bytes (oct (xr (zi es))))).set 8 (.ref m)).get 1=some (.ref d):=by exact rn (rn g1 rfl) rfl
 have i2:((r'.set 7 (.bytes (oct (xr (zi es))))).set 8 (.ref m)).get 2=some (.ref R):=by exact rn (rn g2 rfl) rfl
 have i3:((r'.set 7 (.bytes (oct (xr (zi es))))).set 8 (.ref m)).get 3=some (.ref Lr):=by exact rn (rn g3 rfl) rfl
 have i8:((r'.set 7 (.bytes (oct (xr (zi es))))).set 8 (.ref m)).get 8=some (.ref m):=zg;generalize ((r'.set 7 (.bytes (oct (xr (zi es))))).set 8 (.ref m))=r1 at i1 i2 i3 i8
 have hPent:∀p∈P,∃e:Ent,e.ok/\p.2=e.info:=by
  intros p hp
  have:p.2∈es.map fun p=>p.1.info:=by rw[<-hPe];exact List.mem_map.mpr ⟨p,hp,rfl⟩
  obtain⟨q,hq,e⟩:_:=List.mem_map.mp this;exact⟨q.1,W.oks q hq,e.symm⟩
 have hPl:P.length<=3:=by
  have:=congrArg List.length hPe;simp only[List.length_map]at this;exact F2 h3 (Le this)
 have hPsl:Ps.length<=3:=by
  have:=congrArg List.length (Drawn.same W);simp only[List.length_map]at this;exact F2 h3 (Le this)
 refine za (z7 (xE (qa (xu (fun u u=>rfl) (sf g 7 rfl (vv yc 8 i8 ⟨_,.l hml,_,rfl,zm ?_⟩))))));refine xE (zk rfl ?_);refine yu (caps:=[]) (t:=.one 9) yc.inj (.of (by kernel_rfl)) (.one (i:=9)) (nn) (fun u u=>rfl) (yj (vv yc 8 i8 (yg hml ?_)));refine tY P (fun p=>zD p.1) (fun p m' s'=>wy s2.length p.2 m' s') rfl (F1 hPl) (fun s' c=>c.get hml (wE)) (fun p m' s' s'' h c=>h.ch c) (?_) ?_
 ·intros p hp s' c hlt;refine⟨_,rfl,?_⟩;obtain⟨e,he,hpe⟩:_:=hPent p hp;have hsz:=uy he;refine cF g 33 rfl (a1 (vv yc 9 rfl (s_ g ((hP.all p hp).1.ch c (fun u u=>wE)) (by rw[hpe];exact⟨(F1 hsz.1),(F1 hsz.2.2)⟩) ?_)));intros m' x s'' c' hm' hx0 hx5 hxk hS;refine⟨c',m',rfl,x,hS,Qr (F2 hlt hm'),fun i hi=>?_⟩;have hlt':=fun j (hj:j<6)=>(hP.all p hp).1.lt hj
  by_cases hi0:i=0
  ·subst hi0;exact Qr (F2 hlt hx0)
  ·by_cases hi5:i=5
   ·subst hi5;exact Qr (F2 hlt hx5)
   ·have h1:=hxk (i-1) (Nat.lt_succ_of_le (sa (F1 (nl (F1 hi) hi5))));have h2:=hlt' i hi;rw[show i-1+1=i from by exact AS (F1 (Le (S1 (i) (1) (F1 (nr (wD) hi0))))) (F1 (Re (S1 (i) (1) (F1 (nr (wD) hi0)))))]at h1;exact Ql (F2 (Le h1) h2)
 intros ms s3 c3 hms hAll;have W3:=W2.go c3;refine yu (caps:=[]) (t:=.one 6) yc.inj (.of (by kernel_rfl)) (.one (i:=6)) (nn) (fun u u=>rfl) (yj (vv yc 3 i3 (yg W3.lots ?_)));refine tY Ps (fun p=>.ref p.1) (fun p m' s'=>wy s3.length p.2.2 m' s') rfl (F1 hPsl) (fun s' c=>c.get W3.lots (wE)) (fun p m' s' s'' h c=>h.ch c) (?_) ?_
 ·intros p hp s' c hlt;refine⟨_,rfl,?_⟩;have hw:=(W3.ws p hp).1;refine cF g 34 rfl (a1 (vv yc 6 rfl (Yh g (hw.ch c (wE) (fun u u=>wE)) ?_)));intros m' s'' c' hm' hS;refine⟨c',m',rfl,p.2.1,hS,Qr (F2 hlt hm'),fun i hi=>?_⟩;have:=hw.info.lt hi;exact Ql (F1 this)
 intros ms' s4 c4 hms' hAll';refine xA (r:=true) (c4.get hms (wE)) hms' (.inr (Zt ?_)) ⟨_,rfl,zm (xi (zm (zd ?_)))⟩
 ·refine TO (f:=fun p:(Nat->Nat)×InfoV=>p.2) (f':=fun p:WT3=>p.2.2) (hPe.trans (Drawn.same W).symm) (?_) (hAll.mono fun p m' h=>h.ch0 c4) hAll';intros p hp q e ma mb ha hb;obtain⟨x,hx,_⟩:_:=ha;obtain⟨y,hy,_⟩:_:=hb;obtain⟨en,hen,hpe⟩:_:=hPent p hp;rw[<-e,hpe]at hy;rw[hpe]at hx;exact V0 g hx hy rfl rfl fun k hk=>Tl hen k
 have W4:=W3.go c4;have hP4:=(hP.ch (c3.trans c4) (nn));have hml4:=(c3.trans c4).get hml (wE);clear hAll hAll' hms hms';refine vN yc 9 (yj (vv yc 8 i8 (yg hml4 ⟨(Nat->Nat)×InfoV,P,fun p=>zD p.1,fun rest r' s'=>Ch [] s4 s'/\(∀p∈rest,p∈P)/\r'.get 1=some (.ref d)/\r'.get 2=some (.ref R)/\r'.get 3=some (.ref Lr)/\r'.get 8=some (.ref m),rfl,?_,?_,?_⟩)))
 ·exact⟨Ch.refl ..,fun p h=>h,i1,i2,i3,i8⟩
 ·intro r2 s5 p1z;refine SM (p1z) fun c5 u j1 j2 j3 j8=>?_;try clear p1z;refine⟨c5.get hml4 (wE),?_⟩;have W5:=W4.go c5;have hP5:=hP4.ch c5 (nn);have hml5:=c5.get hml4 (wE)
  have hzP:∀p∈P,p.2.names.length<=1000/\(∀k,k<4->(p.2.lot k).length<=1000)/\p.2.uses.length<=1000:=fun p hp=>by
   refine zn (hPent p hp) fun e he hpe=>?_;rw[hpe];exact uy he
  have hzPs:∀p∈Ps,p.2.2.names.length<=1000/\(∀k,k<4->(p.2.2.lot k).length<=1000)/\p.2.2.uses.length<=1000:=fun p hp=>by
   have:p.2.2∈es.map fun p=>p.1.info:=by rw[<-Drawn.same W];exact List.mem_map.mpr ⟨p,hp,rfl⟩
   refine zn (List.mem_map.mp this) fun q hq e=>?_;rw[<-e];exact uy (W.oks q hq)
  have hvo:∀I∈(es.map fun p=>p.1.info),∀k,VO (I.lot k):=fun I hI k=>by
   refine zn (List.mem_map.mp hI) fun q hq q6z=>?_;subst q6z;exact Sf (W.oks q hq) k
  refine vN yc 11 (yj (zp (aN (zt (aN (zt (a1 (zt ⟨wA,sb ⟨List UInt8,[[101,48],[102,49],[101,50]],AV.bytes,fun rest r' s'=>Ch [] s5 s'/\r'.get 1=some (.ref d)/\r'.get 2=some (.ref R)/\r'.get 3=some (.ref Lr)/\r'.get 8=some (.ref m),rfl,?_,?_,?_⟩⟩))))))))
  ·exact⟨Ch.refl ..,j1,j2,j3,j8⟩
  ·intro ρ₃ s6 p2z;refine Tc (p2z) fun c6 k1 k2 k3 k8=>?_;try clear p2z;refine⟨trivial,?_⟩;have W6:=W5.go c6;have hdl6:=W6.deck.lt;refine asg yc 12 (sub (cF g 27 rfl (zA (kR g fun mb s7 c7 hmb hbl=>?_))));have W7:=W6.go c7;refine cF g 29 rfl (a2 (vv yc 1 k1 (zb (yH g (many:=8) W7.deck (wB) (wA) fun j hj s8 c8 D8=>?_))));have hbl8:=c8.get hbl (by simp;exact⟨(Qr (F2 hdl6.1 hmb)),(Qr (F2 hdl6.2 hmb))⟩);have W8:=W7.goD hd hl c8 D8
   obtain⟨bad,hbad,hbi⟩:∃bad,bad∈xN/\xN[j]?=some bad:=by
    have hlt:j<xN.length:=hj;exact⟨xN[j],List.getElem_mem hlt,List.getElem?_eq_getElem hlt⟩
   refine zH (a:=.str bad) hbl8 (I6 (F1 hj)) (by rw[sE,List.getElem?_map,hbi];rfl) ?_;refine xn (SW bad hbad) fun hb20 hbsm=>?_
   obtain⟨es0,⟨e,mm⟩,hes⟩:∃es0 x,es=es0++[x]:=by
    rcases List.eq_nil_or_concat es with h | ⟨es0,x,h⟩
    ·exact absurd h h0
    ·exact⟨es0,x,by rw[h,List.concat_eq_append]⟩
   have he:e.ok:=W.oks (e,mm) (by rw[hes];exact List.mem_append_right _ (.head _));refine zX (Qu (es:=es0) (m:=mm) he) fun le hle=>?_;rw[<-hes]at hle;have hL4:=QY (es:=es0) (e:=e) (m:=mm) (fun p hp=>W.oks p (by rw[hes];exact hp)) (by have:=congrArg List.length hes;simp at this;exact F2 h3 (Re this)) hbad;rw[<-hes]at hL4
   have hrow0:(zi es0).length<=12:=by
    have h1:(zi es).length=(zi es0).length+(e.rows.length+(yO mm).length):=by rw[hes,sD];simp[Nat.add_assoc]
    have:=hsm.2;exact F2 hsm.2 (Re h1)
   generalize hA:(zi es0).length=A at hle hL4 hrow0;refine asg yc 13 (ze (sub ?_));refine yu (caps:=[]) (t:=.tup [4,15]) yc.inj (.of (by kernel_rfl)) (.tup (is:=[4,15]) (ps:=[_,_]) rfl) (nn) (fun u u=>rfl) (cI g 11 rfl (vv yc 2 (a:=.ref R) (rn k2 rfl) (sS W8.rows ?_)));refine ym ((zi es).zipIdx 0) (fun p=>.tup [.int (p.2:Nat),.str p.1]) (fun p=>.int (p.2:Nat)) (fun p=>decide (p.1.take 1=[101])) (jU AV.str _ 0) (by rw[List.length_zipIdx];exact F1 hsm.2) (fun extra=>zc W8.rows) (fun p hp extra=>⟨_,rfl,?_⟩) fun junk=>?_
   ·have hpr:p.1∈zi es:=by
     have:=List.mem_map_of_mem (f:=Prod.fst) hp;simpa using this
    have hpl:=(hsm.1 p.1 hpr).2;have ec:cut none (some 1) p.1=p.1.take 1:=vP p.1 1;refine zk rfl (zR (vv yc 15 rfl (zb ⟨_,rfl,qk (F1 hpl) (zh (y:=[101]) (by kernel_rfl) (wZ ?_))⟩)));rw[ec];refine bod (fun q=>?_) fun q=>?_
    ·simp only[if_true];exact⟨decide_eq_true q,vv yc 4 rfl ⟨rfl,[],(List.append_nil _).symm⟩⟩
    ·simp only[Bool.false_eq_true,if_false];exact⟨decide_eq_false q,[],(List.append_nil _).symm⟩
   generalize hs9:(s8++[AO.list ((((zi es).zipIdx 0).filter fun p=>decide (p.1.take 1=[101])).map fun p=>.int (p.2:Nat))]++junk)=s9
   have c9:Ch [] s8 s9:=by subst hs9;exact(Ch.push ..).push' _
   have hl9:s9[s8.length]?=some (.list ((le.map fun p=>AV.int (p.2:Nat))++[.int (A:Nat)])):=by
    have e1:(((zi es).zipIdx 0).filter fun p=>decide (p.1.take 1=[101]))=le++[(y0 e.k e.j,A)]:=hle;subst hs9;rw[e1,List.map_append];exact zc zf
   refine uZ (zb (vn (zH hl9 (by decide) (X7 _ _) (zb (zj ?_)))));have W9:=W8.go c9
   have eA:((A:Nat):Int)+1=((A+1:Nat):Int):=by exact rfl
   rw[eA]
   have n2:((ρ₃.set 12 (.str bad)).set 13 (.int ((A+1:Nat):Int))).get 2=some (.ref R):=by exact rn (rn k2 rfl) rfl
   have nC:((ρ₃.set 12 (.str bad)).set 13 (.int ((A+1:Nat):Int))).get 12=some (.str bad):=by exact rn zg rfl
   have nD:((ρ₃.set 12 (.str bad)).set 13 (.int ((A+1:Nat):Int))).get 13=some (.int ((A+1:Nat):Int)):=zg;generalize ((ρ₃.set 12 (.str bad)).set 13 (.int ((A+1:Nat):Int)))=r4 at n2 nC nD
   have cu1:cut none (some ((A+1:Nat):Int)) ((zi es).map AV.str)=((zi es).take (A+1)).map AV.str:=by rw[vP,List.map_take]
   have cu2:cut (some ((A+1:Nat):Int)) none ((zi es).map AV.str)=((zi es).drop (A+1)).map AV.str:=by rw[jO,List.map_drop]
   generalize hrows':(zi es).take (A+1)++[bad]++(zi es).drop (A+1)=rows' at hL4
   have hr':∀r∈rows',Sm r/\r.length<=300:=fun r hr=>by
    rw[<-hrows']at hr;simp only[List.mem_append,List.mem_singleton]at hr
    rcases hr with (hr | hr) | hr
    ·exact hsm.1 r (List.mem_of_mem_take hr)
    ·rw[hr];exact⟨hbsm,F1 hb20⟩
    ·exact hsm.1 r (List.mem_of_mem_drop hr)
   have hn':rows'.length<=13:=by
    rw[<-hrows'];have:=hsm.2;simp only[List.length_append,List.length_take,List.length_drop,List.length_singleton];rw[Nat.add_right_comm,Nat.min_comm,Nat.add_comm (min _ _),Nat.sub_add_min_cancel];exact Nat.succ_le_succ this
   have hpsm':Sm (xr rows'):=Vm fun r hr=>(hr' r hr).1;have hplen':=YT (c:=300) fun r hr=>(hr' r hr).2
   have hpl':(xr rows').length=(zC [10] rows').length+1:=by exact List.length_append
   have hm':rows'.length*(300+1)<=13*(300+1):=Nat.mul_le_mul_right _ hn';have hsum':=sum_le (c:=300) fun r hr=>(hr' r hr).2;have hm2':rows'.length*300<=13*300:=Nat.mul_le_mul_right _ hn';have hl12:=hsm.2;refine asg yc 14 (ze (yf ⟨fun u=>rfl,fun u=>rfl,rfl,fun u=>rfl⟩ (zh (y:=[10]) (by kernel_rfl) ⟨_,_,jA F.slot_str_join F.type_str_join,.str,a1 ?_⟩)));refine ze (ze (zR (vv yc 2 n2 (vv yc 13 nD ⟨_,rfl,xz W9.rows (by rw[List.length_map];exact F1 hsm.2) (zr (a1 (vv yc 12 nC ⟨wB,?_⟩)))⟩))));rw[cu1];refine yA (zc zf) zf (by rw[List.length_map,List.length_take];simp;exact F2 (Nat.min_le_left (A+1) ((zi es).length)) hrow0) ?_;have cA:=(((Ch.push [] s9 [.list (((zi es).take (A+1)).map AV.str)]).push' [.list [.str bad]]).push' [.list (((zi es).take (A+1)).map AV.str++[.str bad])]);refine zR (vv yc 2 n2 (vv yc 13 nD ⟨_,rfl,xz (cA.get W9.rows (wE)) (by rw[List.length_map];exact F1 hsm.2) ?_⟩));rw[cu2];refine yA (zc zf) zf (by simp only[List.length_append,List.length_map,List.length_take,List.length_drop,List.length_singleton];exact F4 (Nat.min_le_right (A+1) ((zi es).length)) (Nat.sub_le ((zi es).length) (A+1)) hsm.2 hsm.2) ?_
   have eR:((zi es).take (A+1)).map AV.str++[.str bad]++((zi es).drop (A+1)).map AV.str=rows'.map AV.str:=by
    rw[<-hrows',List.map_append,List.map_append];rfl
   rw[eR];refine w5 zf (by simp only[List.length_singleton];exact F2 hsum' (U 301 hn')) (zh (y:=[10]) (by kernel_rfl) (z9 (by simp only[List.length_singleton];exact F3 (U 301 hn') hplen' (Re hpl')) ?_));have hb':(zC [10] rows'++[10]).map Nat.toUInt8=oct (xr rows'):=rfl
   have hbl':(oct (xr rows')).length<=16770000:=by unfold oct;rw[List.length_map];exact F2 (U 301 hn') hplen'
   refine za (zq (SD (XV rfl (cF g 36 rfl (a1 (cF g 30 rfl (a1 (vv yc 14 zg (y7 g (by rw[List.length_append,List.length_singleton];exact F3 (U 301 hn') hplen' (Re hpl')) hpsm' fun sA cA'=>?_)))))))));rw[hb'];refine tz g hbl' (by rw[hL4];exact nofun) (fun Is hIs=>by rw[hL4]at hIs;cases hIs) fun k hk sB cB'=>?_;rw[hL4]at hk;cases hk;refine ze (vv yc 13 (a:=.int ((A+1:Nat):Int)) (rn nD rfl) (zb (zj (z6 rfl (bod (fun q=>zo ?_) fun q=>absurd (rfl) q)))));refine XV rfl (cF g 36 rfl (a1 (zt (tz g (wA) (by rw[RQ];exact nofun) (fun Is hIs=>by rw[RQ]at hIs;cases hIs) fun k hk sC cC=>?_))));rw[RQ]at hk;cases hk;refine zb (z6 rfl ?_);exact hQ _ _
  ·intro name rest ρ₃ s6 p3z;refine Tc (p3z) fun c6 k1 k2 k3 k8=>?_;try clear p3z;refine⟨trivial,?_⟩;show WSs _ _ _ _ _ _ (ρ₃.set 11 (.bytes name)) _ _ _;have W6:=W5.go c6;have hP6:=hP5.ch c6 (nn);have hml6:=c6.get hml5 (wE);refine t_ (QZ hW3 name) fun t1 t2 t3=>?_
   have k1':(ρ₃.set 11 (.bytes name)).get 1=some (.ref d):=by exact rn k1 rfl
   have k2':(ρ₃.set 11 (.bytes name)).get 2=some (.ref R):=by exact rn k2 rfl
   have k3':(ρ₃.set 11 (.bytes name)).get 3=some (.ref Lr):=by exact rn k3 rfl
   have k8':(ρ₃.set 11 (.bytes name)).get 8=some (.ref m):=by exact rn k8 rfl
   have kB':(ρ₃.set 11 (.bytes name)).get 11=some (.bytes name):=zg;generalize (ρ₃.set 11 (.bytes name))=r4 at k1' k2' k3' k8' kB';refine za (z7 (zk rfl (cF g 37 rfl (a2 (vv yc 8 k8' (vv yc 11 kB' (kO g hzP hml6 hP6 (by rw[hPe];exact t1) (fun lt hlt q dq s7 c7 hq hdq hLq=>?_) fun hb s7 c7=>?_)))))))
   ·rw[hPe]at hlt;have W7:=W6.go c7;refine cF g 35 rfl (aN (vv yc 3 k3' (a2 (vv yc 11 kB' (zr (zA ⟨wD,?_⟩))))));have W8:=W7.go (Ch.push [] s7 [.list []]);refine X1 g hzPs (F1 hPsl) 5 (n:=n+4) (A:=[]) W8.lots (fun p hp=>(W8.ws p hp).1) zf (nn) (wD) (wA) (by rw[Drawn.same W];show xg _ 5 name []≠_;rw[<-t2];exact t1) (fun l' hl' q' d' s9 c9 hq' hd' hL'=>?_) fun hb' s9 c9=>?_
    ·rw[Drawn.same W]at hl';have hl'':xg (es.map fun p=>p.1.info) 5 name [] = .ok l':=hl';rw[<-t2,hlt]at hl'';cases hl'';have c79:=(Ch.push [] s7 [.list []]).trans c9;have hLq9:=hLq.ch c79 (wE) (fun u u=>wE);refine zX (hLq9.dict) fun ep1 e1=>?_;refine zX (hL'.dict) fun ep2 e2=>?_;exact Y7 (dkS B) g.hB e1 e2 (SU g (ep:=ep1) (ep':=ep2) hLq9 hL' fun k hk=>k_ (t3 lt hlt k) (RG hvo 5 name [] lt hlt k)) ⟨_,rfl,zm (zd (zd ⟨(c6.trans c7).trans c79,k1',k2',k3',k8'⟩))⟩
    ·rw[Drawn.same W]at hb';have hb'':xg (es.map fun p=>p.1.info) 5 name [] = .bad:=hb';rw[<-t2,hlt]at hb'';cases hb''
   ·rw[hPe]at hb;have W7:=W6.go c7;refine cF g 35 rfl (aN (vv yc 3 k3' (a2 (vv yc 11 kB' (zr (zA ⟨wD,?_⟩))))));have W8:=W7.go (Ch.push [] s7 [.list []]);refine X1 g hzPs (F1 hPsl) 5 (n:=n+4) (A:=[]) W8.lots (fun p hp=>(W8.ws p hp).1) zf (nn) (wD) (wA) (by rw[Drawn.same W];show xg _ 5 name []≠_;rw[<-t2];exact t1) (fun l' hl' q' d' s9 c9 hq' hd' hL'=>?_) fun hb' s9 c9=>?_
    ·rw[Drawn.same W]at hl';have hl'':xg (es.map fun p=>p.1.info) 5 name [] = .ok l':=hl';rw[<-t2,hb]at hl'';cases hl''
    ·exact Xx ⟨_,rfl,zm (zd (zd ⟨((c6.trans c7).trans (Ch.push [] s7 [.list []])).trans c9,k1',k2',k3',k8'⟩))⟩
 ·intro p rest r2 s5 p4z;refine SM (p4z) fun c5 hps j1 j2 j3 j8=>?_;try clear p4z;refine⟨c5.get hml4 (wE),?_⟩;have hp:=hps p (.head _);refine zn (hPent p hp) fun e he hpe=>?_;have hI5:=(hP4.all p hp).1.ch c5 (fun u u=>wE);have hsm5:=kY he;refine asg yc 10 (cF g 36 rfl (a1 (cF g 21 rfl (a1 (vv yc 9 zg (Yo g hI5 (by rw[hpe];exact hsm5) fun ks hks s6 c6=>?_))))));rw[hpe]at hks ⊢;refine Y6 (Py he hks) fun J hJ hJn hJu hJl=>?_
  refine tz g (Y1 hsm5 hks) (by rw[hJ];exact nofun) (fun Is hIs P2 m2 s7 c7 hm2 hP2 hPe2 hml2=>?_) fun k hk=>by rw[hJ]at hk;cases hk
  rw[hJ]at hIs;cases hIs
  obtain⟨q,rfl,hq⟩:∃q,P2=[q]/\q.2=J:=by
   cases P2 with
   | nil=>exact nomatch hPe2
   | cons q t =>
    simp only[List.map_cons,List.cons.injEq,List.map_eq_nil_iff]at hPe2;exact⟨q,by rw[hPe2.2],hPe2.1⟩
  have j1':((r2.set 9 (zD p.1)).set 10 (.ref m2)).get 1=some (.ref d):=by exact rn (rn j1 rfl) rfl
  have j2':((r2.set 9 (zD p.1)).set 10 (.ref m2)).get 2=some (.ref R):=by exact rn (rn j2 rfl) rfl
  have j3':((r2.set 9 (zD p.1)).set 10 (.ref m2)).get 3=some (.ref Lr):=by exact rn (rn j3 rfl) rfl
  have j8':((r2.set 9 (zD p.1)).set 10 (.ref m2)).get 8=some (.ref m):=by exact rn (rn j8 rfl) rfl
  have j9':((r2.set 9 (zD p.1)).set 10 (.ref m2)).get 9=some (zD p.1):=by exact rn zg rfl
  have jA':((r2.set 9 (zD p.1)).set 10 (.ref m2)).get 10=some (.ref m2):=zg;generalize ((r2.set 9 (zD p.1)).set 10 (.ref m2))=ρ₃ at j1' j2' j3' j8' j9' jA';have c57:=c6.trans c7;have hI7:=hI5.ch c57 (fun u u=>wE);have hsz:=uy he;refine za (z7 (xE (qa (xu (fun u u=>rfl) (sf g 7 rfl (vv yc 10 jA' ⟨_,.l hml2,_,rfl,zm ?_⟩))))));refine xE (zk rfl ?_);refine yu (caps:=[]) (t:=.one 16) yc.inj (.of (by kernel_rfl)) (.one (i:=16)) (nn) (fun u u=>rfl) (yj (vv yc 10 jA' (yg hml2 ?_)));refine tY [q] (fun p=>zD p.1) (fun p m' s'=>wy s7.length p.2 m' s') rfl (wB) (fun s' c=>c.get hml2 (wE)) (fun p m' s' s'' h c=>h.ch c) (fun x hx s' c hlt=>⟨_,rfl,?_⟩) fun ms s8 c8 hms hAll=>?_
  ·rw[List.mem_singleton]at hx;subst hx
   have hqs:x.2.names.length<=16777000/\x.2.uses.length<=16777000:=by
    rw[hq,hJn,hJu];have:=hsz;exact⟨(F1 hsz.1),(F1 hsz.2.2)⟩
   refine cF g 33 rfl (a1 (vv yc 16 rfl (s_ g ((hP2.all x (.head _)).1.ch c (fun u u=>wE)) hqs fun m' y s'' c' hm' hx0 hx5 hxk hS=>⟨c',m',rfl,y,hS,Qr (F2 hlt hm'),fun i hi=>?_⟩)));have hlt':=fun j (hj:j<6)=>(hP2.all x (.head _)).1.lt hj
   by_cases hi0:i=0
   ·subst hi0;exact Qr (F2 hlt hx0)
   ·by_cases hi5:i=5
    ·subst hi5;exact Qr (F2 hlt hx5)
    ·have h1:=hxk (i-1) (Nat.lt_succ_of_le (sa (F1 (nl (F1 hi) hi5))));have h2:=hlt' i hi;rw[show i-1+1=i from by exact AS (F1 (Le (S1 (i) (1) (F1 (nr (wD) hi0))))) (F1 (Re (S1 (i) (1) (F1 (nr (wD) hi0)))))]at h1;exact Ql (F2 (Le h1) h2)
  obtain⟨mq,rfl,hSq⟩:∃mq,ms=[mq]/\wy s7.length q.2 mq s8:=by
   cases hAll with
   | cons a b=>cases b;exact⟨_,rfl,a⟩
  refine zr (a1 (cF g 33 rfl (a1 (vv yc 9 j9' (s_ g (hI7.ch c8 (fun u u=>wE)) (by rw[hpe];exact⟨(F1 hsz.1),(F1 hsz.2.2)⟩) fun m' y s9 c9 hm' u u u hS=>⟨wB,?_⟩)))));have cF:=Ch.push [] s9 [.list [.ref m']];refine xA (r:=true) ((c9.trans cF).get hms (wE)) zf (.inr (Zt (ms:=[mq]) (ms':=[m']) (.cons ?_ .nil))) ⟨_,rfl,zm (xi (zm (zd (zd ?_))))⟩
  ·refine zn (hSq) fun x hx u=>?_;try clear hSq;have hS':=hS.ch cF;rw[hpe]at hS';rw[hq]at hx;exact V0 g (hx.ch (c9.trans cF)) hS' hJn hJu hJl
  ·exact⟨(((c5.trans c57).trans c8).trans c9).trans cF,fun p hp=>hps p (.tail _ hp),j1',j2',j3',j8'⟩
end
section
variable {B:Base} {n:Nat} {sc:Scope} {ρ:Rho} {Q X:AV->St->Prop} {st:St} {k:Nat}
set_option maxHeartbeats 8000000 in
theorem Sv (g:Gl B) (hlaw:LawAt B) {L:List Int} (hz:L.length<=1000) (hQ:∀s,Q (.bool true) s):Spec B (n+11) (.ref 338) [.clist (L.map AV.int)] st Q X:=by
 revert B n Q X st g hlaw L hz hQ
 intros B n Q X st g hlaw L hz hQ;obtain⟨fd,f1,f2,f3⟩:_:=hlaw;refine VA (is:=[0]) f1 g.hB.nolimit yc.inj (by decide) (by decide) rfl f3 (by rw[f2];decide +kernel) (by rw[f2];decide +kernel) ?_;rw[f2];refine UV yc 1 2 3 (zp (aN (cF g 28 rfl (a1 (vv yc 0 rfl (Ue g hz ?_))))));intros d l s1 c1 hd hl D1;refine aN (zr (zA ⟨by simp,a1 (zr (zA ⟨by simp,wA,_,rfl,rfl,?_⟩))⟩));have hdl1:=D1.lt;have c2:Ch [] s1 (s1++[.list []]++[.list []]):=(Ch.push ..).push' _
 have W0:Drawn st (s1++[.list []]++[.list []]) d l [] [] s1.length (s1.length+1):=by
  refine⟨c1.trans c2,D1.ch c2 (by simp) (by simp),by simp,fun i p hp=>by simp at hp,zc zf,?_,rfl,by simp,by simp;exact⟨(Qr (F1 hdl1.1)),(Qr (F1 hdl1.2))⟩,by simp;exact⟨(Qr (F1 hdl1.1)),(Qr (F1 hdl1.2))⟩⟩;have:=zf (st:=s1++[AO.list []]) (o:=.list []);exact g1
 rw[show (s1++[AO.list []]).length=s1.length+1 from by exact List.length_append];generalize (s1++[AO.list []]++[.list []])=s2 at W0 c2;refine vN yc 4 (cI g 10 rfl (ze (zb (cF g 29 rfl (a2 (vv yc 1 rfl (zb (yH g (many:=3) W0.deck (wB) (wA) ?_))))))));intros v hv s3 c3 D3;refine zj (sV (kL (0) (1+v) (by exact wD)) (J2 (j:=(1+v)) (F1 hv)) ?_);have W1:=W0.goD hd hl c3 D3;refine⟨Nat,List.range' 0 (v+1),fun i=>.int (i:Nat),fun rest r' s=>∃es Ps R Lr,es.length<=v+1/\rest=List.range' es.length (v+1-es.length)/\Drawn st s d l es Ps R Lr/\r'.get 1=some (.ref d)/\r'.get 2=some (.ref R)/\r'.get 3=some (.ref Lr),?_,?_,?_,?_⟩
 ·rw[show (1+(v:Int)).toNat=v+1 from by rw[Int.add_comm];rfl];exact qT (v+1) 0
 ·exact⟨[],[],_,_,wD,rfl,W1,rfl,rfl,rfl⟩
 ·intros r' s p3_;obtain⟨es,Ps,R,Lr,hel,hr,W,g1,g2,g3⟩:_:=p3_;refine⟨trivial,?_⟩
  have hlen:es.length=v+1:=by
   cases hq:v+1-es.length with
   | zero=>exact s4 hel hq
   | succ q=>rw[hq]at hr;exact nomatch hr
  exact Tu g hd hl W (by intro h;rw[h]at hlen;exact nomatch hlen) (F2 hv (Le hlen)) g1 g2 g3 fun z s=>hQ s
 ·intros i rest r' s p4_;obtain⟨es,Ps,R,Lr,hel,hr,W,g1,g2,g3⟩:_:=p4_;refine⟨trivial,?_⟩
  have hlt:es.length<v+1:=by
   cases hq:v+1-es.length with
   | zero=>rw[hq]at hr;exact nomatch hr
   | succ q=>exact s5 hq
  obtain⟨e1,e2⟩:i=es.length/\rest=List.range' (es.length+1) (v+1-(es.length+1)):=by
   rw[show v+1-es.length=(v+1-(es.length+1))+1 from by exact AS (F2 (Le (S1 (v+1) (es.length) (F1 hlt))) (Re (S1 (v+1) (es.length+1) (F1 hlt)))) (F2 (Le (S1 (v+1) (es.length+1) (F1 hlt))) (Re (S1 (v+1) (es.length) (F1 hlt)))),List.range'_succ]at hr
   injection hr with h1 h2
   exact⟨h1,h2⟩
  subst e1 e2
  have k1:(r'.set 4 (.int (es.length:Nat))).get 1=some (.ref d):=by exact rn g1 rfl
  have k2:(r'.set 4 (.int (es.length:Nat))).get 2=some (.ref R):=by exact rn g2 rfl
  have k3:(r'.set 4 (.int (es.length:Nat))).get 3=some (.ref Lr):=by exact rn g3 rfl
  have k4:(r'.set 4 (.int (es.length:Nat))).get 4=some (.int (es.length:Nat)):=zg;show WSs _ _ _ _ _ _ (r'.set 4 (.int (es.length:Nat))) _ _ _;generalize (r'.set 4 (.int (es.length:Nat)))=r1 at k1 k2 k3 k4;have hdls:=W.deck.lt;refine Zo yc 5 6 (cF g 32 rfl (a2 (vv yc 1 k1 (vv yc 4 k4 (XT g (k:=es.length) (F2 hv hlt) W.deck ?_)))));intros e R1 W' r s4 he hek c4 D4 hR1 hW1 hr1 hRW hrR hrows hWin;refine⟨_,rfl,rfl,?_⟩
  have q1:(r1.sets [5,6] [.ref R1,.ref W']).get 1=some (.ref d):=by exact rn (rn k1 rfl) rfl
  have q2:(r1.sets [5,6] [.ref R1,.ref W']).get 2=some (.ref R):=by exact rn (rn k2 rfl) rfl
  have q3:(r1.sets [5,6] [.ref R1,.ref W']).get 3=some (.ref Lr):=by exact rn (rn k3 rfl) rfl
  have q5:(r1.sets [5,6] [.ref R1,.ref W']).get 5=some (.ref R1):=by exact rn zg rfl
  have q6:(r1.sets [5,6] [.ref R1,.ref W']).get 6=some (.ref W'):=by exact zg
  generalize (r1.sets [5,6] [.ref R1,.ref W'])=r2 at q1 q2 q3 q5 q6;have W4:=W.goD hd hl c4 D4;have hsm:=ZM W.oks (F2 hv hlt);have hsm1:=ZM (es:=[(e,0)]) (fun p hp=>by rw[List.mem_singleton.mp hp];exact he) (wB)
  have her:e.rows.length<=12:=by
   have:=hsm1.2;simpa[zi,yO]using this
  refine uD yc 2 3 (zp (aN (ze (ze (vv yc 2 q2 (vv yc 5 q5 (yA W4.rows hrows (by simp;exact F2 hsm.2 her) ?_)))))));have W5:=W4.go (Ch.push [] s4 [.list ((zi es).map AV.str++e.rows.map AV.str)])
  have hs5:(s4++[AO.list ((zi es).map AV.str++e.rows.map AV.str)]).length=s4.length+1:=by exact List.length_append
  have h5g:(s4++[AO.list ((zi es).map AV.str++e.rows.map AV.str)])[s4.length]?=some (.list ((zi es++e.rows).map AV.str)):=by rw[List.map_append];exact zf
  have hWin5:=hWin.ch (Ch.push [] s4 [.list ((zi es).map AV.str++e.rows.map AV.str)]) (wE) (fun z z=>wE);have hdl4:=D4.lt;have c45:Ch [] s4 (s4++[AO.list ((zi es).map AV.str++e.rows.map AV.str)]):=Ch.push ..;generalize (s4++[AO.list ((zi es).map AV.str++e.rows.map AV.str)])=s5 at W5 hs5 h5g hWin5 c45;refine sub (zr (aN (zr (zA ⟨by simp,aN (zr (a1 (zh (y:=[35,32,97,32,114,101,109,97,114,107,44,32,111,102,32,110,111,32,109,97,116,116,101,114]) (by kernel_rfl) ⟨wB,a1 (zr (a1 (zh (y:=[]) (by kernel_rfl) ⟨wB,wA,?_⟩)))⟩)))⟩))))
  have hs6g:∀j,j<3->(s5++[AO.list []]++[.list [.str [35,32,97,32,114,101,109,97,114,107,44,32,111,102,32,110,111,32,109,97,116,116,101,114]]]++[.list [.str []]])[s5.length+j]?=some (.list ((yO j).map AV.str)):=by
   intros j hj
   have:j=0\/j=1\/j=2:=by exact l3 (F1 hj)
   rcases this with rfl | rfl | rfl<;>simp[yO]
  have e3:[AV.ref s5.length,.ref (s5++[AO.list []]).length,.ref (s5++[AO.list []]++[AO.list [.str [35,32,97,32,114,101,109,97,114,107,44,32,111,102,32,110,111,32,109,97,116,116,101,114]]]).length]=[AV.ref (s5.length+0),.ref (s5.length+1),.ref (s5.length+2)]:=by simp
  rw[e3];have c56:Ch [] s5 (s5++[AO.list []]++[.list [.str [35,32,97,32,114,101,109,97,114,107,44,32,111,102,32,110,111,32,109,97,116,116,101,114]]]++[.list [.str []]]):=((Ch.push ..).push' _).push' _;generalize (s5++[AO.list []]++[.list [.str [35,32,97,32,114,101,109,97,114,107,44,32,111,102,32,110,111,32,109,97,116,116,101,114]]]++[.list [.str []]])=s6 at hs6g c56;have W6:=(W5.go c56).go (Ch.push [] s6 [.list [AV.ref (s5.length+0),.ref (s5.length+1),.ref (s5.length+2)]]);have hWin6:=(hWin5.ch c56 (wE) (fun z z=>wE)).ch (Ch.push [] s6 [.list [AV.ref (s5.length+0),.ref (s5.length+1),.ref (s5.length+2)]]) (wE) (fun z z=>wE);have hs6l:=c56.1;refine cF g 29 rfl (a2 (vv yc 1 q1 (zb (yH g (many:=3) W6.deck (wB) (wA) ?_))));intros j hj s7 c7 D7;have W7:=W6.goD hd hl c7 D7
  have off:∀x,s.length<=x->x∉[d,l]:=by
   intros x hx hm;simp only[List.mem_cons,wE,or_false]at hm;exact hm.elim (fun q5_=>(Z (F3 hdls.1 hx (Le q5_)))) fun q5_=>(Z (F3 hdls.2 hx (Le q5_)))
  have hs4l:=c4.1;have hWin7:=hWin6.ch c7 (off _ hW1) fun i hi=>off _ (hr1 i hi);refine zH (c7.get zf (off _ (F3 (Re hs5) hs6l hs4l))) (I6 (F1 hj)) (Wl (fun j=>AV.ref (s5.length+j)) j hj) ?_;have g7a:=c7.get (zc (c56.get h5g (wE))) (off _ (hs4l));have g7b:=c7.get (zc (hs6g j hj)) (off _ (F2 (Re hs5) hs4l))
  have hrem:(yO j).length<=1:=by
   have:j=0\/j=1\/j=2:=by exact l3 (F1 hj)
   rcases this with rfl | rfl | rfl<;>simp[yO]
  have hs7l:=c7.1;simp only[List.length_append,List.length_singleton]at hs7l;refine yA g7a g7b (by simp;exact F3 hsm.2 her hrem) (a1 (ze (vv yc 3 q3 (zr (a1 (vv yc 6 q6 ⟨wB,?_⟩))))));have c8:Ch [] s7 (s7++[AO.list ((zi es++e.rows).map AV.str++(yO j).map AV.str)]++[.list [.ref W']]):=(Ch.push ..).push' _
  have hPs:Ps.length<=3:=by
   have:=congrArg List.length (Drawn.same W);simp only[List.length_map]at this;exact F3 hv hlt (Le this)
  refine yA ((W7.go c8).lots) zf (by simp;exact F1 hPs) ⟨wA,_,rfl,rfl,zd ?_⟩;have c9:=c8.push' [AO.list ((Ps.map fun p=>AV.ref p.1)++[.ref W'])];have W9:=W7.go c9;refine⟨es++[(e,j)],Ps++[(W',r,e.info)],s7.length,(s7++[AO.list ((zi es++e.rows).map AV.str++(yO j).map AV.str)]++[AO.list [.ref W']]).length,by simp;exact F1 hlt,by simp,⟨W9.ch,W9.deck,?_,kQ W.num hek,?_,?_,?_,?_,off _ (F4 (Re hs5) hs6l hs4l hs7l),?_⟩,?_,?_,?_⟩
  ·intros p hp
   rcases List.mem_append.mp hp with hp | hp
   ·exact W.oks p hp
   ·rw[List.mem_singleton.mp hp];exact he
  ·have e9:(zi es++e.rows++yO j).map AV.str=(zi es++e.rows).map AV.str++(yO j).map AV.str:=List.map_append;rw[sD,e9];exact zc (zc zf)
  ·have e10:(Ps++[(W',r,e.info)]).map (fun p=>AV.ref p.1)=(Ps.map fun p=>AV.ref p.1)++[.ref W']:=by exact List.map_append ..
   rw[e10];exact zf
  ·rw[List.map_append,List.map_append,Drawn.same W];rfl
  ·intros p hp
   rcases List.mem_append.mp hp with hp | hp
   ·exact W9.ws p hp
   ·rw[List.mem_singleton.mp hp];exact⟨hWin7.ch c9 (wE) (fun z z=>wE),off _ hW1,fun i hi=>off _ (hr1 i hi)⟩
  ·refine off _ ?_;simp;exact F4 (Re hs5) hs6l hs4l hs7l
  ·exact rn (rn q1 rfl) rfl
  ·exact zg
  ·exact rn zg rfl
end
noncomputable def uq (K:Frag) (a:Addr):Option (Value×Data):=(K.lookup a).map fun o=>(o.cls,o.data)
noncomputable def kK (K:Frag) (a:Addr):FuncData:=match K.lookup a with
 | some ⟨_,_,.func fd,_⟩=>fd
 | _=>default
noncomputable def TE (K:Frag) (a:Addr):Array DictEntry×Nat:=match K.lookup a with
 | some ⟨_,_,.dict es n,_⟩=>(es,n)
 | _=>default
noncomputable def uF (K:Frag) (a:Addr):Array Value×Nat:=match K.lookup a with
 | some ⟨_,_,.seq vs n,_⟩=>(vs,n)
 | _=>default
noncomputable def Sb (K:Frag) (a:Addr):Array Value:=match K.lookup a with
 | some ⟨_,_,.fields vs,_⟩=>vs
 | _=>default
noncomputable def YR:Value->Addr
 | .ref a=>a
 | _=>0
noncomputable def YC:Value->Tok
 | .int _ t=>t
 | .str _ t=>t
 | .bytes _ t=>t
 | _=>default
noncomputable def nsAt (K:Frag) (a:Addr) (x:Str):Option Value:=nsFind (TE K a).1 x
noncomputable abbrev u_ (K:Frag) (a:Addr):Prop:=(uq K a).map (fun x=>x.2)=some (.dict (TE K a).1 (TE K a).2)
theorem qU {K:Frag} {h:Heap} (X:K.In h) {a:Addr} {d:Data} (e:(uq K a).map (fun x=>x.2)=some d):∃o,h.get? a=some o/\o.data=d:=by
 unfold uq at e;rw[Option.map_map,Option.map_eq_some_iff]at e;refine zn e fun o h1 h2=>?_;exact⟨o,X _ _ h1,h2⟩
theorem Yq {K:Frag} {h:Heap} (X:K.In h) {a:Addr} {d:Value×Data} (e:uq K a=some d):∃o,h.get? a=some o/\(o.cls,o.data)=d:=by
 refine zn (Option.map_eq_some_iff.mp e) fun o h1 h2=>?_;exact⟨o,X _ _ h1,h2⟩
noncomputable abbrev Xc (K:Frag) (cd:Value) (q:Str):Prop :=
 (cd,(uq K (YR cd)).map (fun x=>x.2),(Sb K (YR cd))[1]?)=(.ref (YR cd),some (.fields (Sb K (YR cd))),some (.str q (YC ((Sb K (YR cd))[1]?.getD .none))))
theorem Xc.rec {K:Frag} {h:Heap} (X:K.In h) {cd:Value} {q:Str} (e:Xc K cd q):h.CodeRec cd q:=by
 have e':=Prod.mk.inj e;have e2:=Prod.mk.inj e'.2;refine zn (qU X e2.1) fun o h1 h2=>?_;exact QU _ _ _ _ e'.1 h1 h2 e2.2
noncomputable def u9:List (Addr×Nat):=(338,52)::xe.zipIdx.map fun p=>(p.1.2,y6 p.2)
noncomputable def QO (n:Nat):List (Addr×Nat):=u9.filter fun p=>Nat.beq (tM p.2).length n
structure FnF (K:Frag):Prop where
 look:(u9.map fun p=>(uq K p.1).map (fun x=>x.2))=u9.map fun p=>some (.func (kK K p.1))
 glob:(u9.map fun p=>((kK K p.1).globals,(kK K p.1).builtins,(kK K p.1).closure))=u9.map fun _=>(mainGlobals,builtinsNs,[])
 body:(u9.map fun p=>((kK K p.1).body,(kK K p.1).scope))=u9.map fun p=>(.stmts (xq p.2),zT p.2)
 code:∀p∈u9,Xc K (kK K p.1).code (kK K p.1).qualname
 kind:(u9.map fun p=>((zT p.2).isCoroutine,(zT p.2).isGenerator,(zT p.2).kind))=u9.map fun _=>(false,false,.function)
 few:(u9.all fun p=>Nat.ble (tM p.2).length 5)=true
 binds:∀vs:List Value,vs.length<=5->((QO vs.length).map fun p=>bindArgs (kK K p.1) ⟨vs,[]⟩)=(QO vs.length).map fun p=>pure ((tM p.2).zip vs)
theorem R9 {B:Base} (X:B.K.In B.H₀) {a:Addr} {i:Nat} (f:FnF B.K) (m:(a,i)∈u9):∃fd,XR B a fd (xq i)/\fd.scope=zT i /\ ∀vs:List Value,vs.length=(tM i).length->bindArgs fd ⟨vs,[]⟩=pure ((tM i).zip vs):=by
 have g:=Prod.mk.inj (List.map_inj_left.mp f.glob _ m);have g2:=Prod.mk.inj g.2;have b:=Prod.mk.inj (List.map_inj_left.mp f.body _ m);have k:=Prod.mk.inj (List.map_inj_left.mp f.kind _ m);have k2:=Prod.mk.inj k.2;refine⟨kK B.K a,⟨qU X (List.map_inj_left.mp f.look _ m),(f.code _ m).rec X,g.1,g2.1,g2.2,b.1,?_,?_,?_⟩,b.2,fun vs hv=>?_⟩
 ·rw[b.2];exact k.1
 ·rw[b.2];exact k2.1
 ·rw[b.2];exact k2.2
 ·have h5:=Nat.le_of_ble_eq_true (List.all_eq_true.mp f.few _ m);refine List.map_inj_left.mp (f.binds vs (by rw[hv];exact h5)) _ (List.mem_filter.mpr ⟨m,?_⟩);rw[hv];exact Nat.beq_refl _
theorem mg_at {K:Frag} {h:Heap} {mg:Str->Option Value} (X:K.In h) {a:Addr} (hd:u_ K a) (hn:h.Ns a mg) (x:Str):mg x=nsAt K a x:=by
 refine zn (qU X hd) fun o h1 h2=>?_;refine X9 hn fun o' es ep ho hdat _ hf=>?_;rw[h1]at ho;rw[<-Option.some.inj ho,h2]at hdat;rw[<-hf x,<-(Data.dict.inj hdat).1];rfl
noncomputable def reb:AV->Value->Value
 | .int i,v=>.int i (YC v)
 | .str s,v=>.str (mkS s) (YC v)
 | .bytes b,v=>.bytes b.toArray (YC v)
 | _,v=>v
noncomputable def flat:AV->Bool
 | .int _=>true
 | .str _=>true
 | .bytes _=>true
 | _=>false
theorem Te {B:Base} {h:Heap} {φ P:List Addr} {a:AV} {v:Value} (f:flat a=true) (e:v=reb a v):VR B h φ P a v:=by
 cases a<;>first | exact⟨_,e⟩ | cases f
theorem Rk {B:Base} {h:Heap} {φ P:List Addr} {l:List AV} (f:l.all flat=true):∀{vs:List Value},vs=l.zipWith reb vs->vs.length=l.length->VRs B h φ P l vs:=by
 induction l with
 | nil=>exact fun e _=>e
 | cons a l ih =>
  intro vs e hl
  cases vs with
  | nil=>cases hl
  | cons v vs =>
   have e':=List.cons.inj e;have f':=Bool.and_eq_true_iff.mp f;exact zV v vs rfl (Te f'.1 e'.1) (ih f'.2 e'.2 (Nat.succ.inj hl))
noncomputable def qz:AV->List AV
 | .tup l=>l
 | _=>[]
structure Qs (K:Frag) (a:Addr) (l:List AV):Prop where
 look:uq K a=some (.type "tuple",.seq (uF K a).1 (uF K a).2)
 vals:(uF K a).1.toList=l.zipWith reb (uF K a).1.toList
 len:(uF K a).1.toList.length=l.length
 flat:l.all flat=true
theorem RE {B:Base} (X:B.K.In B.H₀) {s:Shared} {φ P:List Addr} {st:St} (S:SR B s φ P st) {a:Addr} {l:List AV} (t:Qs B.K a l):VR B s.heap φ P (.tup l) (.ref a):=by
 refine zn (Yq X t.look) fun o h1 h2=>?_;have h2:=Prod.mk.inj h2;refine Pl a (uF B.K a).1.toList rfl (fun hm=>?_) (fun hm=>?_) (uG o (S.base _ _ h1) h2.1 ⟨_,h2.2⟩) (Rk t.flat t.vals t.len)
 ·have:=S.newφ a hm;rw[h1]at this;cases this
 ·have:=S.newP a hm;rw[h1]at this;cases this
theorem Rl {B:Base} (X:B.K.In B.H₀) {s:Shared} {φ P:List Addr} {st:St} (S:SR B s φ P st) {L:List (Addr×AV)} (t:∀p∈L,Qs B.K p.1 (qz p.2)/\AV.tup (qz p.2)=p.2):VRs B s.heap φ P (L.map (fun x=>x.2)) (L.map fun p=>.ref p.1):=by
 induction L with
 | nil=>exact rfl
 | cons p L ih =>
  have h:=t p (.head _);exact zV _ _ rfl (by show VR _ _ _ _ p.2 _;rw[<-h.2];exact RE X S h.1) (ih fun q hq=>t q (.tail _ hq))
noncomputable def wI:List (Addr×AV):=t9.zipIdx.map fun p=>(250+p.2,p.1)
structure KF (K:Frag):Prop where
 dict:u_ K mainGlobals
 fn:FnF K
 lawPar:tM 52=[0].map (zx nLaw)
 fnNs:(xe.map fun p=>nsAt K mainGlobals (Str.ofString p.1))=xe.map fun p=>some (.ref p.2)
 fnKeep:(xe.map fun p=>keepIn K (.ref p.2))=xe.map fun _=>true
 bltNs:(yX.map fun p=>nsAt K mainGlobals (Str.ofString p.1))=yX.map fun _=>none
 blt:(yX.map fun p=>bootBuiltins (Str.ofString p.1))=yX.map fun p=>some p.2
 bltName:∀p∈yX,Str.ofString p.1≠("__name__":Str)
 dat:((wP.take 7).map fun p=>(flat p.2,nsAt K mainGlobals (Str.ofString p.1)))=(wP.take 7).map fun p=>(true,some (reb p.2 ((nsAt K mainGlobals (Str.ofString p.1)).getD .none)))
 signs:nsAt K mainGlobals (Str.ofString "_law_signs")=some (.ref 266)
 signL:uq K 266=some (.type "list",.seq (wI.map fun p=>Value.ref p.1).toArray (uF K 266).2)
 signT:∀p∈wI,Qs K p.1 (qz p.2)/\AV.tup (qz p.2)=p.2
 badNs:nsAt K mainGlobals (Str.ofString "BadInfo")=some (.ref 45)
 badKeep:keepIn K (.ref 45)=true
 hasDict:hasDictIn K 45=true
 infoNs:nsAt K mainGlobals (Str.ofString "Info")=some (.ref 85)
 infoKeep:keepIn K (.ref 85)=true
theorem jq {α β:Type} {f g:α->β} {l:List α} (h:l.map f=l.map g) {i:Nat} {a:α} (ha:l[i]?=some a):f a=g a:=by
 have:=congrArg (fun m=>m[i]?) h;simp only[List.getElem?_map,ha,Option.map_some,Option.some.injEq]at this;exact this
structure Around1 (B:Base) (mg mb:Str->Option Value):Prop where
 X:B.K.In B.H₀
 g:B.H₀.Ns mainGlobals mg
 b:B.H₀.Ns builtinsNs mb
 blt:∀x:Str,x≠"__name__"->mb x=bootBuiltins x
 nolimit:B.H₀.NoLimit
 sys:∃o,B.H₀.get? sysModules=some o
theorem sL {B:Base} {mg mb:Str->Option Value} (A:Around1 B mg mb) (hd:u_ B.K mainGlobals) {x:Str} {f:Value} (e:nsAt B.K mainGlobals x=some f):xl B x f:=fun h k =>
 (zw mg (A.g.keeps k) (.inl (by rw[mg_at A.X hd A.g];exact e)))
theorem Ra {B:Base} {mg mb:Str->Option Value} (A:Around1 B mg mb) (hd:u_ B.K mainGlobals) {x:Str} {f:Value} (e:nsAt B.K mainGlobals x=none) (hn:x≠("__name__":Str)) (hb:bootBuiltins x=some f):xl B x f:=fun h k =>
 (zw mg (A.g.keeps k) (.inr ⟨by rw[mg_at A.X hd A.g];exact e,mb,A.b.keeps k,by rw[A.blt x hn];exact hb⟩))
theorem Sq {B:Base} {mg mb:Str->Option Value} (A:Around1 B mg mb) (F:KF B.K):Glo B:=fun i x v h =>
 Ra A F.dict (jq F.bltNs h) (F.bltName _ (List.mem_of_getElem? h)) (jq F.blt h)
theorem gl_of {B:Base} {mg mb:Str->Option Value} (A:Around1 B mg mb) (F:KF B.K) (hc:B.cBad=45) (hi:B.cInfo=85) (bad:qx B) (info:Glo B->jF B):Gl B where
 G:=Sq A F
 D:=by
  intro i x a h
  by_cases hi:i<7
  ·have h7:(wP.take 7)[i]?=some (x,a):=by rw[List.getElem?_take,if_pos hi];exact h
   have e:=Prod.mk.inj (jq F.dat h7);exact zw _ (sL A F.dict e.2) (fun _ _ _ _ _=>Te e.1 (congrArg (reb a) (congrArg (fun o=>o.getD .none) e.2)))
  ·have h7:i=7:=Nat.le_antisymm (Nat.le_of_lt_succ (List.getElem?_eq_some_iff.mp h).1) (Nat.le_of_not_lt hi);subst h7;cases h;refine zw (.ref 266) (sL A F.dict F.signs) (fun s φ P st S=>?_);refine zn (Yq A.X F.signL) fun o h1 h2=>?_;exact zV 266 _ rfl (uG o h1 (Prod.mk.inj h2).1 ⟨_,(Prod.mk.inj h2).2⟩) (Rl A.X S F.signT)
 F:=fun i x a h=>⟨sL A F.dict (jq F.fnNs h),Vi A.X (jq F.fnKeep h)⟩
 hB:=⟨A.sys,A.nolimit⟩
 bad:=bad
 badG:=by rw[hc];exact sL A F.dict F.badNs
 badK:=by rw[hc];exact Vi A.X F.badKeep
 hasDict:=by rw[hc];exact F.hasDict
 info:=info (Sq A F)
 infoG:=by rw[hi];exact sL A F.dict F.infoNs
 infoK:=by rw[hi];exact Vi A.X F.infoKeep
 fn:=fun j x a h=>R9 A.X F.fn (.tail _ (List.mem_map.mpr ⟨((x,a),j),List.mk_mem_zipIdx_iff_getElem?.mpr h,rfl⟩))
theorem law_at_of {B:Base} (X:B.K.In B.H₀) (F:KF B.K):LawAt B:=by
 refine yY (R9 X F.fn (.head _)) fun fd h1 h2 h3=>?_;refine uG fd h1 h2 (fun vs hv=>?_);rw[h3 vs (by rw[F.lawPar];exact hv),F.lawPar]
theorem law_call {B:Base} (g:Gl B) (hl:LawAt B) {s₁:Shared} (hH:B.H₀=s₁.heap) (hos:B.os₀=s₁.os) (hg:s₁.gens = #[]) {a:Addr} {vs:List Value} {L:List Int} (ha:s₁.heap.IsList a vs.toArray) (hI:IntsAre vs L) (hz:L.length<=63) :
  codeAny (model B.prog B.w) callerA (.call (.ref 338) ⟨[.ref a],[]⟩) (fun r s'=>r = .ok (.ret (.bool true))/\(∀b o,s₁.heap.get? b=some o->s'.heap.get? b=some o)/\s'.os=s₁.os/\s'.gens = #[]) s₁:=by
 revert B g hl s₁ hH hos hg a vs L ha hI hz
 intros B g hl s₁ hH hos hg a vs L ha hI hz;have sp:=Sv (n:=0) (Q:=fun a z=>a = .bool true) (X:=fun z z=>False) (st:=[]) g hl (L:=L) (F1 hz) (fun z=>rfl)
 have S:SR B s₁ [] [] []:=by
  refine⟨fun b o e=>by rw[hH]at e;exact e,hg,hos.symm,rfl,?_,List.nodup_nil,?_,?_,?_,?_⟩
  ·intro n a o h;simp at h
  ·intros a h;cases h
  ·intros a h;cases h
  ·intros a h;cases h
  ·intros a h;cases h
 have intsV:∀{vs:List Value} {L:List Int},IntsAre vs L->VRs B s₁.heap [] [] (L.map AV.int) vs:=by
  intros vs L h
  induction h with
  | nil=>exact rfl
  | cons=>exact zV _ _ rfl yG (by assumption)
 have rv:VRs B s₁.heap [] [] [.clist (L.map AV.int)] [.ref a]:=by
  refine zV _ ([]) rfl ?_ (rfl);exact zV a vs rfl (by rw[hH];exact ha) (intsV hI)
 have key:=sp callerA [] s₁ [] [.ref a] [] rfl (by decide) (by decide) rfl (nn) S rv;refine codeAny_mono key ?_;intros r s' h
 have fin:∀v,Po B [] s₁.heap [] (Val B [] fun a z=>a = .bool true) v s'->v = .bool true/\(∀b o,s₁.heap.get? b=some o->s'.heap.get? b=some o)/\s'.os=s₁.os/\s'.gens = #[]:=by
  intros v p2_;obtain⟨φ,st,S',_,a',ra,rfl⟩:_:=p2_;exact d4_ (jc ra) (fun b o e=>S'.base b o (by rw[hH];exact e)) (S'.os.trans hos) S'.gens
 match r,h with
 | .ok (.ret v),h =>
  obtain⟨e,r⟩:_:=fin v h;exact⟨by rw[e],r⟩
 | .ok .next,h=>exact h.elim
 | .ok .brk,h=>exact h.elim
 | .ok .cont,h=>exact h.elim
 | .error x,h =>
  obtain⟨_,_,_,_,_,_,h⟩:_:=h;exact h.elim
theorem fnF (P:Params):FnF (hd.heap_1 P) where
 look:=by kernel_rfl
 glob:=by kernel_rfl
 body:=by kernel_rfl
 code:=List.map_inj_left.mp (by kernel_rfl)
 kind:=by kernel_rfl
 few:=by kernel_rfl
 binds:=fun vs h=>match vs,h with
  | [],_=>by kernel_rfl
  | [_],_=>by kernel_rfl
  | [_,_],_=>by kernel_rfl
  | [_,_,_],_=>by kernel_rfl
  | [_,_,_,_],_=>by kernel_rfl
  | [_,_,_,_,_],_=>by kernel_rfl
  | _::_::_::_::_::_::_,h=>absurd h (by simp)
theorem kf (P:Params):KF (hd.heap_1 P) where
 dict:=by kernel_rfl
 fn:=fnF P
 lawPar:=by kernel_rfl
 fnNs:=by kernel_rfl
 fnKeep:=by kernel_rfl
 bltNs:=by kernel_rfl
 blt:=by kernel_rfl
 bltName:=by decide +kernel
 dat:=by kernel_rfl
 signs:=by kernel_rfl
 signL:=by kernel_rfl
 signT:=fun p m=>⟨⟨List.map_inj_left.mp (show (wI.map fun p=>uq (hd.heap_1 P) p.1)=wI.map fun p=>some (.type "tuple",.seq (uF (hd.heap_1 P) p.1).1 (uF (hd.heap_1 P) p.1).2) by kernel_rfl) p m,
  List.map_inj_left.mp (show (wI.map fun p=>(uF (hd.heap_1 P) p.1).1.toList)=wI.map fun p=>(qz p.2).zipWith reb (uF (hd.heap_1 P) p.1).1.toList by kernel_rfl) p m,
  List.map_inj_left.mp (show (wI.map fun p=>(uF (hd.heap_1 P) p.1).1.toList.length)=wI.map fun p=>(qz p.2).length by kernel_rfl) p m,
  List.map_inj_left.mp (show (wI.map fun p=>(qz p.2).all flat)=wI.map fun p=>true by kernel_rfl) p m⟩,
  List.map_inj_left.mp (show (wI.map fun p=>AV.tup (qz p.2))=wI.map fun p=>p.2 by kernel_rfl) p m⟩
 badNs:=by kernel_rfl
 badKeep:=by kernel_rfl
 hasDict:=by kernel_rfl
 infoNs:=by kernel_rfl
 infoKeep:=by kernel_rfl
noncomputable def QQ:Value->Str
 | .str s _=>s
 | _=>default
theorem QC {K:Frag} {h:Heap} (X:K.In h) {a:Addr} (hd:u_ K a) (hk:((TE K a).1.toList.map fun e=>e.key)=(TE K a).1.toList.map fun e=>.str (QQ e.key) (YC e.key)):h.Ns a (nsAt K a):=by
 refine zn (qU X hd) fun o h1 h2=>?_;exact⟨o,_,_,h1,h2,fun e he=>⟨_,_,List.map_inj_left.mp hk e (by simpa using he)⟩,fun _=>rfl⟩
theorem bad_ok {p:Program} {w:World} {P:Params} {h:Heap} {os:OsState} (X:(hd.heap_1 P).In h):qx ⟨p,w,hd.heap_1 P,h,os,85,45⟩ where
 inK:=X
 obj:=⟨_,_,_,_,_,_,_,_,_,_,_,_,_,_,_,X 45 _ rfl⟩
 init:=⟨29,_,_,_,_,_,by kernel_rfl,by kernel_rfl,⟨⟨_,X 29 _ rfl,rfl⟩,Xc.rec X (by kernel_rfl),rfl,rfl,rfl,rfl,rfl,rfl,rfl⟩,fun s k a b=>BindsTo.of_defaults rfl (k _ _ (X 22 _ rfl)) rfl rfl rfl,by kernel_rfl⟩
 told:=by kernel_rfl
 set:=by kernel_rfl
 get:=by kernel_rfl
 hook:=by kernel_rfl
theorem info_mk {p:Program} {w:World} {P:Params} {h:Heap} {os:OsState} (X:(hd.heap_1 P).In h) (G:Glo ⟨p,w,hd.heap_1 P,h,os,85,45⟩):jF ⟨p,w,hd.heap_1 P,h,os,85,45⟩ where
 inK:=X
 get:=by kernel_rfl
 attrs:=by
  intro x hx
  have e:(zI.map fun x=>findIn (hd.heap_1 P) (.ref 85) x)=zI.map fun _=>some none:=by kernel_rfl
  exact(List.map_inj_left.mp e) x hx
 dict:=by kernel_rfl
 obj:=by
  have e:(zI.map fun x=>nsAt (hd.heap_1 P) 84 x)=zI.map fun _=>none:=by kernel_rfl
  exact⟨_,_,_,nsAt (hd.heap_1 P) 84,_,_,_,_,_,_,_,_,_,_,_,X 85 _ rfl,QC X (by kernel_rfl) (by kernel_rfl),by kernel_rfl,List.map_inj_left.mp e⟩
 makes:=by kernel_rfl
 init:=⟨82,_,_,74,by kernel_rfl,by kernel_rfl,⟨⟨_,X 82 _ rfl,rfl⟩,Xc.rec X (by kernel_rfl),rfl,rfl,rfl,rfl,rfl,rfl,rfl⟩,.cons (.cons (.cons (.cons (.cons (.cons .nil))))),fun s k x a b c d e=>BindsTo.of_defaults rfl (k _ _ (X 75 _ rfl)) rfl rfl rfl,by kernel_rfl,⟨_,X 74 _ rfl,rfl,_,rfl⟩⟩
 list:=G 7 "list" _ rfl
 dict':=G 8 "dict" _ rfl

end Mine
set_option tactic.hygienic true in
set_option maxRecDepth 100000 in
set_option maxHeartbeats 8000000 in
theorem PySem.Challenge.cw_og0259_01_holds : PySem.Challenge.rw_og0259_01.Holds :=
 Mine.hd (by
 k_fill
 intro w s0 s₁ mg mb G Y fa o pm cd doc dV kV ho hd hcd hD hmg hg args vals as hpre hlay hrd hwl hlo;have KX := kIn_of Y;have T := G.T
 have hfa : fa=338 := by
  have h1 := Mine.mg_at KX (Mine.kf w.params).dict T.g (Str.ofString "law")
  have h2 : Mine.nsAt (Mine.hd.heap_1 w.params) mainGlobals (Str.ofString "law")=some (.ref 338) := by kernel_rfl
  have h3 : mg (Str.ofString "law")=some (.ref fa) := hmg;rw[h1, h2]at h3;cases h3;rfl
 subst hfa;have SE := T.seer (by kernel_rfl);clear ho hd hcd hD hmg Y
 wrow_args hpre hlay hrd hwl hlo
 rename_i L _ _ _ _ _ _ a vs _ hIs _ _ _ hInts _ hlen _
 let B : Mine.Base := ⟨PySem.Challenge.rw_og0259_01.row.prog, w, Mine.hd.heap_1 w.params, s₁.heap, s₁.os, 85, 45⟩
 have AR : Mine.Around1 B mg mb := ⟨KX, T.g, T.b, T.builtins, T.nolimit, let ⟨_, h, _⟩ := SE.mods;let ⟨o, _, _, ho, _⟩ := h;⟨o, ho⟩⟩;have GL : Mine.Gl B := Mine.gl_of AR (Mine.kf w.params) rfl rfl (Mine.bad_ok KX) (Mine.info_mk KX);have LA : Mine.LawAt B := Mine.law_at_of KX (Mine.kf w.params);refine enter_call ?_;refine codeAny_mono (Mine.law_call GL LA rfl rfl hg hIs hInts (by omega)) fun r s' h => ?_;obtain⟨rfl, hk, hos, hgs⟩ := h;refine⟨.inl ⟨.bool true, .bool true, [], rfl, ?_, ?_, ?_, ?_⟩, .of_keep hk, hos, .of_eq hgs⟩
 ·intro cls;rfl
 ·exact .bool true
 ·wrow_post
 ·intro _;exact⟨List.nodup_nil, fun a ha => nomatch ha⟩)
